import Derived.Test.YtmjmhccjkmjahaaGreatAf
import Derived.Test.YtmjmhccjkmjahaaGreatRows
import Derived.IntWalk
set_option linter.unusedVariables false
set_option linter.unusedSimpArgs false
set_option linter.unusedSectionVars false

namespace Go.Sim.Cr
open Go.Proofs
theorem fitInt {k : IntKind} {c : V} (h : Fit (.int k) c) : ∃ n, c = .int k n ∧ k.min ≤ n ∧ n ≤ k.max := by
 cases h with
 | int h => exact ⟨_, rfl, h⟩
theorem fitL_nil {cs : List V} (h : FitL [] cs) : cs = [] := by
 have := h.1
 exact List.eq_nil_of_length_eq_zero this
theorem fitL_cons {s : Sh} {l : List Sh} {cs : List V} (h : FitL (s :: l) cs) : ∃ c cs', cs = c :: cs' ∧ Fit s c ∧ FitL l cs' := by
 obtain ⟨h1, h2⟩ := h
 cases cs with
 | nil => simp at h1
 | cons c cs' => exact ⟨c, cs', rfl, h2 0 s c rfl rfl, by simpa using h1, fun j s' c' g1 g2 => h2 (j + 1) s' c' (by simpa using g1) (by simpa using g2)⟩
theorem fitL_int {k : IntKind} {l : List Sh} {cs : List V} (h : FitL (.int k :: l) cs) : ∃ n cs', cs = .int k n :: cs' ∧ FitL l cs' := by
 obtain ⟨c, cs', rfl, h1, h2⟩ := fitL_cons h
 obtain ⟨n, rfl, _⟩ := fitInt h1
 exact ⟨n, cs', rfl, h2⟩
theorem fitRow {α : Type} {e : α → List V} {l : List Sh} (dec : ∀ cs, FitL l cs → ∃ a : α, cs = e a) {c : V} (h : Fit (.row l) c) : ∃ s : Sl α, c = sl e l.length s ∧ s.len ≤ 140737488355328 ∧ (s.nl = true → s.len = 0) := by
 cases h with
 | row h hn hl hf =>
  rename_i nl len get
  have hx : ∀ i, ∃ a : α, get i = e a := fun i => dec _ ⟨hl i, hf i⟩
  refine ⟨⟨nl, len, fun i => (hx i).choose⟩, ?_, h, hn⟩
  show V.row nl len l.length get = V.row nl len l.length fun i => e (hx i).choose
  congr 1
  funext i
  exact (hx i).choose_spec
theorem fitL_row {α : Type} {e : α → List V} {l r : List Sh} (dec : ∀ cs, FitL l cs → ∃ a : α, cs = e a) {cs : List V} (h : FitL (.row l :: r) cs) : ∃ (s : Sl α) (cs' : List V), cs = sl e l.length s :: cs' ∧ s.len ≤ 140737488355328 ∧ (s.nl = true → s.len = 0) ∧ FitL r cs' := by
 obtain ⟨c, cs', rfl, h1, h2⟩ := fitL_cons h
 obtain ⟨s, rfl, h3, h4⟩ := fitRow dec h1
 exact ⟨s, cs', rfl, h3, h4, h2⟩
abbrev i8 : Sh := .int .i64
abbrev shSpan : List Sh := [i8, i8]
abbrev shCav : List Sh := [i8, i8, i8, i8, i8, i8, i8, i8, i8, i8, i8]
abbrev shRow : List Sh := [i8, i8, i8, i8, i8]
abbrev shTri : List Sh := [i8, i8, i8]
abbrev shStt : List Sh := [i8, i8, i8, i8, i8, i8]
abbrev shSite : List Sh := [.row shCav, .row shRow, .row shTri, i8, .row shTri, .row shTri]
abbrev shDay : List Sh := [.row shSpan, .row shSpan]
theorem decInt (cs : List V) (h : FitL [i8] cs) : ∃ n : Int, cs = eInt n := by
 obtain ⟨a, _, rfl, h1⟩ := fitL_int h
 obtain rfl := fitL_nil h1
 exact ⟨a, rfl⟩
theorem decSpan (cs : List V) (h : FitL shSpan cs) : ∃ p : Span, cs = eSpan p := by
 obtain ⟨a, _, rfl, h1⟩ := fitL_int h
 obtain ⟨b, _, rfl, h2⟩ := fitL_int h1
 obtain rfl := fitL_nil h2
 exact ⟨⟨a, b⟩, rfl⟩
theorem decCav (cs : List V) (h : FitL shCav cs) : ∃ c : Cav, cs = eCav c := by
 obtain ⟨a0, _, rfl, h1⟩ := fitL_int h
 obtain ⟨a1, _, rfl, h2⟩ := fitL_int h1
 obtain ⟨a2, _, rfl, h3⟩ := fitL_int h2
 obtain ⟨a3, _, rfl, h4⟩ := fitL_int h3
 obtain ⟨a4, _, rfl, h5⟩ := fitL_int h4
 obtain ⟨a5, _, rfl, h6⟩ := fitL_int h5
 obtain ⟨a6, _, rfl, h7⟩ := fitL_int h6
 obtain ⟨a7, _, rfl, h8⟩ := fitL_int h7
 obtain ⟨a8, _, rfl, h9⟩ := fitL_int h8
 obtain ⟨a9, _, rfl, h10⟩ := fitL_int h9
 obtain ⟨a10, _, rfl, h11⟩ := fitL_int h10
 obtain rfl := fitL_nil h11
 exact ⟨⟨a0, a1, ⟨a2, a3⟩, ⟨a4, a5⟩, a6, a7, ⟨a8, a9⟩, a10⟩, rfl⟩
theorem decRow (cs : List V) (h : FitL shRow cs) : ∃ c : Row, cs = eRow c := by
 obtain ⟨a0, _, rfl, h1⟩ := fitL_int h
 obtain ⟨a1, _, rfl, h2⟩ := fitL_int h1
 obtain ⟨a2, _, rfl, h3⟩ := fitL_int h2
 obtain ⟨a3, _, rfl, h4⟩ := fitL_int h3
 obtain ⟨a4, _, rfl, h5⟩ := fitL_int h4
 obtain rfl := fitL_nil h5
 exact ⟨⟨a0, ⟨a1, a2⟩, ⟨a3, a4⟩⟩, rfl⟩
theorem decTri (cs : List V) (h : FitL shTri cs) : ∃ a b c : Int, cs = [i64 a, i64 b, i64 c] := by
 obtain ⟨a0, _, rfl, h1⟩ := fitL_int h
 obtain ⟨a1, _, rfl, h2⟩ := fitL_int h1
 obtain ⟨a2, _, rfl, h3⟩ := fitL_int h2
 obtain rfl := fitL_nil h3
 exact ⟨a0, a1, a2, rfl⟩
theorem decHeat (cs : List V) (h : FitL shTri cs) : ∃ c : Heat, cs = eHeat c := by
 obtain ⟨a, b, c, rfl⟩ := decTri cs h
 exact ⟨⟨a, ⟨b, c⟩⟩, rfl⟩
theorem decRing (cs : List V) (h : FitL shTri cs) : ∃ c : Ring, cs = eRing c := by
 obtain ⟨a, b, c, rfl⟩ := decTri cs h
 exact ⟨⟨a, ⟨b, c⟩⟩, rfl⟩
theorem decHouse (cs : List V) (h : FitL shTri cs) : ∃ c : House, cs = eHouse c := by
 obtain ⟨a, b, c, rfl⟩ := decTri cs h
 exact ⟨⟨a, b, c⟩, rfl⟩
theorem decSite (cs : List V) (h : FitL shSite cs) : ∃ c : Site, cs = eSite c ∧ (c.cavs.nl = true → c.cavs.len = 0) := by
 obtain ⟨a, _, rfl, _, k0, h1⟩ := fitL_row decCav h
 obtain ⟨b, _, rfl, _, _, h2⟩ := fitL_row decRow h1
 obtain ⟨c, _, rfl, _, _, h3⟩ := fitL_row decHeat h2
 obtain ⟨n, _, rfl, h4⟩ := fitL_int h3
 obtain ⟨d, _, rfl, _, _, h5⟩ := fitL_row decRing h4
 obtain ⟨e, _, rfl, _, _, h6⟩ := fitL_row decHouse h5
 obtain rfl := fitL_nil h6
 exact ⟨⟨a, b, c, n, d, e⟩, rfl, k0⟩
theorem decIL (cs : List V) (h : FitL [.row [i8]] cs) : ∃ s : Sl Int, cs = eIL s ∧ s.len ≤ 140737488355328 := by
 obtain ⟨s, _, rfl, h1, _, h2⟩ := fitL_row decInt h
 obtain rfl := fitL_nil h2
 exact ⟨s, rfl, h1⟩
theorem own : ownKnob Tryz.prog.godebug = none := by kernel_rfl
end Go.Sim.Cr


namespace Go.Sim.Cr
open Go.Proofs
section
variable {R : Type}
theorem tkOut_ret (v : V) (f : R) (k kp : V → R) : tkOut (some (.ret v)) f k kp = k v := Eq.trans (Eq.refl _) (Eq.refl _)
theorem tkOut_pan (v : V) (f : R) (k kp : V → R) : tkOut (some (.pan v)) f k kp = kp v := Eq.trans (Eq.refl _) (Eq.refl _)
theorem tkBool_b (b : Bool) (f : R) (k : Bool → R) : tkBool (.bool b) f k = k b := Eq.trans (Eq.refl _) (Eq.refl _)
theorem tkInt_i (q : IntKind) (n : Int) (f : R) (k : IntKind → Int → R) : tkInt (.int q n) f k = k q n := Eq.trans (Eq.refl _) (Eq.refl _)
theorem tkAgg_a (l : List V) (f : R) (k : List V → R) : tkAgg (.agg l) f k = k l := Eq.trans (Eq.refl _) (Eq.refl _)
theorem tkTup_t (l : List V) (f : R) (k : List V → R) : tkTup (.tup l) f k = k l := Eq.trans (Eq.refl _) (Eq.refl _)
theorem tkRow_r (a : Bool) (n wd : Nat) (g : Nat → List V) (f : R) (k : Bool → Nat → Nat → (Nat → List V) → R) : tkRow (.row a n wd g) f k = k a n wd g := Eq.trans (Eq.refl _) (Eq.refl _)
theorem tkCons_c (v : V) (l : List V) (f : R) (k : V → List V → R) : tkCons (v :: l) f k = k v l := Eq.trans (Eq.refl _) (Eq.refl _)
theorem tkNil_n (f k : R) : tkNil [] f k = k := Eq.trans (Eq.refl _) (Eq.refl _)
theorem tkIfc_i (t : TypeId) (v : V) (f : R) (k : TypeId → V → R) : tkIfc (.iface t v) f k = k t v := Eq.trans (Eq.refl _) (Eq.refl _)
end
theorem cAnd (a b : Bool) : (bif a then some (Out.ret (.bool b)) else some (.ret (.bool false))) = some (.ret (.bool (a && b))) := by cases a <;> rfl
theorem cNand (a b : Bool) : (bif a then some (Out.ret (.bool false)) else some (.ret (.bool b))) = some (.ret (.bool (!a && b))) := by cases a <;> rfl
theorem cOr (a b : Bool) : (bif a then some (Out.ret (.bool true)) else some (.ret (.bool b))) = some (.ret (.bool (a || b))) := by cases a <;> rfl
theorem wr {n : Int} (h : -9223372036854775808 ≤ n ∧ n ≤ 9223372036854775807) : IntKind.i64.wrap n = n := by rw [IntKind.wrap_i64]; omega
theorem wrS {i : Nat} (h : i < 4611686018427387904) : IntKind.i64.wrap ((i : Int) + 1) = ((i + 1 : Nat) : Int) := by rw [wr (by omega)]; omega
theorem b2 {a b : Bool} (h : a = true ↔ b = true) : a = b := by cases a <;> cases b <;> simp_all
abbrev Big : Nat := 4611686018427387904
abbrev SpanIn (p : Span) (a b : Int) : Prop := a ≤ p.lo ∧ p.lo ≤ p.hi ∧ p.hi ≤ b
abbrev Place (x y : Int) : Prop := (-10000 ≤ x ∧ x ≤ 10000) ∧ -10000 ≤ y ∧ y ≤ 10000
abbrev CavOk (c : Cav) : Prop := Place c.x c.y ∧ SpanIn c.rad 0 200000 ∧ SpanIn c.vol 0 10000000 ∧ (0 ≤ c.rock ∧ c.rock ≤ 50000) ∧ (0 ≤ c.floor ∧ c.floor ≤ 10000000) ∧ SpanIn c.gate 0 50000 ∧ (0 ≤ c.change ∧ c.change ≤ 50000)
abbrev SttOk (x : Stt) : Prop := SpanIn x.rad 0 400000 ∧ SpanIn x.vol 0 10000000 ∧ SpanIn x.lost 0 1000000000
abbrev HouseOk (h : House) : Prop := Place h.x h.y ∧ 0 ≤ h.most ∧ h.most ≤ 1000000
variable (F d : Nat)
theorem s54 (x y z : Int) : (E F (d + 1)).pf 39 [.int .i64 x, .int .i64 y, .int .i64 z] = some (.ret (.bool (decide (y ≤ x ∧ x ≤ z)))) := by
 rw [E_pf, t54]; simp only [cAnd, Bool.decide_and, ge_iff_le]
theorem s72 (x y z : Int) : (E F (d + 1)).pf 27 [.int .i64 x, .int .i64 y, .int .i64 z] = some (.ret (.bool (decide (y ≤ x ∧ x ≤ z)))) := by
 rw [E_pf, t72]; simp only [cAnd, Bool.decide_and, ge_iff_le]
theorem s18 (x y : Int) : (E F (d + 2)).pf 40 [.int .i64 x, .int .i64 y] = some (.ret (.bool (decide (Place x y)))) := by
 rw [E_pf, t18]; simp only [s54, tkOut_ret, tkBool_b, cAnd, Bool.decide_and]
theorem s52 (x y : Int) : (E F (d + 2)).pf 53 [.int .i64 x, .int .i64 y] = some (.ret (.bool (decide (Place x y)))) := by
 rw [E_pf, t52]; simp only [s72, tkOut_ret, tkBool_b, cAnd, Bool.decide_and]
theorem s74 (p : Span) (n : Int) : (E F (d + 1)).pf 29 [.agg (eSpan p), .int .i64 n] = some (.ret (.bool (decide (SpanIn p 0 n)))) := by
 rw [E_pf, t74]; simp only [cAnd, Bool.decide_and, ge_iff_le]
theorem s43 (p : Span) (a n : Int) : (E F (d + 1)).pf 41 [.agg (eSpan p), .int .i64 a, .int .i64 n] = some (.ret (.bool (decide (SpanIn p a n)))) := by
 rw [E_pf, t43]; simp only [cAnd, Bool.decide_and, ge_iff_le]
theorem s55 (p q : Span) : (E F (d + 1)).pf 42 [.agg (eSpan p), .agg (eSpan q)] = some (.ret (.bool (decide (p.lo ≤ q.lo ∧ p.hi ≤ q.hi)))) := by
 rw [E_pf, t55]; simp only [cAnd, Bool.decide_and, ge_iff_le]
theorem s107 (p q : Span) : (E F (d + 1)).pf 87 [.agg (eSpan p), .agg (eSpan q)] = some (.ret (.bool (decide (q.lo ≤ p.lo ∧ q.hi ≤ p.hi)))) := by
 rw [E_pf, t107]; simp only [cAnd, Bool.decide_and, ge_iff_le]
theorem s79 (c : Cav) : (E F (d + 3)).pf 58 [.agg (eCav c)] = some (.ret (.bool (decide (CavOk c)))) := by
 rw [E_pf, t79]; simp only [s72, s52, s74, tkOut_ret, tkBool_b, cAnd, Bool.decide_and]
theorem s81 (x c : Cav) : (E F (d + 1)).pf 60 [.agg (eCav x), .rptr 1 11 (fun _ => eCav c) 0 0] = some (.ret (.bool (decide (x.x = c.x ∧ x.y = c.y)))) := by
 rw [E_pf, t81]; simp only [cAnd, Bool.decide_and, ge_iff_le]; rfl
theorem s83 (h : House) : (E F (d + 3)).pf 62 [.agg (eHouse h)] = some (.ret (.bool (!decide (HouseOk h)))) := by
 rw [E_pf, t83]; simp only [s52, s72, tkOut_ret, tkBool_b, cOr, Bool.decide_and, Bool.not_and]
theorem s86 (x : Stt) : (E F (d + 2)).pf 83 [.agg (eStt x)] = some (.ret (.bool (decide (SttOk x)))) := by
 rw [E_pf, t86]; simp only [s74, tkOut_ret, tkBool_b, cAnd, Bool.decide_and]
theorem s85 (x : Stt) : (E F (d + 3)).pf 82 [.agg (eStt x)] = some (.ret (.bool (!decide (SttOk x)))) := by
 rw [E_pf, t85]; simp only [s86, tkOut_ret, tkBool_b]
theorem s89 (p : Span) (m : Int) : (E F (d + 2)).pf 80 [.agg (eSpan p), .rptr 1 1 (fun _ => [.int .i64 m]) 0 0] = some (.ret (.bool (!decide (SpanIn p 0 m)))) := by
 rw [E_pf, t89]; simp only [s74, tkOut_ret, tkBool_b]
def ixF (p : Nat → Bool) : Nat → Nat → Int
 | 0, _ => -1
 | n + 1, i => bif p i then (i : Int) else ixF p n (i + 1)
theorem ixF_ge (p : Nat → Bool) : ∀ n i, 0 ≤ ixF p n i ↔ ∃ k, i ≤ k ∧ k < i + n ∧ p k = true := by
 intro n
 induction n with
 | zero => intro i; simp only [ixF]; constructor <;> intro h
           ·omega
           ·obtain ⟨k, h1, h2, _⟩ := h; omega
 | succ n ih =>
  intro i
  simp only [ixF]
  cases h : p i
  ·rw [cond_false, ih]
   constructor
   ·rintro ⟨k, h1, h2, h3⟩; exact ⟨k, by omega, by omega, h3⟩
   ·rintro ⟨k, h1, h2, h3⟩
    refine ⟨k, ?_, by omega, h3⟩
    rcases Nat.eq_or_lt_of_le h1 with rfl | h4
    ·rw [h] at h3; cases h3
    ·omega
  ·rw [cond_true]
   exact ⟨fun _ => ⟨i, by omega, by omega, h⟩, fun _ => by omega⟩
theorem l108 (l : Sl Cav) (c : Cav) (hB : l.len < Big) : ∀ n i fu, l.len = i + n → n < fu →
  L108x0 (E F (d + 1)) F l c fu (i : Int) = some (.ret (.int .i64 (ixF (fun k => decide ((l.el k).x = c.x ∧ (l.el k).y = c.y)) n i))) := by
 intro n
 induction n with
 | zero =>
  intro i fu h hf
  obtain ⟨fu, rfl⟩ : ∃ k, fu = k + 1 := ⟨fu - 1, by omega⟩
  rw [L108x0s]
  simp only [Int.ofNat_lt, show ¬ i < l.len by omega, decide_false, cond_false, ixF]
 | succ n ih =>
  intro i fu h hf
  obtain ⟨fu, rfl⟩ : ∃ k, fu = k + 1 := ⟨fu - 1, by omega⟩
  rw [L108x0s]
  simp only [Int.ofNat_lt, show i < l.len by omega, decide_true, cond_true, Int.natCast_nonneg, Int.toNat_natCast, s81, tkOut_ret, tkBool_b, wrS (show i < Big by omega), ih (i + 1) fu (by omega) (by omega), ixF]
  cases decide ((l.el i).x = c.x ∧ (l.el i).y = c.y) <;> rfl
end Go.Sim.Cr


namespace Go.Sim.Cr
open Go.Proofs
variable (F d : Nat)
theorem b3 {a b : Bool} (h : a = b) : some (Out.ret (.bool a)) = some (.ret (.bool b)) := by rw [h]
theorem ge0 (p : Nat → Bool) (n : Nat) : (!decide (0 ≤ ixF p n 0)) = decide (∀ i, i < n → p i = false) := by
 apply b2
 rw [Bool.not_eq_true', decide_eq_false_iff_not, decide_eq_true_iff, ixF_ge]
 constructor
 ·intro h i hi
  cases hp : p i
  ·rfl
  ·exact (h ⟨i, by omega, by omega, hp⟩).elim
 ·rintro h ⟨k, _, h2, h3⟩
  rw [h k (by omega)] at h3; cases h3
theorem l109 (l : Sl House) (hB : l.len < Big) : ∀ n i fu, l.len = i + n → n < fu →
  L109x0 (E F (d + 3)) F l fu (i : Int) = some (.ret (.int .i64 (ixF (fun k => !decide (HouseOk (l.el k))) n i))) := by
 intro n
 induction n with
 | zero =>
  intro i fu h hf
  obtain ⟨fu, rfl⟩ : ∃ k, fu = k + 1 := ⟨fu - 1, by omega⟩
  rw [L109x0s]
  simp only [Int.ofNat_lt, show ¬ i < l.len by omega, decide_false, cond_false, ixF]
 | succ n ih =>
  intro i fu h hf
  obtain ⟨fu, rfl⟩ : ∃ k, fu = k + 1 := ⟨fu - 1, by omega⟩
  rw [L109x0s]
  simp only [Int.ofNat_lt, show i < l.len by omega, decide_true, cond_true, Int.natCast_nonneg, Int.toNat_natCast, s83, tkOut_ret, tkBool_b, wrS (show i < Big by omega), ih (i + 1) fu (by omega) (by omega), ixF]
  cases decide (HouseOk (l.el i)) <;> rfl
theorem l110 (l : Sl Stt) (hB : l.len < Big) : ∀ n i fu, l.len = i + n → n < fu →
  L110x0 (E F (d + 3)) F l fu (i : Int) = some (.ret (.int .i64 (ixF (fun k => !decide (SttOk (l.el k))) n i))) := by
 intro n
 induction n with
 | zero =>
  intro i fu h hf
  obtain ⟨fu, rfl⟩ : ∃ k, fu = k + 1 := ⟨fu - 1, by omega⟩
  rw [L110x0s]
  simp only [Int.ofNat_lt, show ¬ i < l.len by omega, decide_false, cond_false, ixF]
 | succ n ih =>
  intro i fu h hf
  obtain ⟨fu, rfl⟩ : ∃ k, fu = k + 1 := ⟨fu - 1, by omega⟩
  rw [L110x0s]
  simp only [Int.ofNat_lt, show i < l.len by omega, decide_true, cond_true, Int.natCast_nonneg, Int.toNat_natCast, s85, tkOut_ret, tkBool_b, wrS (show i < Big by omega), ih (i + 1) fu (by omega) (by omega), ixF]
  cases decide (SttOk (l.el i)) <;> rfl
theorem l111 (l : Sl Span) (m : Int) (hB : l.len < Big) : ∀ n i fu, l.len = i + n → n < fu →
  L111x0 (E F (d + 2)) F l m fu (i : Int) = some (.ret (.int .i64 (ixF (fun k => !decide (SpanIn (l.el k) 0 m)) n i))) := by
 intro n
 induction n with
 | zero =>
  intro i fu h hf
  obtain ⟨fu, rfl⟩ : ∃ k, fu = k + 1 := ⟨fu - 1, by omega⟩
  rw [L111x0s]
  simp only [Int.ofNat_lt, show ¬ i < l.len by omega, decide_false, cond_false, ixF]
 | succ n ih =>
  intro i fu h hf
  obtain ⟨fu, rfl⟩ : ∃ k, fu = k + 1 := ⟨fu - 1, by omega⟩
  rw [L111x0s]
  simp only [Int.ofNat_lt, show i < l.len by omega, decide_true, cond_true, Int.natCast_nonneg, Int.toNat_natCast, s89, tkOut_ret, tkBool_b, wrS (show i < Big by omega), ih (i + 1) fu (by omega) (by omega), ixF]
  cases decide (SpanIn (l.el i) 0 m) <;> rfl
theorem s80 (l : Sl Cav) (c : Cav) (hB : l.len < Big) (hF : l.len < F) : (E F (d + 3)).pf 59 [sl eCav 11 l, .fn (.func 60) [] [.rptr 1 11 (fun _ => eCav c) 0 0]] = some (.ret (.bool (!decide (∀ i, i < l.len → ¬ ((l.el i).x = c.x ∧ (l.el i).y = c.y))))) := by
 rw [E_pf, t80, E_pf, t108, show L108x0 (E F (d + 1)) F l c F 0 = _ from l108 F d l c hB l.len 0 F (by omega) hF]
 simp only [tkOut_ret, tkInt_i, decide_true, cond_true, ge_iff_le]
 refine b3 (Bool.not_inj ?_)
 rw [Bool.not_not]
 exact (ge0 _ _).trans (by simp only [decide_eq_false_iff_not])
theorem s82 (l : Sl House) (hB : l.len < Big) (hF : l.len < F) : (E F (d + 5)).pf 61 [sl eHouse 3 l, .fn (.func 62) [] []] = some (.ret (.bool (!decide (∀ i, i < l.len → HouseOk (l.el i))))) := by
 rw [E_pf, t82, E_pf, t109, show L109x0 (E F (d + 3)) F l F 0 = _ from l109 F d l hB l.len 0 F (by omega) hF]
 simp only [tkOut_ret, tkInt_i, decide_true, cond_true, ge_iff_le]
 refine b3 (Bool.not_inj ?_)
 rw [Bool.not_not]
 exact (ge0 _ _).trans (by simp only [Bool.not_eq_false', decide_eq_true_eq])
theorem s84 (l : Sl Stt) (hB : l.len < Big) (hF : l.len < F) : (E F (d + 5)).pf 81 [sl eStt 6 l, .fn (.func 82) [] []] = some (.ret (.bool (!decide (∀ i, i < l.len → SttOk (l.el i))))) := by
 rw [E_pf, t84, E_pf, t110, show L110x0 (E F (d + 3)) F l F 0 = _ from l110 F d l hB l.len 0 F (by omega) hF]
 simp only [tkOut_ret, tkInt_i, decide_true, cond_true, ge_iff_le]
 refine b3 (Bool.not_inj ?_)
 rw [Bool.not_not]
 exact (ge0 _ _).trans (by simp only [Bool.not_eq_false', decide_eq_true_eq])
theorem s88 (l : Sl Span) (m : Int) (hB : l.len < Big) (hF : l.len < F) : (E F (d + 4)).pf 79 [sl eSpan 2 l, .fn (.func 80) [] [.rptr 1 1 (fun _ => [.int .i64 m]) 0 0]] = some (.ret (.bool (!decide (∀ i, i < l.len → SpanIn (l.el i) 0 m)))) := by
 rw [E_pf, t88, E_pf, t111, show L111x0 (E F (d + 2)) F l m F 0 = _ from l111 F d l m hB l.len 0 F (by omega) hF]
 simp only [tkOut_ret, tkInt_i, decide_true, cond_true, ge_iff_le]
 refine b3 (Bool.not_inj ?_)
 rw [Bool.not_not]
 exact (ge0 _ _).trans (by simp only [Bool.not_eq_false', decide_eq_true_eq])
abbrev StatesOk (s : Site) (l : Sl Stt) : Prop := l.len = s.cavs.len ∧ ∀ i, i < l.len → SttOk (l.el i)
abbrev DayOk (s : Site) (d : Day) : Prop := (d.press.len = s.cavs.len ∧ ∀ i, i < d.press.len → SpanIn (d.press.el i) 0 50000) ∧ d.warm.len = s.cavs.len ∧ ∀ i, i < d.warm.len → SpanIn (d.warm.el i) 0 10000
theorem beqN (a b : Nat) : (((a : Nat) : Int) == ((b : Nat) : Int)) = decide (a = b) := by
 apply b2; simp only [beq_iff_eq, decide_eq_true_eq]; omega
theorem s49 (s : Site) (l : Sl Stt) (hB : l.len < Big) (hF : l.len < F) : (E F (d + 6)).pf 51 [.agg (eSite s), sl eStt 6 l] = some (.ret (.bool (decide (StatesOk s l)))) := by
 rw [E_pf, t49]
 simp only [s84 F _ l hB hF, tkOut_ret, tkBool_b, Bool.not_not, cAnd, beqN, Bool.decide_and]
theorem s87 (l : Sl Span) (m : Int) (s : Site) (hB : l.len < Big) (hF : l.len < F) : (E F (d + 5)).pf 78 [sl eSpan 2 l, .int .i64 m, pSite s] = some (.ret (.bool (decide (l.len = s.cavs.len ∧ ∀ i, i < l.len → SpanIn (l.el i) 0 m)))) := by
 rw [E_pf, t87]
 simp only [s88 F _ l m hB hF, tkOut_ret, tkBool_b, Bool.not_not, cAnd, beqN, Bool.decide_and]
theorem s50 (s : Site) (y : Day) (hB : y.press.len < Big) (hB' : y.warm.len < Big) (hF : y.press.len < F) (hF' : y.warm.len < F) : (E F (d + 6)).pf 47 [.agg (eSite s), .agg (eDay y)] = some (.ret (.bool (decide (DayOk s y)))) := by
 rw [E_pf, t50]
 simp only [Nat.reduceAdd, s87 F _ y.press _ s hB hF, s87 F _ y.warm _ s hB' hF', tkOut_ret, tkBool_b, cAnd, Bool.decide_and]
end Go.Sim.Cr


namespace Go.Sim.Cr
open Go.Proofs
variable (F d : Nat)
def allF (p : Nat → Bool) (z : Bool) : Nat → Nat → Bool
 | 0, _ => z
 | n + 1, i => p i && allF p z n (i + 1)
theorem allF_eq (p : Nat → Bool) (z : Bool) : ∀ n i, allF p z n i = true ↔ (∀ k, i ≤ k → k < i + n → p k = true) ∧ z = true := by
 intro n
 induction n with
 | zero => intro i; simp only [allF]; exact ⟨fun h => ⟨fun k h1 h2 => by omega, h⟩, fun h => h.2⟩
 | succ n ih =>
  intro i
  simp only [allF, Bool.and_eq_true, ih]
  constructor
  ·rintro ⟨h1, h2, h3⟩
   refine ⟨fun k h4 h5 => ?_, h3⟩
   rcases Nat.eq_or_lt_of_le h4 with rfl | h6
   ·exact h1
   ·exact h2 k (by omega) (by omega)
  ·rintro ⟨h1, h2⟩
   exact ⟨h1 i (by omega) (by omega), fun k h3 h4 => h1 k (by omega) (by omega), h2⟩
theorem allF_0 (p : Nat → Bool) (z : Bool) (n : Nat) : allF p z n 0 = true ↔ (∀ k, k < n → p k = true) ∧ z = true := by
 rw [allF_eq]
 exact ⟨fun h => ⟨fun k hk => h.1 k (by omega) (by omega), h.2⟩, fun h => ⟨fun k _ hk => h.1 k (by omega), h.2⟩⟩
theorem s11 (s : Site) : (E F (d + 1)).pf 5 [.agg (eSite s)] = some (.ret (.bool (decide (s.cavs.len ≤ 10 ∧ s.rows.len ≤ 12 ∧ s.heats.len ≤ 12 ∧ s.rings.len ≤ 12 ∧ s.houses.len ≤ 10)))) := by
 rw [E_pf, t11]
 simp only [cAnd, Bool.decide_and, show ∀ k : Nat, ((k : Int) ≤ 10) ↔ k ≤ 10 by omega, show ∀ k : Nat, ((k : Int) ≤ 12) ↔ k ≤ 12 by omega]
theorem bneN (a b : Nat) : (((a : Nat) : Int) != ((b : Nat) : Int)) = !decide (a = b) := by rw [bne, beqN]
abbrev SameStt (a b : Stt) : Prop := a.rad.lo = b.rad.lo ∧ a.rad.hi = b.rad.hi ∧ a.vol.lo = b.vol.lo ∧ a.vol.hi = b.vol.hi ∧ a.lost.lo = b.lost.lo ∧ a.lost.hi = b.lost.hi
theorem beqI (a b : Int) : (a == b) = decide (a = b) := rfl
end Go.Sim.Cr


namespace Go.Sim.Cr
open Go.Proofs
variable (F d : Nat)
theorem mulB {a b A B : Int} (ha : 0 ≤ a ∧ a ≤ A) (hb : 0 ≤ b ∧ b ≤ B) : 0 ≤ a * b ∧ a * b ≤ A * B :=
 ⟨Int.mul_nonneg ha.1 hb.1, Int.mul_le_mul ha.2 hb.2 hb.1 (Int.le_trans ha.1 ha.2)⟩
theorem sqB {u A : Int} (h : -A ≤ u ∧ u ≤ A) : 0 ≤ u * u ∧ u * u ≤ A * A := by
 rcases Int.le_total 0 u with h0 | h0
 ·exact mulB ⟨h0, h.2⟩ ⟨h0, h.2⟩
 ·have := @mulB (-u) (-u) A A ⟨by omega, by omega⟩ ⟨by omega, by omega⟩
  rwa [Int.neg_mul_neg] at this
def dist2 (c : Cav) (x y : Int) : Int := (c.x - x) * (c.x - x) + (c.y - y) * (c.y - y)
def ringFrom (s : Site) (c : Cav) (x y : Int) : Nat → Nat → Option Span
 | 0, _ => none
 | n + 1, i => bif decide (dist2 c x y ≤ (s.rings.el i).away * (s.rings.el i).away) then some (s.rings.el i).share else ringFrom s c x y n (i + 1)
def ringOf (s : Site) (c : Cav) (x y : Int) : Option Span := ringFrom s c x y s.rings.len 0
abbrev AwayOk (s : Site) : Prop := ∀ i, i < s.rings.len → 0 ≤ (s.rings.el i).away ∧ (s.rings.el i).away ≤ 40000
abbrev zSpan : Span := ⟨0, 0⟩
theorem dist_wr (c : Cav) (x y : Int) (hc : Place c.x c.y) (hp : Place x y) :
  IntKind.i64.wrap (c.x - x) = c.x - x ∧ IntKind.i64.wrap (c.y - y) = c.y - y ∧ IntKind.i64.wrap ((c.x - x) * (c.x - x)) = (c.x - x) * (c.x - x) ∧ IntKind.i64.wrap ((c.y - y) * (c.y - y)) = (c.y - y) * (c.y - y) ∧
  IntKind.i64.wrap ((c.x - x) * (c.x - x) + (c.y - y) * (c.y - y)) = dist2 c x y := by
 have h1 := @sqB (c.x - x) 20000 (by omega)
 have h2 := @sqB (c.y - y) 20000 (by omega)
 exact ⟨wr (by omega), wr (by omega), wr (by omega), wr (by omega), wr (by omega)⟩
theorem l92 (s : Site) (c : Cav) (x y : Int) (ha : AwayOk s) (hc : Place c.x c.y) (hp : Place x y) (hB : s.rings.len < Big) : ∀ n i fu, s.rings.len = i + n → n < fu →
  L92x0 (E F d) F s c x y fu (i : Int) = some (.ret (.agg (eSpan ((ringFrom s c x y n i).getD zSpan)))) := by
 obtain ⟨w1, w2, w3, w4, w5⟩ := dist_wr _ _ _ hc hp
 intro n
 induction n with
 | zero =>
  intro i fu h hf
  obtain ⟨fu, rfl⟩ : ∃ k, fu = k + 1 := ⟨fu - 1, by omega⟩
  rw [L92x0s]
  simp only [Int.ofNat_lt, show ¬ i < s.rings.len by omega, decide_false, cond_false, ringFrom]
  rfl
 | succ n ih =>
  intro i fu h hf
  obtain ⟨fu, rfl⟩ : ∃ k, fu = k + 1 := ⟨fu - 1, by omega⟩
  rw [L92x0s]
  have h1 := @sqB (s.rings.el i).away 40000 (by have := ha i (by omega); omega)
  simp only [Int.toNat_natCast, w1, w2, w3, w4, w5, Int.ofNat_lt, show i < s.rings.len by omega, decide_true, cond_true, Int.natCast_nonneg, wr (show _ ∧ (s.rings.el i).away * (s.rings.el i).away ≤ _ by omega), wrS (show i < Big by omega), ih (i + 1) fu (by omega) (by omega), ringFrom, ge_iff_le]
  cases decide (dist2 c x y ≤ (s.rings.el i).away * (s.rings.el i).away) <;> rfl
theorem s92 (s : Site) (c : Cav) (x y : Int) (ha : AwayOk s) (hc : Place c.x c.y) (hp : Place x y) (hB : s.rings.len < Big) (hF : s.rings.len < F) :
  (E F (d + 1)).pf 85 [pSite s, .agg (eCav c), .int .i64 x, .int .i64 y] = some (.ret (.agg (eSpan ((ringOf s c x y).getD zSpan)))) := by
 rw [E_pf, t92, show L92x0 (E F d) F s c x y F 0 = _ from l92 F d s c x y ha hc hp hB s.rings.len 0 F (by omega) hF]
 rfl
theorem mid_wr {i j : Int} (h1 : -2305843009213693952 ≤ i) (h2 : i ≤ j) (h3 : j ≤ 2305843009213693952) : IntKind.i64.wrap (i + IntKind.i64.wrap (Int.tdiv (IntKind.i64.wrap (j - i)) 2)) = i + (j - i) / 2 := by
 rw [wr (show _ ∧ j - i ≤ _ by omega), Int.tdiv_eq_ediv_of_nonneg (by omega), wr (show _ ∧ (j - i) / 2 ≤ _ by omega), wr (by omega)]
theorem firstLaw (L : Nat → Int → Int → Option Out) (p : Int → Bool) (lo hi : Int)
  (hstep : ∀ fu i j, lo ≤ i → i ≤ j → j ≤ hi → L (fu + 1) i j = bif decide (i < j) then (bif p (i + (j - i) / 2) then L fu i (i + (j - i) / 2) else L fu (i + (j - i) / 2 + 1) j) else some (.ret (.int .i64 i))) :
  ∀ k fu i j, (j - i).toNat ≤ k → k < fu → lo ≤ i → i ≤ j → j ≤ hi → ∃ r, L fu i j = some (.ret (.int .i64 r)) ∧ i ≤ r ∧ r ≤ j ∧ (r < j → p r = true) ∧ (i < r → p (r - 1) = false) := by
 intro k
 induction k with
 | zero =>
  intro fu i j h hf h1 h2 h3
  obtain ⟨fu, rfl⟩ : ∃ k, fu = k + 1 := ⟨fu - 1, by omega⟩
  refine ⟨i, ?_, by omega, by omega, fun h => by omega, fun h => by omega⟩
  rw [hstep _ _ _ h1 h2 h3, decide_eq_false (by omega), cond_false]
 | succ k ih =>
  intro fu i j h hf h1 h2 h3
  obtain ⟨fu, rfl⟩ : ∃ k, fu = k + 1 := ⟨fu - 1, by omega⟩
  by_cases hij : i < j
  ·rw [hstep _ _ _ h1 h2 h3, decide_eq_true hij, cond_true]
   cases hp : p (i + (j - i) / 2)
   ·rw [cond_false]
    obtain ⟨r, e, r1, r2, r3, r4⟩ := ih fu (i + (j - i) / 2 + 1) j (by omega) (by omega) (by omega) (by omega) (by omega)
    refine ⟨r, e, by omega, r2, r3, fun _ => ?_⟩
    rcases Int.lt_or_eq_of_le r1 with hlt | heq
    ·exact r4 hlt
    ·rw [← heq, show i + (j - i) / 2 + 1 - 1 = i + (j - i) / 2 by omega]; exact hp
   ·rw [cond_true]
    obtain ⟨r, e, r1, r2, r3, r4⟩ := ih fu i (i + (j - i) / 2) (by omega) (by omega) (by omega) (by omega) (by omega)
    refine ⟨r, e, r1, by omega, fun _ => ?_, r4⟩
    rcases Int.lt_or_eq_of_le r2 with hlt | heq
    ·exact r3 hlt
    ·rw [heq]; exact hp
  ·refine ⟨i, ?_, by omega, by omega, fun h => by omega, fun h => by omega⟩
   rw [hstep _ _ _ h1 h2 h3, decide_eq_false hij, cond_false]
abbrev IsRoot (n r : Int) : Prop := 0 ≤ r ∧ r * r ≤ n ∧ n < (r + 1) * (r + 1)
theorem isRoot_uniq {n r q : Int} (h : IsRoot n r) (g : IsRoot n q) : r = q := by
 have key : ∀ {a b : Int}, IsRoot n a → IsRoot n b → ¬ a < b := by
  intro a b h g hlt
  have := Int.mul_le_mul (show a + 1 ≤ b by omega) (show a + 1 ≤ b by omega) (by omega) (by omega)
  omega
 have h1 := key h g
 have h2 := key g h
 omega
def rootGo (n : Int) : Nat → Int → Int
 | 0, r => r
 | k + 1, r => bif decide ((r + ((2 ^ k : Nat) : Int)) * (r + ((2 ^ k : Nat) : Int)) ≤ n) then rootGo n k (r + ((2 ^ k : Nat) : Int)) else rootGo n k r
theorem rootGo_ok {n : Int} : ∀ {k : Nat} {r : Int}, 0 ≤ r → r * r ≤ n → n < (r + ((2 ^ k : Nat) : Int)) * (r + ((2 ^ k : Nat) : Int)) → IsRoot n (rootGo n k r) := by
 intro k
 induction k with
 | zero => intro r h0 h1 h2; exact ⟨h0, h1, h2⟩
 | succ k ih =>
  intro r h0 h1 h2
  unfold rootGo
  by_cases h : (r + ((2 ^ k : Nat) : Int)) * (r + ((2 ^ k : Nat) : Int)) ≤ n
  ·rw [decide_eq_true h, cond_true]
   have hp : (0 : Int) ≤ ((2 ^ k : Nat) : Int) := Int.natCast_nonneg _
   refine ih (Int.add_nonneg h0 hp) h ?_
   rw [show r + ((2 ^ k : Nat) : Int) + ((2 ^ k : Nat) : Int) = r + ((2 ^ (k + 1) : Nat) : Int) by rw [Nat.pow_succ]; omega]
   exact h2
  ·rw [decide_eq_false h, cond_false]
   exact ih h0 h1 (by omega)
def rootI (n : Int) : Int := rootGo n 40 0
theorem rootI_eq {n r : Int} (h : IsRoot n r) (hr : r < 1099511627776) : rootI n = r := by
 have h2 := Int.mul_le_mul (show r + 1 ≤ 1099511627776 by omega) (show r + 1 ≤ 1099511627776 by omega) (by omega) (by omega)
 have h3 := Int.mul_nonneg h.1 h.1
 refine isRoot_uniq (rootGo_ok (k := 40) (r := 0) (Int.le_refl 0) (by omega) ?_) h
 rw [show (0 : Int) + ((2 ^ 40 : Nat) : Int) = 1099511627776 by decide]
 omega
theorem s115 (x n : Int) (hx : 0 ≤ x ∧ x ≤ 67108864) : (E F (d + 1)).pf 100 [.int .i64 x, .rptr 1 1 (fun _ => [.int .i64 n]) 0 0] = some (.ret (.bool (decide (n < x * x)))) := by
 have h := mulB hx hx
 rw [E_pf, t115, wr (by omega)]
theorem s105 (n : Int) (h0 : 0 ≤ n) (h1 : n < 67108863 * 67108863) (hF : 67108864 < F) : (E F (d + 3)).pf 84 [.int .i64 n] = some (.ret (.int .i64 (rootI n))) ∧ IsRoot n (rootI n) := by
 obtain ⟨r, e, r1, r2, r3, r4⟩ := firstLaw (fun fu i j => L7601x0 (E F (d + 1)) F 1 67108864 n fu i j) (fun x => decide (n < x * x)) 1 67108864 (by
  intro fu i j a1 a2 a3
  rw [L7601x0s]
  by_cases hij : i < j
  ·simp only [mid_wr (show -2305843009213693952 ≤ i by omega) a2 (by omega), wr (show _ ∧ i + (j - i) / 2 + 1 ≤ _ by omega), s115 F d _ n (show 0 ≤ i + (j - i) / 2 ∧ _ by omega), tkOut_ret, tkBool_b]
  ·simp only [hij, decide_false, cond_false]) 67108863 F 1 67108864 (by omega) (by omega) (by omega) (by omega) (by omega)
 have hr : IsRoot n (r - 1) := by
  refine ⟨by omega, ?_, ?_⟩
  ·by_cases h : 1 < r
   ·have := of_decide_eq_false (r4 h); omega
   ·have : r - 1 = 0 := by omega
    rw [this]; omega
  ·rw [show r - 1 + 1 = r by omega]
   by_cases h : r < 67108864
   ·exact of_decide_eq_true (r3 h)
   ·have : r = 67108864 := by omega
    rw [this]; omega
 refine ⟨?_, rootI_eq hr (by omega) ▸ hr⟩
 have e' : L7601x0 (E F (d + 1)) F 1 67108864 n F 1 67108864 = _ := e
 rw [E_pf, t105, E_pf, t7601, e']
 simp only [tkOut_ret, tkInt_i, decide_true, cond_true]
 rw [wr (by omega), rootI_eq hr (by omega)]
def distI (a b : Cav) : Int := rootI (1000 * (a.x - b.x) * (1000 * (a.x - b.x)) + 1000 * (a.y - b.y) * (1000 * (a.y - b.y)))
theorem wall_wr (a b : Cav) (ha : Place a.x a.y) (hb : Place b.x b.y) :
  IntKind.i64.wrap (a.x - b.x) = a.x - b.x ∧ IntKind.i64.wrap (a.y - b.y) = a.y - b.y ∧ IntKind.i64.wrap (1000 * (a.x - b.x)) = 1000 * (a.x - b.x) ∧ IntKind.i64.wrap (1000 * (a.y - b.y)) = 1000 * (a.y - b.y) ∧
  IntKind.i64.wrap (1000 * (a.x - b.x) * (1000 * (a.x - b.x))) = 1000 * (a.x - b.x) * (1000 * (a.x - b.x)) ∧ IntKind.i64.wrap (1000 * (a.y - b.y) * (1000 * (a.y - b.y))) = 1000 * (a.y - b.y) * (1000 * (a.y - b.y)) ∧
  IntKind.i64.wrap (1000 * (a.x - b.x) * (1000 * (a.x - b.x)) + 1000 * (a.y - b.y) * (1000 * (a.y - b.y))) = 1000 * (a.x - b.x) * (1000 * (a.x - b.x)) + 1000 * (a.y - b.y) * (1000 * (a.y - b.y)) ∧
  0 ≤ 1000 * (a.x - b.x) * (1000 * (a.x - b.x)) + 1000 * (a.y - b.y) * (1000 * (a.y - b.y)) ∧ 1000 * (a.x - b.x) * (1000 * (a.x - b.x)) + 1000 * (a.y - b.y) * (1000 * (a.y - b.y)) < 67108863 * 67108863 := by
 have h1 := @sqB (1000 * (a.x - b.x)) 20000000 (by omega)
 have h2 := @sqB (1000 * (a.y - b.y)) 20000000 (by omega)
 exact ⟨wr (by omega), wr (by omega), wr (by omega), wr (by omega), wr (by omega), wr (by omega), wr (by omega), by omega, by omega⟩
theorem distI_le (a b : Cav) (ha : Place a.x a.y) (hb : Place b.x b.y) : 0 ≤ distI a b ∧ distI a b < 67108863 := by
 obtain ⟨_, _, _, _, _, _, _, w8, w9⟩ := wall_wr a b ha hb
 obtain ⟨_, h1, h2, h3⟩ := s105 67108865 0 _ w8 w9 (by omega)
 refine ⟨h1, Int.not_le.1 fun h => ?_⟩
 have := Int.mul_le_mul h h (by omega) h1
 unfold distI at this
 omega
theorem s73 (s : Site) (i j : Nat) (a b : Int) (hi : i < s.cavs.len) (hj : j < s.cavs.len) (pi : Place (s.cavs.el i).x (s.cavs.el i).y) (pj : Place (s.cavs.el j).x (s.cavs.el j).y)
  (ha : 0 ≤ a ∧ a ≤ 1000000) (hb : 0 ≤ b ∧ b ≤ 1000000) (hF : 67108864 < F) :
  (E F (d + 4)).pf 52 [pSite s, .int .i64 (i : Int), .int .i64 (j : Int), .int .i64 a, .int .i64 b] = some (.ret (.int .i64 (distI (s.cavs.el i) (s.cavs.el j) - a - b))) := by
 obtain ⟨w1, w2, w3, w4, w5, w6, w7, w8, w9⟩ := wall_wr _ _ pi pj
 have hd := distI_le _ _ pi pj
 rw [E_pf, t73]
 simp only [Int.natCast_nonneg, Int.ofNat_lt, hi, hj, decide_true, cond_true, Int.toNat_natCast, w1, w2, w3, w4, w5, w6, w7, (s105 F d _ w8 w9 hF).1, tkOut_ret, tkInt_i]
 refine congrArg (fun x => some (Out.ret (.int .i64 x))) ?_
 unfold distI at hd ⊢
 rw [wr (show _ ∧ rootI _ - a ≤ _ by omega), wr (by omega)]
end Go.Sim.Cr


namespace Go.Sim.Cr
open Go.Proofs
variable (F d : Nat)
def rowStep (s : Site) : Nat → Bool
 | 0 => decide ((s.rows.el 0).deficit = 0)
 | j + 1 => decide ((s.rows.el j).deficit < (s.rows.el (j + 1)).deficit) && (decide ((s.rows.el j).rate.lo ≤ (s.rows.el (j + 1)).rate.lo ∧ (s.rows.el j).rate.hi ≤ (s.rows.el (j + 1)).rate.hi) &&
   decide ((s.rows.el j).spall.lo ≤ (s.rows.el (j + 1)).spall.lo ∧ (s.rows.el j).spall.hi ≤ (s.rows.el (j + 1)).spall.hi))
def rowB (s : Site) (i : Nat) : Bool := decide (0 ≤ (s.rows.el i).deficit ∧ (s.rows.el i).deficit ≤ 50000) && (decide (SpanIn (s.rows.el i).rate 0 100000) && (decide (SpanIn (s.rows.el i).spall 0 1000) && rowStep s i))
def heatStep (s : Site) : Nat → Bool
 | 0 => true
 | j + 1 => decide ((s.heats.el j).warmth < (s.heats.el (j + 1)).warmth) && decide ((s.heats.el j).factor.lo ≤ (s.heats.el (j + 1)).factor.lo ∧ (s.heats.el j).factor.hi ≤ (s.heats.el (j + 1)).factor.hi)
def heatB (s : Site) (i : Nat) : Bool := decide (0 ≤ (s.heats.el i).warmth ∧ (s.heats.el i).warmth ≤ 10000) && (decide (SpanIn (s.heats.el i).factor 0 10000) && heatStep s i)
def ringStep (s : Site) : Nat → Bool
 | 0 => true
 | j + 1 => decide ((s.rings.el j).away < (s.rings.el (j + 1)).away)
def ringB (s : Site) (i : Nat) : Bool := decide (0 ≤ (s.rings.el i).away ∧ (s.rings.el i).away ≤ 40000) && (decide (SpanIn (s.rings.el i).share 0 1000000) && ringStep s i)
def lens (s : Site) : Bool := decide ((1 ≤ s.rows.len ∧ s.rows.len ≤ 8) ∧ (1 ≤ s.heats.len ∧ s.heats.len ≤ 8) ∧ s.rings.len ≤ 8)
def tablesB (s : Site) : Bool := allF (rowB s) (allF (heatB s) (allF (ringB s) (lens s) s.rings.len 0) s.heats.len 0) s.rows.len 0
theorem wrP (j : Nat) (h : j < Big) : IntKind.i64.wrap (((j + 1 : Nat) : Int) - 1) = (j : Int) := by
 have h' : j < 4611686018427387904 := h
 rw [wr (by omega)]; omega
theorem nle (a b : Int) : (!decide (a ≤ b)) = decide (b < a) := by apply b2; simp only [Bool.not_eq_true', decide_eq_false_iff_not, decide_eq_true_iff]; omega
theorem l78x2 (s : Site) (hB : s.rings.len < Big) : ∀ n i fu, s.rings.len = i + n → n < fu →
  L78x2 (E F (d + 1)) F s fu (i : Int) = some (.ret (.bool (allF (ringB s) (lens s) n i))) := by
 intro n
 induction n with
 | zero =>
  intro i fu h hf
  obtain ⟨fu, rfl⟩ : ∃ k, fu = k + 1 := ⟨fu - 1, by omega⟩
  rw [L78x2s]
  simp only [Int.ofNat_lt, show ¬ i < s.rings.len by omega, decide_false, cond_false, allF, s72, tkOut_ret, tkBool_b, cAnd]
  refine b3 ?_
  unfold lens
  simp only [Bool.decide_and, Bool.and_assoc, show ∀ k : Nat, ((1 : Int) ≤ (k : Int)) ↔ 1 ≤ k by omega, show ∀ k : Nat, ((k : Int) ≤ 8) ↔ k ≤ 8 by omega]
 | succ n ih =>
  intro i fu h hf
  obtain ⟨fu, rfl⟩ : ∃ k, fu = k + 1 := ⟨fu - 1, by omega⟩
  rw [L78x2s]
  match i with
  | 0 =>
   simp only [Int.ofNat_lt, show 0 < s.rings.len by omega, decide_true, cond_true, Int.natCast_nonneg, Int.toNat_natCast, s72, s74, tkOut_ret, tkBool_b, wrS (show 0 < Big by omega), ih (0 + 1) fu (by omega) (by omega), allF, cNand, Bool.not_not, ringB, ringStep, gt_iff_lt, Bool.and_true, Bool.and_assoc]
   simp only [show decide ((0 : Int) < ((0 : Nat) : Int)) = false from rfl, cond_false, cNand, Bool.not_not]
  | j + 1 =>
   simp only [Int.ofNat_lt, show j + 1 < s.rings.len by omega, show j < s.rings.len by omega, decide_true, cond_true, Int.natCast_nonneg, Int.toNat_natCast, s72, s74, tkOut_ret, tkBool_b, wrS (show j + 1 < Big by omega), wrP j (by omega), ih (j + 1 + 1) fu (by omega) (by omega), allF, cNand, Bool.not_not, ringB, ringStep, gt_iff_lt, show (0 : Int) < ((j + 1 : Nat) : Int) by omega, nle, Bool.and_assoc]
theorem l78x1 (s : Site) (hB : s.heats.len < Big) (hB2 : s.rings.len < Big) (hF2 : s.rings.len < F) : ∀ n i fu, s.heats.len = i + n → n < fu →
  L78x1 (E F (d + 1)) F s fu (i : Int) = some (.ret (.bool (allF (heatB s) (allF (ringB s) (lens s) s.rings.len 0) n i))) := by
 intro n
 induction n with
 | zero =>
  intro i fu h hf
  obtain ⟨fu, rfl⟩ : ∃ k, fu = k + 1 := ⟨fu - 1, by omega⟩
  rw [L78x1s]
  simp only [Int.ofNat_lt, show ¬ i < s.heats.len by omega, decide_false, cond_false, allF]
  exact l78x2 F d s hB2 s.rings.len 0 F (by omega) hF2
 | succ n ih =>
  intro i fu h hf
  obtain ⟨fu, rfl⟩ : ∃ k, fu = k + 1 := ⟨fu - 1, by omega⟩
  rw [L78x1s]
  match i with
  | 0 =>
   simp only [Int.ofNat_lt, show 0 < s.heats.len by omega, decide_true, cond_true, Int.natCast_nonneg, Int.toNat_natCast, s72, s74, tkOut_ret, tkBool_b, wrS (show 0 < Big by omega), ih (0 + 1) fu (by omega) (by omega), allF, cNand, Bool.not_not, heatB, heatStep, gt_iff_lt, Bool.and_true, Bool.and_assoc]
   simp only [show decide ((0 : Int) < ((0 : Nat) : Int)) = false from rfl, cond_false, cNand, Bool.not_not]
  | j + 1 =>
   simp only [Int.ofNat_lt, show j + 1 < s.heats.len by omega, show j < s.heats.len by omega, decide_true, cond_true, Int.natCast_nonneg, Int.toNat_natCast, s72, s74, s107, tkOut_ret, tkBool_b, wrS (show j + 1 < Big by omega), wrP j (by omega), ih (j + 1 + 1) fu (by omega) (by omega), allF, cNand, Bool.not_not, heatB, heatStep, gt_iff_lt, show (0 : Int) < ((j + 1 : Nat) : Int) by omega, nle, Bool.and_assoc]
theorem l78x0 (s : Site) (hB0 : s.rows.len < Big) (hB : s.heats.len < Big) (hF : s.heats.len < F) (hB2 : s.rings.len < Big) (hF2 : s.rings.len < F) : ∀ n i fu, s.rows.len = i + n → n < fu →
  L78x0 (E F (d + 1)) F s fu (i : Int) = some (.ret (.bool (allF (rowB s) (allF (heatB s) (allF (ringB s) (lens s) s.rings.len 0) s.heats.len 0) n i))) := by
 intro n
 induction n with
 | zero =>
  intro i fu h hf
  obtain ⟨fu, rfl⟩ : ∃ k, fu = k + 1 := ⟨fu - 1, by omega⟩
  rw [L78x0s]
  simp only [Int.ofNat_lt, show ¬ i < s.rows.len by omega, decide_false, cond_false, allF]
  exact l78x1 F d s hB hB2 hF2 s.heats.len 0 F (by omega) hF
 | succ n ih =>
  intro i fu h hf
  obtain ⟨fu, rfl⟩ : ∃ k, fu = k + 1 := ⟨fu - 1, by omega⟩
  rw [L78x0s]
  match i with
  | 0 =>
   simp only [Int.ofNat_lt, show 0 < s.rows.len by omega, decide_true, cond_true, Int.natCast_nonneg, Int.toNat_natCast, s72, s74, tkOut_ret, tkBool_b, wrS (show 0 < Big by omega), ih (0 + 1) fu (by omega) (by omega), allF, cNand, Bool.not_not, rowB, rowStep, gt_iff_lt, Bool.and_assoc]
   simp only [show decide ((0 : Int) < ((0 : Nat) : Int)) = false from rfl, show (((0 : Nat) : Int) == 0) = true from rfl, cond_false, cond_true, cNand, Bool.not_not, bne, beqI]
  | j + 1 =>
   simp only [Int.ofNat_lt, show j + 1 < s.rows.len by omega, show j < s.rows.len by omega, decide_true, cond_true, Int.natCast_nonneg, Int.toNat_natCast, s72, s74, s107, tkOut_ret, tkBool_b, wrS (show j + 1 < Big by omega), wrP j (by omega), ih (j + 1 + 1) fu (by omega) (by omega), allF, cNand, Bool.not_not, rowB, rowStep, gt_iff_lt, show (0 : Int) < ((j + 1 : Nat) : Int) by omega, nle, Bool.and_assoc,
    show (((j + 1 : Nat) : Int) == 0) = false from beq_eq_false_iff_ne.2 (by omega), cond_false]
theorem s78 (s : Site) (hB0 : s.rows.len < Big) (hF0 : s.rows.len < F) (hB : s.heats.len < Big) (hF : s.heats.len < F) (hB2 : s.rings.len < Big) (hF2 : s.rings.len < F) :
  (E F (d + 2)).pf 57 [.agg (eSite s)] = some (.ret (.bool (tablesB s))) := by
 rw [E_pf, t78]
 exact l78x0 F d s hB0 hB hF hB2 hF2 s.rows.len 0 F (by omega) hF0
def cavB (s : Site) (i : Nat) : Bool := decide (CavOk (s.cavs.el i)) && decide (∀ k, k < i → ¬ ((s.cavs.el k).x = (s.cavs.el i).x ∧ (s.cavs.el k).y = (s.cavs.el i).y))
def housesB (s : Site) : Bool := decide (∀ i, i < s.houses.len → HouseOk (s.houses.el i))
structure Small (s : Site) (F : Nat) : Prop where
 cavs : s.cavs.len < Big
 rows : s.rows.len < Big
 heats : s.heats.len < Big
 rings : s.rings.len < Big
 houses : s.houses.len < Big
 cavsF : s.cavs.len < F
 rowsF : s.rows.len < F
 heatsF : s.heats.len < F
 ringsF : s.rings.len < F
 housesF : s.houses.len < F
def siteB (s : Site) : Bool := decide (1 ≤ s.cavs.len ∧ s.cavs.len ≤ 5) && (tablesB s && (decide (0 ≤ s.wall ∧ s.wall ≤ 1000000) && (decide (s.houses.len ≤ 5) && allF (cavB s) (housesB s) s.cavs.len 0)))
theorem l48 (s : Site) (hs : Small s F) : ∀ n i fu, s.cavs.len = i + n → n < fu →
  L48x0 (E F (d + 5)) F s fu (i : Int) = some (.ret (.bool (allF (cavB s) (housesB s) n i))) := by
 intro n
 induction n with
 | zero =>
  intro i fu h hf
  obtain ⟨fu, rfl⟩ : ∃ k, fu = k + 1 := ⟨fu - 1, by omega⟩
  rw [L48x0s]
  simp only [Int.ofNat_lt, show ¬ i < s.cavs.len by omega, decide_false, cond_false, allF, s82 F d s.houses hs.houses hs.housesF, tkOut_ret, tkBool_b, Bool.not_not, housesB]
 | succ n ih =>
  intro i fu h hf
  obtain ⟨fu, rfl⟩ : ∃ k, fu = k + 1 := ⟨fu - 1, by omega⟩
  rw [L48x0s]
  have h80 := s80 F (d + 2) ⟨s.cavs.nl, i, s.cavs.el⟩ (s.cavs.el i) (by show i < Big; have := hs.cavs; omega) (by show i < F; have := hs.cavsF; omega)
  simp only [Nat.add_assoc, Nat.reduceAdd] at h80
  have hb := hs.cavs
  simp only [Int.ofNat_lt, show i < s.cavs.len by omega, decide_true, cond_true, Int.natCast_nonneg, Int.toNat_natCast, s79, tkOut_ret, tkBool_b, wrS (show i < Big by omega), ih (i + 1) fu (by omega) (by omega), allF, cNand, Bool.not_not, Bool.true_or, Nat.zero_le, show i ≤ s.cavs.len by omega, Nat.sub_zero, h80, cavB, Bool.and_assoc]
theorem s48 (s : Site) (hs : Small s F) : (E F (d + 6)).pf 28 [.agg (eSite s)] = some (.ret (.bool (siteB s))) := by
 rw [E_pf, t48, show L48x0 (E F (d + 5)) F s F 0 = _ from l48 F d s hs s.cavs.len 0 F (by omega) hs.cavsF]
 simp only [s72, s78 F (d + 3) s hs.rows hs.rowsF hs.heats hs.heatsF hs.rings hs.ringsF, tkOut_ret, tkBool_b, cNand, Bool.not_not]
 refine b3 ?_
 simp only [siteB, Bool.and_assoc, Bool.decide_and, show ∀ k : Nat, ((1 : Int) ≤ (k : Int)) ↔ 1 ≤ k by omega, show ∀ k : Nat, ((k : Int) ≤ 5) ↔ k ≤ 5 by omega, gt_iff_lt, show ∀ k : Nat, ((5 : Int) < (k : Int)) ↔ ¬ k ≤ 5 by omega, decide_not, Bool.not_not]
end Go.Sim.Cr


namespace Go.Sim.Cr
open Go.Proofs
variable (F d : Nat)
structure SiteF (s : Site) : Prop where
 cavs1 : 1 ≤ s.cavs.len
 cavs5 : s.cavs.len ≤ 5
 cav : ∀ i, i < s.cavs.len → CavOk (s.cavs.el i)
 apart : ∀ i k, i < s.cavs.len → k < i → ¬ ((s.cavs.el k).x = (s.cavs.el i).x ∧ (s.cavs.el k).y = (s.cavs.el i).y)
 wall : 0 ≤ s.wall ∧ s.wall ≤ 1000000
 houses5 : s.houses.len ≤ 5
 house : ∀ i, i < s.houses.len → HouseOk (s.houses.el i)
 row : ∀ i, i < s.rows.len → rowB s i = true
 heat : ∀ i, i < s.heats.len → heatB s i = true
 ring : ∀ i, i < s.rings.len → ringB s i = true
 rows1 : 1 ≤ s.rows.len
 rows8 : s.rows.len ≤ 8
 heats1 : 1 ≤ s.heats.len
 heats8 : s.heats.len ≤ 8
 rings8 : s.rings.len ≤ 8
theorem siteB_iff (s : Site) : siteB s = true ↔ SiteF s := by
 simp only [siteB, tablesB, lens, cavB, housesB, Bool.and_eq_true, allF_0, decide_eq_true_iff]
 constructor
 ·rintro ⟨⟨h1, h2⟩, ⟨h3, h4, h5, ⟨h6, h7⟩, ⟨h8, h9⟩, h10⟩, h11, h12, h13, h14⟩
  exact ⟨h1, h2, fun i hi => (h13 i hi).1, fun i k hi hk => (h13 i hi).2 k hk, h11, h12, h14, h3, h4, h5, h6, h7, h8, h9, h10⟩
 ·intro h
  exact ⟨⟨h.cavs1, h.cavs5⟩, ⟨h.row, h.heat, h.ring, ⟨h.rows1, h.rows8⟩, ⟨h.heats1, h.heats8⟩, h.rings8⟩, h.wall, h.houses5, fun k hk => ⟨h.cav k hk, fun j hj => h.apart k j hk hj⟩, h.house⟩
theorem SiteF.away {s : Site} (h : SiteF s) : AwayOk s := fun i hi => by
 have := h.ring i hi
 simp only [ringB, Bool.and_eq_true, decide_eq_true_iff] at this
 exact this.1
theorem SiteF.share {s : Site} (h : SiteF s) (i : Nat) (hi : i < s.rings.len) : SpanIn (s.rings.el i).share 0 1000000 := by
 have := h.ring i hi
 simp only [ringB, Bool.and_eq_true, decide_eq_true_iff] at this
 exact this.2.1
theorem ringFrom_ok {s : Site} (h : SiteF s) (c : Cav) (x y : Int) : ∀ n i, s.rings.len = i + n → SpanIn ((ringFrom s c x y n i).getD zSpan) 0 1000000 := by
 intro n
 induction n with
 | zero => intro i _; exact (by decide : SpanIn zSpan 0 1000000)
 | succ n ih =>
  intro i hi
  simp only [ringFrom]
  cases decide (dist2 c x y ≤ (s.rings.el i).away * (s.rings.el i).away)
  ·exact ih (i + 1) (by omega)
  ·exact h.share i (by omega)
abbrev shareOf (s : Site) (c : Cav) (x y : Int) : Span := (ringOf s c x y).getD zSpan
theorem shareOf_ok {s : Site} (h : SiteF s) (c : Cav) (x y : Int) : SpanIn (shareOf s c x y) 0 1000000 := ringFrom_ok h c x y s.rings.len 0 (by omega)
def sunkFrom (s : Site) (l : Sl Stt) (x y : Int) : Nat → Nat → Int → Int → Span
 | 0, _, a, b => ⟨a, b⟩
 | n + 1, i, a, b => sunkFrom s l x y n (i + 1) (a + (l.el i).lost.lo * (shareOf s (s.cavs.el i) x y).lo / 1000000) (b + ((l.el i).lost.hi * (shareOf s (s.cavs.el i) x y).hi + 999999) / 1000000)
def sunk (s : Site) (l : Sl Stt) (x y : Int) : Span := sunkFrom s l x y l.len 0 0 0
theorem lowW {v q a : Int} (hv : 0 ≤ v ∧ v ≤ 1000000000) (hq : 0 ≤ q ∧ q ≤ 1000000) (ha : 0 ≤ a ∧ a ≤ 1000000000000) : IntKind.i64.wrap (a + IntKind.i64.wrap (Int.tdiv (IntKind.i64.wrap (v * q)) 1000000)) = a + v * q / 1000000 := by
 have h := mulB hv hq
 rw [wr (show _ ∧ v * q ≤ _ by omega), Int.tdiv_eq_ediv_of_nonneg (by omega), wr (show _ ∧ v * q / 1000000 ≤ _ by omega), wr (by omega)]
theorem highW {v q a : Int} (hv : 0 ≤ v ∧ v ≤ 1000000000) (hq : 0 ≤ q ∧ q ≤ 1000000) (ha : 0 ≤ a ∧ a ≤ 1000000000000) : IntKind.i64.wrap (a + IntKind.i64.wrap (Int.tdiv (IntKind.i64.wrap (IntKind.i64.wrap (v * q) + 999999)) 1000000)) = a + (v * q + 999999) / 1000000 := by
 have h := mulB hv hq
 rw [wr (show _ ∧ v * q ≤ _ by omega), wr (show _ ∧ v * q + 999999 ≤ _ by omega), Int.tdiv_eq_ediv_of_nonneg (by omega), wr (show _ ∧ (v * q + 999999) / 1000000 ≤ _ by omega), wr (by omega)]
theorem div_ok {v q r : Int} (hv : 0 ≤ v ∧ v ≤ 1000000000) (hq : 0 ≤ q ∧ q ≤ 1000000) (hr : 0 ≤ r ∧ r ≤ 999999) : 0 ≤ (v * q + r) / 1000000 ∧ (v * q + r) / 1000000 ≤ 1000000000 := by
 have h := mulB hv hq
 omega
theorem l53 (s : Site) (l : Sl Stt) (x y : Int) (hS : SiteF s) (hl : l.len = s.cavs.len) (hb : ∀ i, i < l.len → SttOk (l.el i)) (hp : Place x y) (hF : s.rings.len < F) : ∀ n i fu a b, l.len = i + n → n < fu →
  0 ≤ a ∧ a ≤ (i : Int) * 1000000000 → 0 ≤ b ∧ b ≤ (i : Int) * 1000000000 →
  L53x0 (E F (d + 1)) F s l x y fu (i : Int) a b = some (.ret (.agg (eSpan (sunkFrom s l x y n i a b)))) := by
 have h5 := hS.cavs5
 have h8 := hS.rings8
 intro n
 induction n with
 | zero =>
  intro i fu a b h hf ha hb
  obtain ⟨fu, rfl⟩ : ∃ k, fu = k + 1 := ⟨fu - 1, by omega⟩
  rw [L53x0s]
  simp only [Int.ofNat_lt, show ¬ i < l.len by omega, decide_false, cond_false, sunkFrom]
 | succ n ih =>
  intro i fu a b h hf ha hb'
  obtain ⟨fu, rfl⟩ : ∃ k, fu = k + 1 := ⟨fu - 1, by omega⟩
  rw [L53x0s]
  have hq := shareOf_ok hS (s.cavs.el i) x y
  have hv := (hb i (by omega)).2.2
  have hi5 : (i : Int) ≤ 5 := by omega
  have d0 := @div_ok (l.el i).lost.lo (shareOf s (s.cavs.el i) x y).lo 0 (by omega) (by omega) (by omega)
  have d1 := @div_ok (l.el i).lost.hi (shareOf s (s.cavs.el i) x y).hi 999999 (by omega) (by omega) (by omega)
  rw [Int.add_zero] at d0
  simp only [Int.ofNat_lt, show i < l.len by omega, show i < s.cavs.len by omega, decide_true, cond_true, Int.natCast_nonneg, Int.toNat_natCast,
   s92 F d s (s.cavs.el i) x y hS.away (hS.cav i (by omega)).1 hp (show s.rings.len < 4611686018427387904 by omega) hF, tkOut_ret, tkAgg_a, tkCons_c, tkInt_i, tkNil_n,
   wrS (show i < 4611686018427387904 by omega), @lowW (l.el i).lost.lo (shareOf s (s.cavs.el i) x y).lo a (by omega) (by omega) (by omega), @highW (l.el i).lost.hi (shareOf s (s.cavs.el i) x y).hi b (by omega) (by omega) (by omega), sunkFrom]
  exact ih (i + 1) fu _ _ (by omega) (by omega) (by omega) (by omega)
theorem s53 (s : Site) (l : Sl Stt) (x y : Int) (hS : SiteF s) (hL : StatesOk s l) (hp : Place x y) (hF : 8 < F) :
  (E F (d + 2)).pf 54 [pSite s, sl eStt 6 l, .int .i64 x, .int .i64 y] = some (.ret (.agg (eSpan (sunk s l x y)))) := by
 have h5 := hS.cavs5
 have h8 := hS.rings8
 have hl := hL.1
 rw [E_pf, t53]
 exact l53 F d s l x y hS hL.1 hL.2 hp (by omega) l.len 0 F 0 0 (by omega) (by omega) (by omega) (by omega)
theorem s15 (s : Site) (l : Sl Stt) (x y : Int) (hs : Small s F) (hB : l.len < Big) (hlF : l.len < F) (hF : 8 < F) :
  (E F (d + 7)).pf 22 [.agg (eSite s), sl eStt 6 l, .int .i64 x, .int .i64 y] = some (.ret (bif siteB s && (decide (StatesOk s l) && decide (Place x y)) then .tup [.agg (eSpan (sunk s l x y)), .int .i64 0] else .tup [.agg (eSpan zSpan), .int .i64 2])) := by
 rw [E_pf, t15]
 simp only [s48 F d s hs, tkOut_ret, tkBool_b, s49 F d s l hB hlF, s52, Nat.reduceAdd]
 cases h1 : siteB s
 ·rfl
 ·by_cases h2 : StatesOk s l
  ·by_cases h3 : Place x y
   ·simp only [decide_eq_true h2, decide_eq_true h3, Bool.not_true, cond_false, Bool.and_self, cond_true, s53 F (d + 4) s l x y ((siteB_iff s).1 h1) h2 h3 hF, tkOut_ret, tkAgg_a, tkCons_c, tkInt_i, tkNil_n]
   ·simp only [decide_eq_true h2, decide_eq_false h3, Bool.not_true, Bool.not_false, cond_false, cond_true, Bool.and_false]
  ·simp only [decide_eq_false h2, Bool.not_true, Bool.not_false, cond_false, cond_true, Bool.and_false, Bool.false_and]
end Go.Sim.Cr


namespace Go.Sim.Cr
open Go.Proofs
variable (F d : Nat)
abbrev Inc (num : Nat → Int) (n : Nat) : Prop := ∀ i, i + 1 < n → num i < num (i + 1)
theorem Inc.lt {num : Nat → Int} {n : Nat} (h : Inc num n) : ∀ {j i : Nat}, i < j → j < n → num i < num j := by
 intro j
 induction j with
 | zero => intro i h1; omega
 | succ j ih =>
  intro i h1 h2
  have h3 := h j h2
  by_cases h4 : i = j
  ·subst h4; exact h3
  ·have := @ih i (by omega) (by omega); omega
def lastIx (num : Nat → Int) (x : Int) : Nat → Nat
 | 0 => 0
 | n + 1 => bif decide (num n ≤ x) then n else lastIx num x n
def firstIx (num : Nat → Int) (x : Int) : Nat → Nat → Nat
 | 0, i => i
 | n + 1, i => bif decide (x ≤ num i) then i else firstIx num x n (i + 1)
theorem lastIx_eq {num : Nat → Int} {x : Int} : ∀ {n i : Nat}, i < n → num i ≤ x → (∀ j, i < j → j < n → x < num j) → lastIx num x n = i := by
 intro n
 induction n with
 | zero => intro i h; omega
 | succ n ih =>
  intro i h1 h2 h3
  by_cases h4 : i = n
  ·subst h4; rw [lastIx, decide_eq_true h2, cond_true]
  ·rw [lastIx, decide_eq_false (by have := h3 n (by omega) (by omega); omega), cond_false]
   exact ih (by omega) h2 fun j h5 h6 => h3 j h5 (by omega)
theorem lastIx_ok {num : Nat → Int} {x : Int} : ∀ {n : Nat}, 0 < n → num 0 ≤ x → lastIx num x n < n ∧ num (lastIx num x n) ≤ x ∧ ∀ j, lastIx num x n < j → j < n → x < num j := by
 intro n
 induction n with
 | zero => intro h; omega
 | succ n ih =>
  intro _ h0
  by_cases h : num n ≤ x
  ·rw [lastIx, decide_eq_true h, cond_true]
   exact ⟨by omega, h, fun j h1 h2 => by omega⟩
  ·rw [lastIx, decide_eq_false h, cond_false]
   have hn : 0 < n := by
    rcases Nat.eq_zero_or_pos n with rfl | h
    ·exact (h h0).elim
    ·exact h
   obtain ⟨h1, h2, h3⟩ := ih hn h0
   refine ⟨by omega, h2, fun j h4 h5 => ?_⟩
   by_cases h6 : j = n
   ·subst h6; omega
   ·exact h3 j h4 (by omega)
theorem firstIx_eq {num : Nat → Int} {x : Int} : ∀ {n i k : Nat}, i ≤ k → k < i + n → x ≤ num k → (∀ j, i ≤ j → j < k → num j < x) → firstIx num x n i = k := by
 intro n
 induction n with
 | zero => intro i k h1 h2; omega
 | succ n ih =>
  intro i k h1 h2 h3 h4
  by_cases h5 : i = k
  ·subst h5; rw [firstIx, decide_eq_true h3, cond_true]
  ·rw [firstIx, decide_eq_false (by have := h4 i (by omega) (by omega); omega), cond_false]
   exact ih (by omega) (by omega) h3 fun j h6 h7 => h4 j (by omega) h7
theorem firstIx_ok {num : Nat → Int} {x : Int} : ∀ {n i : Nat}, 0 < n → x ≤ num (i + n - 1) → i ≤ firstIx num x n i ∧ firstIx num x n i < i + n ∧ x ≤ num (firstIx num x n i) ∧ ∀ j, i ≤ j → j < firstIx num x n i → num j < x := by
 intro n
 induction n with
 | zero => intro i h; omega
 | succ n ih =>
  intro i _ h0
  by_cases h : x ≤ num i
  ·rw [firstIx, decide_eq_true h, cond_true]
   exact ⟨by omega, by omega, h, fun j h1 h2 => by omega⟩
  ·rw [firstIx, decide_eq_false h, cond_false]
   have hn : 0 < n := by
    rcases Nat.eq_zero_or_pos n with rfl | h'
    ·rw [show i + (0 + 1) - 1 = i by omega] at h0; exact (h h0).elim
    ·exact h'
   obtain ⟨h1, h2, h3, h4⟩ := @ih (i + 1) hn (by rw [show i + 1 + n - 1 = i + (n + 1) - 1 by omega]; exact h0)
   refine ⟨by omega, by omega, h3, fun j h5 h6 => ?_⟩
   by_cases h7 : j = i
   ·subst h7; omega
   ·exact h4 j (by omega) h6
def offB (num : Nat → Int) (n : Nat) (lo hi : Int) : Bool := decide (lo < num 0) || decide (num (n - 1) < hi)
abbrev rowN (s : Site) : Nat → Int := fun i => (s.rows.el i).deficit
theorem s117 (s : Site) (i : Int) (h0 : 0 ≤ i) (h1 : i < (s.rows.len : Int)) : (E F (d + 1)).pf 113 [.int .i64 i, .rptr 1 1 (fun _ => [pSite s]) 0 0] = some (.ret (.int .i64 (rowN s i.toNat))) := by
 rw [E_pf, t117, decide_eq_true h0, decide_eq_true h1]; rfl
theorem s1191 (s : Site) (i lo : Int) (h0 : 0 ≤ i) (h1 : i < (s.rows.len : Int)) : (E F (d + 2)).pf 124 [.int .i64 i, .rptr 1 1 (fun _ => [cMap 113 s]) 0 0, .rptr 1 1 (fun _ => [.int .i64 lo]) 0 0] = some (.ret (.bool (decide (lo < rowN s i.toNat)))) := by
 rw [E_pf, t1191, s117 F d s i h0 h1]; rfl
theorem s1201 (s : Site) (i hi : Int) (h0 : 0 ≤ i) (h1 : i < (s.rows.len : Int)) : (E F (d + 2)).pf 125 [.int .i64 i, .rptr 1 1 (fun _ => [cMap 113 s]) 0 0, .rptr 1 1 (fun _ => [.int .i64 hi]) 0 0] = some (.ret (.bool (decide (hi ≤ rowN s i.toNat)))) := by
 rw [E_pf, t1201, s117 F d s i h0 h1]; rfl
theorem s7621 (s : Site) (lo : Int) (h1 : 1 ≤ s.rows.len) (h8 : s.rows.len ≤ 8) (hF : 8 < F) : ∃ r, (E F (d + 3)).pf 99 [.int .i64 0, .int .i64 (s.rows.len : Int), .fn (.func 124) [] [.rptr 1 1 (fun _ => [cMap 113 s]) 0 0, .rptr 1 1 (fun _ => [.int .i64 lo]) 0 0]] = some (.ret (.int .i64 r)) ∧
  0 ≤ r ∧ r ≤ (s.rows.len : Int) ∧ (r < (s.rows.len : Int) → lo < rowN s r.toNat) ∧ (0 < r → rowN s (r - 1).toNat ≤ lo) := by
 obtain ⟨r, e, r1, r2, r3, r4⟩ := firstLaw (fun fu i j => L7621x0 (E F (d + 2)) F 0 (s.rows.len : Int) lo s fu i j) (fun x => decide (lo < rowN s x.toNat)) 0 (s.rows.len : Int) (by
  intro fu i j a1 a2 a3
  rw [L7621x0s]
  by_cases hij : i < j
  ·simp only [mid_wr (show -2305843009213693952 ≤ i by omega) a2 (by omega), wr (show _ ∧ i + (j - i) / 2 + 1 ≤ _ by omega), s1191 F d s (i + (j - i) / 2) lo (by omega) (by omega), tkOut_ret, tkBool_b]
  ·simp only [hij, decide_false, cond_false]) 8 F 0 (s.rows.len : Int) (by omega) (by omega) (by omega) (by omega) (by omega)
 refine ⟨r, ?_, r1, r2, fun h => of_decide_eq_true (r3 h), fun h => ?_⟩
 ·rw [E_pf, t7621]; exact e
 ·have := of_decide_eq_false (r4 h); omega
theorem s7631 (s : Site) (hi : Int) (h1 : 1 ≤ s.rows.len) (h8 : s.rows.len ≤ 8) (hF : 8 < F) : ∃ r, (E F (d + 3)).pf 99 [.int .i64 0, .int .i64 (s.rows.len : Int), .fn (.func 125) [] [.rptr 1 1 (fun _ => [cMap 113 s]) 0 0, .rptr 1 1 (fun _ => [.int .i64 hi]) 0 0]] = some (.ret (.int .i64 r)) ∧
  0 ≤ r ∧ r ≤ (s.rows.len : Int) ∧ (r < (s.rows.len : Int) → hi ≤ rowN s r.toNat) ∧ (0 < r → rowN s (r - 1).toNat < hi) := by
 obtain ⟨r, e, r1, r2, r3, r4⟩ := firstLaw (fun fu i j => L7631x0 (E F (d + 2)) F 0 (s.rows.len : Int) hi s fu i j) (fun x => decide (hi ≤ rowN s x.toNat)) 0 (s.rows.len : Int) (by
  intro fu i j a1 a2 a3
  rw [L7631x0s]
  by_cases hij : i < j
  ·simp only [mid_wr (show -2305843009213693952 ≤ i by omega) a2 (by omega), wr (show _ ∧ i + (j - i) / 2 + 1 ≤ _ by omega), s1201 F d s (i + (j - i) / 2) hi (by omega) (by omega), tkOut_ret, tkBool_b]
  ·simp only [hij, decide_false, cond_false]) 8 F 0 (s.rows.len : Int) (by omega) (by omega) (by omega) (by omega) (by omega)
 refine ⟨r, ?_, r1, r2, fun h => of_decide_eq_true (r3 h), fun h => ?_⟩
 ·rw [E_pf, t7631]; exact e
 ·have := of_decide_eq_false (r4 h); omega
theorem s1161 (s : Site) (lo hi : Int) (hm : Inc (rowN s) s.rows.len) (h1 : 1 ≤ s.rows.len) (h8 : s.rows.len ≤ 8) (hF : 8 < F) : (E F (d + 4)).pf 112 [.int .i64 (s.rows.len : Int), cMap 113 s, .int .i64 lo, .int .i64 hi] =
  some (bif offB (rowN s) s.rows.len lo hi then .pan (.iface 127 (.agg [.int .i64 lo])) else .ret (.tup [.int .i64 (lastIx (rowN s) lo s.rows.len : Int), .int .i64 (firstIx (rowN s) hi s.rows.len 0 : Int)])) := by
 obtain ⟨r, e, r1, r2, r3, r4⟩ := s7621 F d s lo h1 h8 hF
 obtain ⟨q, e', q1, q2, q3, q4⟩ := s7631 F d s hi h1 h8 hF
 have z1 : r = 0 ↔ lo < rowN s 0 := by
  constructor
  ·intro h; have := r3 (by omega); rw [h] at this; exact this
  ·intro h
   rcases Int.lt_or_eq_of_le r1 with h2 | h2
   ·have h3 := r4 h2
    by_cases h4 : (r - 1).toNat = 0
    ·rw [h4] at h3; omega
    ·have := hm.lt (show 0 < (r - 1).toNat by omega) (by omega); omega
   ·exact h2.symm
 have z2 : 0 < r → r - 1 = (lastIx (rowN s) lo s.rows.len : Int) := by
  intro h
  have := lastIx_eq (n := s.rows.len) (i := (r - 1).toNat) (by omega) (r4 h) fun j h2 h3 => by
   have h4 := r3 (by omega)
   rcases Nat.lt_or_ge r.toNat j with h5 | h5
   ·have := hm.lt h5 h3; omega
   ·rw [show j = r.toNat by omega]; exact h4
  omega
 have z3 : q = (s.rows.len : Int) ↔ rowN s (s.rows.len - 1) < hi := by
  constructor
  ·intro h; have := q4 (by omega); rw [show (q - 1).toNat = s.rows.len - 1 by omega] at this; exact this
  ·intro h
   rcases Int.lt_or_eq_of_le q2 with h2 | h2
   ·have h3 := q3 h2
    by_cases h4 : q.toNat = s.rows.len - 1
    ·rw [h4] at h3; omega
    ·have := hm.lt (show q.toNat < s.rows.len - 1 by omega) (by omega); omega
   ·exact h2
 have z4 : q < (s.rows.len : Int) → q = (firstIx (rowN s) hi s.rows.len 0 : Int) := by
  intro h
  have := firstIx_eq (n := s.rows.len) (i := 0) (k := q.toNat) (by omega) (by omega) (q3 h) fun j _ h3 => by
   have h4 := q4 (by omega)
   rcases Nat.lt_or_ge j (q - 1).toNat with h5 | h5
   ·have := hm.lt h5 (by omega); omega
   ·rw [show j = (q - 1).toNat by omega]; exact h4
  omega
 rw [E_pf, t1161]
 simp only [e, e', tkOut_ret, tkInt_i, decide_true, cond_true, wr (show _ ∧ r - 1 ≤ _ by omega)]
 unfold offB
 by_cases a1 : lo < rowN s 0
 ·rw [decide_eq_true a1, decide_eq_true (show r - 1 < 0 by have := z1.2 a1; omega)]; rfl
 ·rw [decide_eq_false a1, decide_eq_false (show ¬ r - 1 < 0 by have := mt z1.1 a1; omega), Bool.false_or, cond_false]
  by_cases a2 : rowN s (s.rows.len - 1) < hi
  ·rw [decide_eq_true a2, show (q == (s.rows.len : Int)) = true from beq_iff_eq.2 (z3.2 a2)]; rfl
  ·rw [decide_eq_false a2, show (q == (s.rows.len : Int)) = false from beq_eq_false_iff_ne.2 (mt z3.1 a2), z2 (by have := mt z1.1 a1; omega), ← z4 (by have := mt z3.1 a2; omega)]; rfl
abbrev heatN (s : Site) : Nat → Int := fun i => (s.heats.el i).warmth
theorem s118 (s : Site) (i : Int) (h0 : 0 ≤ i) (h1 : i < (s.heats.len : Int)) : (E F (d + 1)).pf 114 [.int .i64 i, .rptr 1 1 (fun _ => [pSite s]) 0 0] = some (.ret (.int .i64 (heatN s i.toNat))) := by
 rw [E_pf, t118, decide_eq_true h0, decide_eq_true h1]; rfl
theorem s1192 (s : Site) (i lo : Int) (h0 : 0 ≤ i) (h1 : i < (s.heats.len : Int)) : (E F (d + 2)).pf 124 [.int .i64 i, .rptr 1 1 (fun _ => [cMap 114 s]) 0 0, .rptr 1 1 (fun _ => [.int .i64 lo]) 0 0] = some (.ret (.bool (decide (lo < heatN s i.toNat)))) := by
 rw [E_pf, t1192, s118 F d s i h0 h1]; rfl
theorem s1202 (s : Site) (i hi : Int) (h0 : 0 ≤ i) (h1 : i < (s.heats.len : Int)) : (E F (d + 2)).pf 125 [.int .i64 i, .rptr 1 1 (fun _ => [cMap 114 s]) 0 0, .rptr 1 1 (fun _ => [.int .i64 hi]) 0 0] = some (.ret (.bool (decide (hi ≤ heatN s i.toNat)))) := by
 rw [E_pf, t1202, s118 F d s i h0 h1]; rfl
theorem s7622 (s : Site) (lo : Int) (h1 : 1 ≤ s.heats.len) (h8 : s.heats.len ≤ 8) (hF : 8 < F) : ∃ r, (E F (d + 3)).pf 99 [.int .i64 0, .int .i64 (s.heats.len : Int), .fn (.func 124) [] [.rptr 1 1 (fun _ => [cMap 114 s]) 0 0, .rptr 1 1 (fun _ => [.int .i64 lo]) 0 0]] = some (.ret (.int .i64 r)) ∧
  0 ≤ r ∧ r ≤ (s.heats.len : Int) ∧ (r < (s.heats.len : Int) → lo < heatN s r.toNat) ∧ (0 < r → heatN s (r - 1).toNat ≤ lo) := by
 obtain ⟨r, e, r1, r2, r3, r4⟩ := firstLaw (fun fu i j => L7622x0 (E F (d + 2)) F 0 (s.heats.len : Int) lo s fu i j) (fun x => decide (lo < heatN s x.toNat)) 0 (s.heats.len : Int) (by
  intro fu i j a1 a2 a3
  rw [L7622x0s]
  by_cases hij : i < j
  ·simp only [mid_wr (show -2305843009213693952 ≤ i by omega) a2 (by omega), wr (show _ ∧ i + (j - i) / 2 + 1 ≤ _ by omega), s1192 F d s (i + (j - i) / 2) lo (by omega) (by omega), tkOut_ret, tkBool_b]
  ·simp only [hij, decide_false, cond_false]) 8 F 0 (s.heats.len : Int) (by omega) (by omega) (by omega) (by omega) (by omega)
 refine ⟨r, ?_, r1, r2, fun h => of_decide_eq_true (r3 h), fun h => ?_⟩
 ·rw [E_pf, t7622]; exact e
 ·have := of_decide_eq_false (r4 h); omega
theorem s7632 (s : Site) (hi : Int) (h1 : 1 ≤ s.heats.len) (h8 : s.heats.len ≤ 8) (hF : 8 < F) : ∃ r, (E F (d + 3)).pf 99 [.int .i64 0, .int .i64 (s.heats.len : Int), .fn (.func 125) [] [.rptr 1 1 (fun _ => [cMap 114 s]) 0 0, .rptr 1 1 (fun _ => [.int .i64 hi]) 0 0]] = some (.ret (.int .i64 r)) ∧
  0 ≤ r ∧ r ≤ (s.heats.len : Int) ∧ (r < (s.heats.len : Int) → hi ≤ heatN s r.toNat) ∧ (0 < r → heatN s (r - 1).toNat < hi) := by
 obtain ⟨r, e, r1, r2, r3, r4⟩ := firstLaw (fun fu i j => L7632x0 (E F (d + 2)) F 0 (s.heats.len : Int) hi s fu i j) (fun x => decide (hi ≤ heatN s x.toNat)) 0 (s.heats.len : Int) (by
  intro fu i j a1 a2 a3
  rw [L7632x0s]
  by_cases hij : i < j
  ·simp only [mid_wr (show -2305843009213693952 ≤ i by omega) a2 (by omega), wr (show _ ∧ i + (j - i) / 2 + 1 ≤ _ by omega), s1202 F d s (i + (j - i) / 2) hi (by omega) (by omega), tkOut_ret, tkBool_b]
  ·simp only [hij, decide_false, cond_false]) 8 F 0 (s.heats.len : Int) (by omega) (by omega) (by omega) (by omega) (by omega)
 refine ⟨r, ?_, r1, r2, fun h => of_decide_eq_true (r3 h), fun h => ?_⟩
 ·rw [E_pf, t7632]; exact e
 ·have := of_decide_eq_false (r4 h); omega
theorem s1162 (s : Site) (lo hi : Int) (hm : Inc (heatN s) s.heats.len) (h1 : 1 ≤ s.heats.len) (h8 : s.heats.len ≤ 8) (hF : 8 < F) : (E F (d + 4)).pf 112 [.int .i64 (s.heats.len : Int), cMap 114 s, .int .i64 lo, .int .i64 hi] =
  some (bif offB (heatN s) s.heats.len lo hi then .pan (.iface 127 (.agg [.int .i64 lo])) else .ret (.tup [.int .i64 (lastIx (heatN s) lo s.heats.len : Int), .int .i64 (firstIx (heatN s) hi s.heats.len 0 : Int)])) := by
 obtain ⟨r, e, r1, r2, r3, r4⟩ := s7622 F d s lo h1 h8 hF
 obtain ⟨q, e', q1, q2, q3, q4⟩ := s7632 F d s hi h1 h8 hF
 have z1 : r = 0 ↔ lo < heatN s 0 := by
  constructor
  ·intro h; have := r3 (by omega); rw [h] at this; exact this
  ·intro h
   rcases Int.lt_or_eq_of_le r1 with h2 | h2
   ·have h3 := r4 h2
    by_cases h4 : (r - 1).toNat = 0
    ·rw [h4] at h3; omega
    ·have := hm.lt (show 0 < (r - 1).toNat by omega) (by omega); omega
   ·exact h2.symm
 have z2 : 0 < r → r - 1 = (lastIx (heatN s) lo s.heats.len : Int) := by
  intro h
  have := lastIx_eq (n := s.heats.len) (i := (r - 1).toNat) (by omega) (r4 h) fun j h2 h3 => by
   have h4 := r3 (by omega)
   rcases Nat.lt_or_ge r.toNat j with h5 | h5
   ·have := hm.lt h5 h3; omega
   ·rw [show j = r.toNat by omega]; exact h4
  omega
 have z3 : q = (s.heats.len : Int) ↔ heatN s (s.heats.len - 1) < hi := by
  constructor
  ·intro h; have := q4 (by omega); rw [show (q - 1).toNat = s.heats.len - 1 by omega] at this; exact this
  ·intro h
   rcases Int.lt_or_eq_of_le q2 with h2 | h2
   ·have h3 := q3 h2
    by_cases h4 : q.toNat = s.heats.len - 1
    ·rw [h4] at h3; omega
    ·have := hm.lt (show q.toNat < s.heats.len - 1 by omega) (by omega); omega
   ·exact h2
 have z4 : q < (s.heats.len : Int) → q = (firstIx (heatN s) hi s.heats.len 0 : Int) := by
  intro h
  have := firstIx_eq (n := s.heats.len) (i := 0) (k := q.toNat) (by omega) (by omega) (q3 h) fun j _ h3 => by
   have h4 := q4 (by omega)
   rcases Nat.lt_or_ge j (q - 1).toNat with h5 | h5
   ·have := hm.lt h5 (by omega); omega
   ·rw [show j = (q - 1).toNat by omega]; exact h4
  omega
 rw [E_pf, t1162]
 simp only [e, e', tkOut_ret, tkInt_i, decide_true, cond_true, wr (show _ ∧ r - 1 ≤ _ by omega)]
 unfold offB
 by_cases a1 : lo < heatN s 0
 ·rw [decide_eq_true a1, decide_eq_true (show r - 1 < 0 by have := z1.2 a1; omega)]; rfl
 ·rw [decide_eq_false a1, decide_eq_false (show ¬ r - 1 < 0 by have := mt z1.1 a1; omega), Bool.false_or, cond_false]
  by_cases a2 : heatN s (s.heats.len - 1) < hi
  ·rw [decide_eq_true a2, show (q == (s.heats.len : Int)) = true from beq_iff_eq.2 (z3.2 a2)]; rfl
  ·rw [decide_eq_false a2, show (q == (s.heats.len : Int)) = false from beq_eq_false_iff_ne.2 (mt z3.1 a2), z2 (by have := mt z1.1 a1; omega), ← z4 (by have := mt z3.1 a2; omega)]; rfl
end Go.Sim.Cr


namespace Go.Sim.Cr
open Go.Proofs
variable (F d : Nat)
theorem SiteF.incRow {s : Site} (h : SiteF s) : Inc (rowN s) s.rows.len := fun i hi => by
 have := h.row (i + 1) hi
 simp only [rowB, rowStep, Bool.and_eq_true, decide_eq_true_iff] at this
 exact this.2.2.2.1
theorem SiteF.incHeat {s : Site} (h : SiteF s) : Inc (heatN s) s.heats.len := fun i hi => by
 have := h.heat (i + 1) hi
 simp only [heatB, heatStep, Bool.and_eq_true, decide_eq_true_iff] at this
 exact this.2.2.1
theorem SiteF.rowOk {s : Site} (h : SiteF s) {i : Nat} (hi : i < s.rows.len) : (0 ≤ (s.rows.el i).deficit ∧ (s.rows.el i).deficit ≤ 50000) ∧ SpanIn (s.rows.el i).rate 0 100000 ∧ SpanIn (s.rows.el i).spall 0 1000 := by
 have := h.row i hi
 simp only [rowB, Bool.and_eq_true, decide_eq_true_iff] at this
 exact ⟨this.1, this.2.1, this.2.2.1⟩
theorem SiteF.heatOk {s : Site} (h : SiteF s) {i : Nat} (hi : i < s.heats.len) : (0 ≤ (s.heats.el i).warmth ∧ (s.heats.el i).warmth ≤ 10000) ∧ SpanIn (s.heats.el i).factor 0 10000 := by
 have := h.heat i hi
 simp only [heatB, Bool.and_eq_true, decide_eq_true_iff] at this
 exact ⟨this.1, this.2.1⟩
def farB (s : Site) (c : Cav) (p q : Span) : Bool := offB (rowN s) s.rows.len (c.rock - p.hi) (c.rock - p.lo) || offB (heatN s) s.heats.len q.lo q.hi
abbrev rowLo (s : Site) (c : Cav) (p : Span) : Nat := lastIx (rowN s) (c.rock - p.hi) s.rows.len
abbrev rowHi (s : Site) (c : Cav) (p : Span) : Nat := firstIx (rowN s) (c.rock - p.lo) s.rows.len 0
abbrev heatLo (s : Site) (q : Span) : Nat := lastIx (heatN s) q.lo s.heats.len
abbrev heatHi (s : Site) (q : Span) : Nat := firstIx (heatN s) q.hi s.heats.len 0
def rateOf (s : Site) (c : Cav) (p : Span) : Span := ⟨(s.rows.el (rowLo s c p)).rate.lo, (s.rows.el (rowHi s c p)).rate.hi⟩
def fallOf (s : Site) (c : Cav) (p : Span) : Span := ⟨(s.rows.el (rowLo s c p)).spall.lo, (s.rows.el (rowHi s c p)).spall.hi⟩
def factorOf (s : Site) (q : Span) : Span := ⟨(s.heats.el (heatLo s q)).factor.lo, (s.heats.el (heatHi s q)).factor.hi⟩
theorem near {num : Nat → Int} {n : Nat} {lo hi : Int} (hn : 0 < n) (h : offB num n lo hi = false) : lastIx num lo n < n ∧ firstIx num hi n 0 < n := by
 unfold offB at h
 rw [Bool.or_eq_false_iff, decide_eq_false_iff_not, decide_eq_false_iff_not] at h
 refine ⟨(lastIx_ok hn (by omega)).1, ?_⟩
 have := (@firstIx_ok num hi n 0 hn (by rw [Nat.zero_add]; omega)).2.1
 omega
theorem far_split {s : Site} {c : Cav} {p q : Span} (h : farB s c p q = false) : offB (rowN s) s.rows.len (c.rock - p.hi) (c.rock - p.lo) = false ∧ offB (heatN s) s.heats.len q.lo q.hi = false := by
 unfold farB at h
 rwa [Bool.or_eq_false_iff] at h
abbrev eSix (s : Site) (c : Cav) (p q : Span) : List V := [.int .i64 (rateOf s c p).lo, .int .i64 (rateOf s c p).hi, .int .i64 (fallOf s c p).lo, .int .i64 (fallOf s c p).hi, .int .i64 (factorOf s q).lo, .int .i64 (factorOf s q).hi]
theorem s112 (s : Site) (c : Cav) (p q : Span) (hS : SiteF s) (hc : CavOk c) (hp : SpanIn p 0 50000) (hF : 8 < F) :
  (farB s c p q = false → (E F (d + 5)).pf 93 [pSite s, .agg (eCav c), .agg (eSpan p), .agg (eSpan q)] = some (.ret (.agg (eSix s c p q)))) ∧
  (farB s c p q = true → ∃ n, (E F (d + 5)).pf 93 [pSite s, .agg (eCav c), .agg (eSpan p), .agg (eSpan q)] = some (.pan (.iface 127 (.agg [.int .i64 n])))) := by
 have hr := hc.2.2.2.1
 have w1 : IntKind.i64.wrap (c.rock - p.hi) = c.rock - p.hi := wr (by omega)
 have w2 : IntKind.i64.wrap (c.rock - p.lo) = c.rock - p.lo := wr (by omega)
 have e1 := s1161 F d s (c.rock - p.hi) (c.rock - p.lo) hS.incRow hS.rows1 hS.rows8 hF
 have e2 := s1162 F d s q.lo q.hi hS.incHeat hS.heats1 hS.heats8 hF
 rw [E_pf, t112]
 constructor
 ·intro hf
  obtain ⟨f1, f2⟩ := far_split hf
  obtain ⟨n1, n2⟩ := near hS.rows1 f1
  obtain ⟨n3, n4⟩ := near hS.heats1 f2
  rw [f1, cond_false] at e1
  rw [f2, cond_false] at e2
  simp only [w1, w2, e1, e2, tkOut_ret, tkTup_t, tkCons_c, tkInt_i, tkNil_n, Int.natCast_nonneg, Int.ofNat_lt, n1, n2, n3, n4, decide_true, cond_true, Int.toNat_natCast]
  rfl
 ·intro hf
  unfold farB at hf
  cases f1 : offB (rowN s) s.rows.len (c.rock - p.hi) (c.rock - p.lo) with
  | true =>
   rw [f1, cond_true] at e1
   simp only [w1, w2, e1, tkOut_pan, tkIfc_i]
   exact ⟨_, rfl⟩
  | false =>
   rw [f1, Bool.false_or] at hf
   rw [f1, cond_false] at e1
   rw [hf, cond_true] at e2
   simp only [w1, w2, e1, e2, tkOut_ret, tkOut_pan, tkTup_t, tkCons_c, tkInt_i, tkNil_n, tkIfc_i]
   exact ⟨_, rfl⟩
def minI (a b : Int) : Int := if a < b then a else b
def shrink (v r f k : Int) : Int := minI ((v * r * f + k) / 1000000000) v
theorem prod3 {v r f : Int} (hv : 0 ≤ v ∧ v ≤ 10000000) (hr : 0 ≤ r ∧ r ≤ 100000) (hf : 0 ≤ f ∧ f ≤ 10000) : (0 ≤ v * r ∧ v * r ≤ 1000000000000) ∧ 0 ≤ v * r * f ∧ v * r * f ≤ 10000000000000000 := by
 have h1 := mulB hv hr
 have h2 := mulB (show 0 ≤ v * r ∧ v * r ≤ 1000000000000 by omega) hf
 omega
theorem s113 (v r f k : Int) (hv : 0 ≤ v ∧ v ≤ 10000000) (hr : 0 ≤ r ∧ r ≤ 100000) (hf : 0 ≤ f ∧ f ≤ 10000) (hk : 0 ≤ k ∧ k ≤ 999999999) :
  (E F (d + 1)).pf 94 [.int .i64 v, .int .i64 r, .int .i64 f, .int .i64 k] = some (.ret (.int .i64 (shrink v r f k))) := by
 obtain ⟨h1, h2⟩ := prod3 hv hr hf
 rw [E_pf, t113, wr (show _ ∧ v * r ≤ _ by omega), wr (show _ ∧ v * r * f ≤ _ by omega), wr (show _ ∧ v * r * f + k ≤ _ by omega), Int.tdiv_eq_ediv_of_nonneg (by omega), wr (show _ ∧ (v * r * f + k) / 1000000000 ≤ _ by omega)]
 rfl
theorem shrink_ok {v r f k : Int} (hv : 0 ≤ v ∧ v ≤ 10000000) (hr : 0 ≤ r ∧ r ≤ 100000) (hf : 0 ≤ f ∧ f ≤ 10000) (hk : 0 ≤ k ∧ k ≤ 999999999) : 0 ≤ shrink v r f k ∧ shrink v r f k ≤ v := by
 obtain ⟨h1, h2⟩ := prod3 hv hr hf
 unfold shrink minI
 split <;> omega
def move1 (s : Site) (c : Cav) (x : Stt) (p q : Span) : Stt where
 rad := ⟨minI (x.rad.lo + (fallOf s c p).lo) 400000, minI (x.rad.hi + (fallOf s c p).hi) 400000⟩
 vol := ⟨x.vol.lo - shrink x.vol.lo (rateOf s c p).hi (factorOf s q).hi 999999999, x.vol.hi - shrink x.vol.hi (rateOf s c p).lo (factorOf s q).lo 0⟩
 lost := ⟨minI (x.lost.lo + shrink x.vol.lo (rateOf s c p).lo (factorOf s q).lo 0) 1000000000, minI (x.lost.hi + shrink x.vol.hi (rateOf s c p).hi (factorOf s q).hi 999999999) 1000000000⟩
theorem rates_ok {s : Site} (hS : SiteF s) {c : Cav} {p q : Span} (hf : farB s c p q = false) : (0 ≤ (rateOf s c p).lo ∧ (rateOf s c p).lo ≤ 100000) ∧ (0 ≤ (rateOf s c p).hi ∧ (rateOf s c p).hi ≤ 100000) ∧
  (0 ≤ (fallOf s c p).lo ∧ (fallOf s c p).lo ≤ 1000) ∧ (0 ≤ (fallOf s c p).hi ∧ (fallOf s c p).hi ≤ 1000) ∧ (0 ≤ (factorOf s q).lo ∧ (factorOf s q).lo ≤ 10000) ∧ (0 ≤ (factorOf s q).hi ∧ (factorOf s q).hi ≤ 10000) := by
 obtain ⟨f1, f2⟩ := far_split hf
 obtain ⟨n1, n2⟩ := near hS.rows1 f1
 obtain ⟨n3, n4⟩ := near hS.heats1 f2
 have r1 := hS.rowOk (show rowLo s c p < s.rows.len from n1)
 have r2 := hS.rowOk (show rowHi s c p < s.rows.len from n2)
 have r3 := hS.heatOk (show heatLo s q < s.heats.len from n3)
 have r4 := hS.heatOk (show heatHi s q < s.heats.len from n4)
 refine ⟨?_, ?_, ?_, ?_, ?_, ?_⟩
 ·show 0 ≤ (s.rows.el (rowLo s c p)).rate.lo ∧ (s.rows.el (rowLo s c p)).rate.lo ≤ 100000; omega
 ·show 0 ≤ (s.rows.el (rowHi s c p)).rate.hi ∧ (s.rows.el (rowHi s c p)).rate.hi ≤ 100000; omega
 ·show 0 ≤ (s.rows.el (rowLo s c p)).spall.lo ∧ (s.rows.el (rowLo s c p)).spall.lo ≤ 1000; omega
 ·show 0 ≤ (s.rows.el (rowHi s c p)).spall.hi ∧ (s.rows.el (rowHi s c p)).spall.hi ≤ 1000; omega
 ·show 0 ≤ (s.heats.el (heatLo s q)).factor.lo ∧ (s.heats.el (heatLo s q)).factor.lo ≤ 10000; omega
 ·show 0 ≤ (s.heats.el (heatHi s q)).factor.hi ∧ (s.heats.el (heatHi s q)).factor.hi ≤ 10000; omega
theorem s91 (s : Site) (i : Nat) (x : Stt) (p q : Span) (hS : SiteF s) (hi : i < s.cavs.len) (hx : SttOk x) (hp : SpanIn p 0 50000) (hF : 8 < F) :
  (farB s (s.cavs.el i) p q = false → (E F (d + 6)).pf 67 [pSite s, .int .i64 (i : Int), .agg (eStt x), .agg (eSpan p), .agg (eSpan q)] = some (.ret (.agg (eStt (move1 s (s.cavs.el i) x p q))))) ∧
  (farB s (s.cavs.el i) p q = true → ∃ n, (E F (d + 6)).pf 67 [pSite s, .int .i64 (i : Int), .agg (eStt x), .agg (eSpan p), .agg (eSpan q)] = some (.pan (.iface 127 (.agg [.int .i64 n])))) := by
 obtain ⟨g1, g2⟩ := s112 F d s (s.cavs.el i) p q hS (hS.cav i hi) hp hF
 rw [E_pf, t91]
 constructor
 ·intro hf
  obtain ⟨k1, k2, k3, k4, k5, k6⟩ := rates_ok hS hf
  have a1 := @shrink_ok x.vol.lo (rateOf s (s.cavs.el i) p).hi (factorOf s q).hi 999999999 (by omega) k2 k6 (by omega)
  have a2 := @shrink_ok x.vol.hi (rateOf s (s.cavs.el i) p).lo (factorOf s q).lo 0 (by omega) k1 k5 (by omega)
  have a3 := @shrink_ok x.vol.lo (rateOf s (s.cavs.el i) p).lo (factorOf s q).lo 0 (by omega) k1 k5 (by omega)
  have a4 := @shrink_ok x.vol.hi (rateOf s (s.cavs.el i) p).hi (factorOf s q).hi 999999999 (by omega) k2 k6 (by omega)
  simp only [Int.natCast_nonneg, Int.ofNat_lt, hi, decide_true, cond_true, Int.toNat_natCast, g1 hf, tkOut_ret, tkAgg_a, tkCons_c, tkInt_i, tkNil_n,
   s113 F (d + 4) x.vol.lo (rateOf s (s.cavs.el i) p).hi (factorOf s q).hi 999999999 (by omega) k2 k6 (by omega),
   s113 F (d + 4) x.vol.hi (rateOf s (s.cavs.el i) p).lo (factorOf s q).lo 0 (by omega) k1 k5 (by omega),
   s113 F (d + 4) x.vol.lo (rateOf s (s.cavs.el i) p).lo (factorOf s q).lo 0 (by omega) k1 k5 (by omega),
   s113 F (d + 4) x.vol.hi (rateOf s (s.cavs.el i) p).hi (factorOf s q).hi 999999999 (by omega) k2 k6 (by omega),
   wr (show _ ∧ x.rad.lo + (fallOf s (s.cavs.el i) p).lo ≤ _ by omega), wr (show _ ∧ x.rad.hi + (fallOf s (s.cavs.el i) p).hi ≤ _ by omega),
   wr (show _ ∧ x.vol.lo - shrink x.vol.lo (rateOf s (s.cavs.el i) p).hi (factorOf s q).hi 999999999 ≤ _ by omega), wr (show _ ∧ x.vol.hi - shrink x.vol.hi (rateOf s (s.cavs.el i) p).lo (factorOf s q).lo 0 ≤ _ by omega),
   wr (show _ ∧ x.lost.lo + shrink x.vol.lo (rateOf s (s.cavs.el i) p).lo (factorOf s q).lo 0 ≤ _ by omega), wr (show _ ∧ x.lost.hi + shrink x.vol.hi (rateOf s (s.cavs.el i) p).hi (factorOf s q).hi 999999999 ≤ _ by omega)]
  rfl
 ·intro hf
  obtain ⟨n, e⟩ := g2 hf
  simp only [Int.natCast_nonneg, Int.ofNat_lt, hi, decide_true, cond_true, Int.toNat_natCast, e, tkOut_pan, tkIfc_i]
  exact ⟨n, rfl⟩
end Go.Sim.Cr


namespace Go.Sim.Cr
open Go.Proofs
variable (F d : Nat)
theorem not_off {num : Nat → Int} {n : Nat} {lo hi : Int} (h : offB num n lo hi = false) : num 0 ≤ lo ∧ hi ≤ num (n - 1) := by
 unfold offB at h
 rw [Bool.or_eq_false_iff, decide_eq_false_iff_not, decide_eq_false_iff_not] at h
 omega
end Go.Sim.Cr


namespace Go.Sim.Cr
open Go.Proofs
variable (F d : Nat)
def anyF (p : Nat → Bool) : Nat → Nat → Bool
 | 0, _ => false
 | n + 1, i => p i || anyF p n (i + 1)
theorem anyF_eq (p : Nat → Bool) : ∀ n i, anyF p n i = true ↔ ∃ k, i ≤ k ∧ k < i + n ∧ p k = true := by
 intro n
 induction n with
 | zero => intro i; simp only [anyF]; constructor <;> intro h
           ·cases h
           ·obtain ⟨k, h1, h2, _⟩ := h; omega
 | succ n ih =>
  intro i
  simp only [anyF, Bool.or_eq_true, ih]
  constructor
  ·rintro (h | ⟨k, h1, h2, h3⟩)
   ·exact ⟨i, Nat.le_refl _, by omega, h⟩
   ·exact ⟨k, by omega, by omega, h3⟩
  ·rintro ⟨k, h1, h2, h3⟩
   rcases Nat.eq_or_lt_of_le h1 with rfl | h4
   ·exact .inl h3
   ·exact .inr ⟨k, by omega, by omega, h3⟩
def outL {α : Type} (n : Nat) (T : Nat → α) : Sl α := ⟨false, n, fun i => T (min i (n - 1))⟩
theorem outL_el {α : Type} {n : Nat} {T : Nat → α} {i : Nat} (h : i < n) : (outL n T).el i = T i := by
 show T (min i (n - 1)) = T i
 rw [Nat.min_eq_left (by omega)]
theorem outL_len {α : Type} {n : Nat} {T : Nat → α} : (outL n T).len = n := rfl
abbrev noneRow : V := .row true 0 0 fun _ => []
theorem app_enc {α : Type} (e : α → List V) (T : Nat → α) {i : Nat} (hi : 1 ≤ i) : appGet i (fun j => e (T (min j (i - 1)))) (fun _ => e (T i)) = fun j => e (T (min j i)) := by
 funext j
 unfold appGet
 by_cases h : j < i
 ·rw [if_pos h]; show e (T (min j (i - 1))) = e (T (min j i)); rw [show min j (i - 1) = min j i by omega]
 ·rw [if_neg h]; show e (T i) = e (T (min j i)); rw [show min j i = i by omega]
theorem one_enc {α : Type} (e : α → List V) (T : Nat → α) : (fun _ : Nat => e (T 0)) = fun j => e (T (min j (1 - 1))) := by
 funext j
 show e (T 0) = e (T (min j 0))
 rw [Nat.min_zero]
theorem wr1 : IntKind.i64.wrap ((0 : Int) + 1) = ((1 : Nat) : Int) := by rw [wr (by omega)]; rfl
def mv (s : Site) (l : Sl Stt) (y : Day) (i : Nat) : Stt := move1 s (s.cavs.el i) (l.el i) (y.press.el i) (y.warm.el i)
def farAt (s : Site) (y : Day) (i : Nat) : Bool := farB s (s.cavs.el i) (y.press.el i) (y.warm.el i)
def farDay (s : Site) (y : Day) : Bool := anyF (farAt s y) s.cavs.len 0
abbrev moved (s : Site) (l : Sl Stt) (y : Day) : Sl Stt := outL l.len (mv s l y)
abbrev moveR (s : Site) (l : Sl Stt) (y : Day) : V := bif farDay s y then .tup [noneRow, .bool false] else .tup [sl eStt 6 (moved s l y), .bool true]
theorem l51 (s : Site) (l : Sl Stt) (y : Day) (hS : SiteF s) (hL : StatesOk s l) (hD : DayOk s y) (hF : 8 < F) : ∀ n i fu, l.len = i + n → n < fu → 1 ≤ i →
  L51x1 (E F (d + 6)) F s l y fu (i : Int) i i (fun j => eStt (mv s l y (min j (i - 1)))) = some (.ret (bif anyF (farAt s y) n i then .tup [noneRow, .bool false] else .tup [sl eStt 6 (moved s l y), .bool true])) := by
 have h5 := hS.cavs5
 have hl := hL.1
 have hp := hD.1.1
 have hw := hD.2.1
 intro n
 induction n with
 | zero =>
  intro i fu h hf hi
  obtain ⟨fu, rfl⟩ : ∃ k, fu = k + 1 := ⟨fu - 1, by omega⟩
  have e : l.len = i := by omega
  rw [L51x1s]
  simp only [Int.ofNat_lt, show ¬ i < l.len by omega, decide_false, cond_false, anyF, moved, outL]
  rw [e]
 | succ n ih =>
  intro i fu h hf hi
  obtain ⟨fu, rfl⟩ : ∃ k, fu = k + 1 := ⟨fu - 1, by omega⟩
  rw [L51x1s]
  obtain ⟨g1, g2⟩ := s91 F d s i (l.el i) (y.press.el i) (y.warm.el i) hS (by omega) (hL.2 i (by omega)) (hD.1.2 i (by omega)) hF
  simp only [Int.ofNat_lt, show i < l.len by omega, show i < y.press.len by omega, show i < y.warm.len by omega, decide_true, cond_true, Int.natCast_nonneg, Int.toNat_natCast, anyF]
  cases hf1 : farAt s y i with
  | true =>
   obtain ⟨m, e⟩ := g2 hf1
   simp only [e, tkOut_pan, tkIfc_i, Bool.true_or, cond_true]
   rfl
  | false =>
   simp only [g1 hf1, tkOut_ret, tkAgg_a, tkCons_c, tkInt_i, tkNil_n, show (i + 1) * 48 ≤ 140737488355328 by omega, decide_true, cond_true, wrS (show i < 4611686018427387904 by omega), Bool.false_or]
   exact (congrArg (L51x1 (E F (d + 6)) F s l y fu ((i + 1 : Nat) : Int) (i + 1) (i + 1)) (app_enc eStt (mv s l y) hi)).trans (ih (i + 1) fu (by omega) (by omega) (by omega))
theorem s51 (s : Site) (l : Sl Stt) (y : Day) (hS : SiteF s) (hL : StatesOk s l) (hD : DayOk s y) (hF : 8 < F) :
  (E F (d + 7)).pf 34 [pSite s, sl eStt 6 l, .agg (eDay y)] = some (.ret (moveR s l y)) := by
 have h5 := hS.cavs5
 have h1 := hS.cavs1
 have hl := hL.1
 have hp := hD.1.1
 have hw := hD.2.1
 rw [E_pf, t51]
 obtain ⟨fu, rfl⟩ : ∃ k, F = k + 1 := ⟨F - 1, by omega⟩
 rw [L51x0s]
 obtain ⟨n, hn⟩ : ∃ n, l.len = 1 + n := ⟨l.len - 1, by omega⟩
 obtain ⟨g1, g2⟩ := s91 (fu + 1) d s 0 (l.el 0) (y.press.el 0) (y.warm.el 0) hS (by omega) (hL.2 0 (by omega)) (hD.1.2 0 (by omega)) hF
 have z : ∀ m : Nat, 0 < m → decide ((0 : Int) < (m : Int)) = true := fun m hm => decide_eq_true (by omega)
 simp only [z l.len (by omega), z y.press.len (by omega), z y.warm.len (by omega), cond_true]
 have hc : s.cavs.len = n + 1 := by omega
 unfold moveR farDay
 rw [hc]
 simp only [anyF]
 cases hf1 : farAt s y 0 with
 | true =>
  obtain ⟨m, e⟩ := g2 hf1
  simp only [Int.natCast_zero] at e
  simp only [e, tkOut_pan, tkIfc_i, Bool.true_or, cond_true]
  rfl
 | false =>
  have e := g1 hf1
  simp only [Int.natCast_zero] at e
  simp only [e, tkOut_ret, tkAgg_a, tkCons_c, tkInt_i, tkNil_n, wr1, Bool.false_or]
  exact (congrArg (L51x1 (E (fu + 1) (d + 6)) (fu + 1) s l y fu ((1 : Nat) : Int) 1 1) (one_enc eStt (mv s l y))).trans (l51 (fu + 1) d s l y hS hL hD hF n 1 fu (by omega) (by omega) (by omega))
theorem s14 (s : Site) (l : Sl Stt) (y : Day) (hs : Small s F) (hB : l.len < Big) (hlF : l.len < F) (hB' : y.press.len < Big) (hB2 : y.warm.len < Big) (hF' : y.press.len < F) (hF2 : y.warm.len < F) (hF : 8 < F) :
  (E F (d + 8)).pf 19 [.agg (eSite s), sl eStt 6 l, .agg (eDay y)] = some (.ret (bif siteB s && (decide (StatesOk s l) && decide (DayOk s y)) then (bif farDay s y then .tup [noneRow, .int .i64 7] else .tup [sl eStt 6 (moved s l y), .int .i64 0]) else .tup [noneRow, .int .i64 2])) := by
 rw [E_pf, t14]
 simp only [s48 F (d + 1) s hs, tkOut_ret, tkBool_b, s49 F (d + 1) s l hB hlF, s50 F (d + 1) s y hB' hB2 hF' hF2, Nat.reduceAdd, Nat.add_assoc]
 cases h1 : siteB s
 ·rfl
 ·by_cases h2 : StatesOk s l
  ·by_cases h3 : DayOk s y
   ·simp only [decide_eq_true h2, decide_eq_true h3, Bool.not_true, cond_false, Bool.and_self, cond_true, s51 F d s l y ((siteB_iff s).1 h1) h2 h3 hF, tkOut_ret, moveR]
    cases farDay s y <;> rfl
   ·simp only [decide_eq_true h2, decide_eq_false h3, Bool.not_true, Bool.not_false, cond_false, cond_true, Bool.and_false]
  ·simp only [decide_eq_false h2, Bool.not_true, Bool.not_false, cond_false, cond_true, Bool.and_false, Bool.false_and]
def start (c : Cav) : Stt := ⟨c.rad, c.vol, ⟨0, 0⟩⟩
abbrev begin (s : Site) : Sl Stt := outL s.cavs.len (fun i => start (s.cavs.el i))
theorem l57 (s : Site) (h5 : s.cavs.len ≤ 5) : ∀ n i fu, s.cavs.len = i + n → n < fu → 1 ≤ i →
  L57x1 (E F d) F s fu i (i : Int) i (fun j => eStt (start (s.cavs.el (min j (i - 1))))) = some (.ret (sl eStt 6 (begin s))) := by
 intro n
 induction n with
 | zero =>
  intro i fu h hf hi
  obtain ⟨fu, rfl⟩ : ∃ k, fu = k + 1 := ⟨fu - 1, by omega⟩
  have e : s.cavs.len = i := by omega
  rw [L57x1s]
  simp only [Int.ofNat_lt, show ¬ i < s.cavs.len by omega, decide_false, cond_false, begin, outL]
  rw [e]
 | succ n ih =>
  intro i fu h hf hi
  obtain ⟨fu, rfl⟩ : ∃ k, fu = k + 1 := ⟨fu - 1, by omega⟩
  rw [L57x1s]
  simp only [Int.ofNat_lt, show i < s.cavs.len by omega, decide_true, cond_true, Int.natCast_nonneg, Int.toNat_natCast, show (i + 1) * 48 ≤ 140737488355328 by omega, wrS (show i < 4611686018427387904 by omega)]
  exact (congrArg (L57x1 (E F d) F s fu (i + 1) ((i + 1 : Nat) : Int) (i + 1)) (app_enc eStt (fun i => start (s.cavs.el i)) hi)).trans (ih (i + 1) fu (by omega) (by omega) (by omega))
theorem s57 (s : Site) (h1 : 1 ≤ s.cavs.len) (h5 : s.cavs.len ≤ 5) (hF : 8 < F) : (E F (d + 1)).pf 38 [pSite s] = some (.ret (sl eStt 6 (begin s))) := by
 rw [E_pf, t57]
 obtain ⟨fu, rfl⟩ : ∃ k, F = k + 1 := ⟨F - 1, by omega⟩
 rw [L57x0s]
 have z : ∀ m : Nat, 0 < m → decide ((0 : Int) < (m : Int)) = true := fun m hm => decide_eq_true (by omega)
 simp only [z s.cavs.len (by omega), cond_true, wr1]
 exact (congrArg (L57x1 (E (fu + 1) d) (fu + 1) s fu 1 ((1 : Nat) : Int) 1) (one_enc eStt (fun i => start (s.cavs.el i)))).trans (l57 (fu + 1) d s h5 (s.cavs.len - 1) 1 fu (by omega) (by omega) (by omega))
theorem s24 (s : Site) (hs : Small s F) (hF : 8 < F) : (E F (d + 7)).pf 17 [.agg (eSite s)] = some (.ret (bif siteB s then .tup [sl eStt 6 (begin s), .int .i64 0] else .tup [noneRow, .int .i64 2])) := by
 rw [E_pf, t24]
 simp only [s48 F d s hs, tkOut_ret, tkBool_b]
 cases h1 : siteB s
 ·rfl
 ·have hS := (siteB_iff s).1 h1
  simp only [s57 F (d + 5) s hS.cavs1 hS.cavs5 hF, tkOut_ret, tkRow_r]
  rfl
end Go.Sim.Cr


namespace Go.Sim.Cr
open Go.Proofs
variable (F d : Nat)
end Go.Sim.Cr


namespace Go.Sim.Cr
open Go.Proofs
variable (F d : Nat)
section
variable {α : Type} (e : α → List V) (z : α)
def gl (ms : List α) : Nat → List V := fun j => e (ms.getD j (ms.getLastD z))
abbrev rowL (wd : Nat) (ms : List α) : V := .row ms.isEmpty ms.length (bif ms.isEmpty then 0 else wd) (bif ms.isEmpty then (fun _ => []) else gl e z ms)
theorem rowL_ne {wd : Nat} {ms : List α} {n : Nat} (hn : ms.length = n) (h : 1 ≤ n) : rowL e z wd ms = .row false n wd (gl e z ms) := by
 subst hn
 cases ms with
 | nil => simp at h
 | cons m ms => rfl
variable {e z}
theorem gl_one {l : List V} {m : α} (hl : l = e m) : (fun _ : Nat => l) = gl e z [m] := by
 subst hl
 funext j
 unfold gl
 cases j <;> rfl
theorem gl_snoc {l : List V} {m : α} {ms : List α} {k : Nat} (hk : ms.length = k) (hl : l = e m) : appGet k (gl e z ms) (fun _ => l) = gl e z (ms ++ [m]) := by
 subst hl hk
 funext j
 unfold appGet gl
 rw [List.getLastD_concat, List.getD_eq_getElem?_getD, List.getD_eq_getElem?_getD]
 by_cases h : j < ms.length
 ·rw [if_pos h, List.getElem?_append_left h, List.getElem?_eq_getElem h]; rfl
 ·rw [if_neg h, List.getElem?_append_right (by omega)]
  rcases Nat.eq_zero_or_pos (j - ms.length) with h0 | h0
  ·rw [h0]; rfl
  ·rw [List.getElem?_eq_none (by simp; omega)]; rfl
end
abbrev zMark : Mark := ⟨0, 0, false, false⟩
abbrev rowM (ms : List Mark) : V := rowL eMark zMark 4 ms
def ixM (is : Mark → Bool) (ms : List Mark) : Int := ixF (fun j => is (ms.getD j (ms.getLastD zMark))) ms.length 0
theorem ixF_find (is : Mark → Bool) (ms : List Mark) (z : Mark) : ∀ n i, ms.length = i + n → ((ms.drop i).find? is = none ∧ ixF (fun j => is (ms.getD j z)) n i = -1) ∨
  ∃ (j : Nat) (m : Mark), (ms.drop i).find? is = some m ∧ ixF (fun j => is (ms.getD j z)) n i = (j : Int) ∧ j < ms.length ∧ ms.getD j z = m := by
 intro n
 induction n with
 | zero => intro i h; left; rw [List.drop_of_length_le (by omega)]; exact ⟨rfl, rfl⟩
 | succ n ih =>
  intro i h
  rw [List.drop_eq_getElem_cons (show i < ms.length by omega)]
  have hg : ms.getD i z = ms[i] := by rw [List.getD_eq_getElem?_getD, List.getElem?_eq_getElem (by omega)]; rfl
  simp only [ixF, hg, List.find?_cons]
  cases hi : is ms[i] with
  | true => right; exact ⟨i, ms[i], rfl, by rw [cond_true], by omega, hg⟩
  | false =>
   rcases ih (i + 1) (by omega) with ⟨h1, h2⟩ | ⟨j, m, h1, h2, h3, h4⟩
   ·left; exact ⟨h1, by rw [cond_false]; exact h2⟩
   ·right; exact ⟨j, m, h1, by rw [cond_false]; exact h2, h3, h4⟩
theorem ixM_find (is : Mark → Bool) (ms : List Mark) : (ms.find? is = none ∧ ixM is ms = -1) ∨
  ∃ (j : Nat) (m : Mark), ms.find? is = some m ∧ ixM is ms = (j : Int) ∧ j < ms.length ∧ ms.getD j (ms.getLastD zMark) = m :=
 ixF_find is ms (ms.getLastD zMark) ms.length 0 (by omega)
theorem s66 (m : Mark) : (E F (d + 1)).pf 48 [.agg (eMark m)] = some (.ret (.bool m.possible)) := by rw [E_pf, t66]
theorem s67 (m : Mark) : (E F (d + 1)).pf 49 [.agg (eMark m)] = some (.ret (.bool m.certain)) := by rw [E_pf, t67]
theorem l1021 (l : Sl Mark) (hB : l.len < Big) : ∀ n i fu, l.len = i + n → n < fu → L1021x0 (E F (d + 1)) F l fu (i : Int) = some (.ret (.int .i64 (ixF (fun j => (l.el j).possible) n i))) := by
 intro n
 induction n with
 | zero =>
  intro i fu h hf
  obtain ⟨fu, rfl⟩ : ∃ k, fu = k + 1 := ⟨fu - 1, by omega⟩
  rw [L1021x0s]
  simp only [Int.ofNat_lt, show ¬ i < l.len by omega, decide_false, cond_false, ixF]
 | succ n ih =>
  intro i fu h hf
  obtain ⟨fu, rfl⟩ : ∃ k, fu = k + 1 := ⟨fu - 1, by omega⟩
  rw [L1021x0s]
  simp only [Int.ofNat_lt, show i < l.len by omega, decide_true, cond_true, Int.natCast_nonneg, Int.toNat_natCast, s66, tkOut_ret, tkBool_b, ixF, wrS (show i < Big by omega), ih (i + 1) fu (by omega) (by omega)]
  cases (l.el i).possible <;> rfl
theorem l1022 (l : Sl Mark) (hB : l.len < Big) : ∀ n i fu, l.len = i + n → n < fu → L1022x0 (E F (d + 1)) F l fu (i : Int) = some (.ret (.int .i64 (ixF (fun j => (l.el j).certain) n i))) := by
 intro n
 induction n with
 | zero =>
  intro i fu h hf
  obtain ⟨fu, rfl⟩ : ∃ k, fu = k + 1 := ⟨fu - 1, by omega⟩
  rw [L1022x0s]
  simp only [Int.ofNat_lt, show ¬ i < l.len by omega, decide_false, cond_false, ixF]
 | succ n ih =>
  intro i fu h hf
  obtain ⟨fu, rfl⟩ : ∃ k, fu = k + 1 := ⟨fu - 1, by omega⟩
  rw [L1022x0s]
  simp only [Int.ofNat_lt, show i < l.len by omega, decide_true, cond_true, Int.natCast_nonneg, Int.toNat_natCast, s67, tkOut_ret, tkBool_b, ixF, wrS (show i < Big by omega), ih (i + 1) fu (by omega) (by omega)]
  cases (l.el i).certain <;> rfl
theorem s102a (ms : List Mark) (hB : ms.length < Big) (hF : ms.length < F) : (E F (d + 2)).pf 74 [rowM ms, .fn (.func 48) [] []] = some (.ret (.int .i64 (ixM Mark.possible ms))) := by
 rw [E_pf]
 cases ms with
 | nil =>
  refine (t1023 (E F (d + 1)) F).trans ?_
  obtain ⟨fu, rfl⟩ : ∃ k, F = k + 1 := ⟨F - 1, by simp at hF; omega⟩
  rw [L1023x0s]; rfl
 | cons m ms =>
  refine (t1021 (E F (d + 1)) F ⟨false, (m :: ms).length, fun j => (m :: ms).getD j ((m :: ms).getLastD zMark)⟩).trans ?_
  exact l1021 F d ⟨false, (m :: ms).length, fun j => (m :: ms).getD j ((m :: ms).getLastD zMark)⟩ hB (m :: ms).length 0 F (by simp) hF
theorem s102b (ms : List Mark) (hB : ms.length < Big) (hF : ms.length < F) : (E F (d + 2)).pf 74 [rowM ms, .fn (.func 49) [] []] = some (.ret (.int .i64 (ixM Mark.certain ms))) := by
 rw [E_pf]
 cases ms with
 | nil =>
  refine (t1024 (E F (d + 1)) F).trans ?_
  obtain ⟨fu, rfl⟩ : ∃ k, F = k + 1 := ⟨F - 1, by simp at hF; omega⟩
  rw [L1024x0s]; rfl
 | cons m ms =>
  refine (t1022 (E F (d + 1)) F ⟨false, (m :: ms).length, fun j => (m :: ms).getD j ((m :: ms).getLastD zMark)⟩).trans ?_
  exact l1022 F d ⟨false, (m :: ms).length, fun j => (m :: ms).getD j ((m :: ms).getLastD zMark)⟩ hB (m :: ms).length 0 F (by simp) hF
abbrev pTod (s : Site) (y : Day) (B C : V) : V := .rptr 1 5 (fun _ => [pSite s, sl eSpan 2 y.press, sl eSpan 2 y.warm, B, C]) 0 0
theorem zlt {m : Nat} (hm : 0 < m) : decide ((0 : Int) < (m : Int)) = true := decide_eq_true (by omega)
def gateM (s : Site) (y : Day) (i : Nat) : Mark :=
 ⟨i, 0, decide ((y.press.el i).lo < (s.cavs.el i).gate.lo) || decide ((y.press.el i).hi > (s.cavs.el i).gate.hi), decide ((y.press.el i).hi < (s.cavs.el i).gate.lo) || decide ((y.press.el i).lo > (s.cavs.el i).gate.hi)⟩
theorem l97 (s : Site) (y : Day) (B C : V) (h5 : s.cavs.len ≤ 5) (hp : y.press.len = s.cavs.len) : ∀ n i fu (acc : List Mark), s.cavs.len = i + n → n < fu → acc.length = i → 1 ≤ i →
  L97x1 (E F d) F s y B C fu i (i : Int) i (gl eMark zMark acc) = some (.ret (rowM (acc ++ (List.range' i n).map (gateM s y)))) := by
 intro n
 induction n with
 | zero =>
  intro i fu acc h hf ha hi
  obtain ⟨fu, rfl⟩ : ∃ k, fu = k + 1 := ⟨fu - 1, by omega⟩
  rw [L97x1s]
  simp only [Int.ofNat_lt, show ¬ i < s.cavs.len by omega, decide_false, cond_false, List.range'_zero, List.map_nil, List.append_nil]
  rw [rowM, rowL_ne eMark zMark ha hi]
 | succ n ih =>
  intro i fu acc h hf ha hi
  obtain ⟨fu, rfl⟩ : ∃ k, fu = k + 1 := ⟨fu - 1, by omega⟩
  rw [L97x1s]
  simp only [Int.ofNat_lt, show i < s.cavs.len by omega, show i < y.press.len by omega, decide_true, cond_true, Int.natCast_nonneg, Int.toNat_natCast, show (i + 1) * 24 ≤ 140737488355328 by omega, wrS (show i < 4611686018427387904 by omega)]
  rw [List.range'_succ, List.map_cons, List.append_cons]
  cases h1 : decide ((y.press.el i).lo < (s.cavs.el i).gate.lo) <;> cases h2 : decide ((y.press.el i).hi < (s.cavs.el i).gate.lo) <;> simp only [cond_true, cond_false] <;>
   exact (congrArg (L97x1 (E F d) F s y B C fu (i + 1) ((i + 1 : Nat) : Int) (i + 1)) (gl_snoc ha (by simp [gateM, h1, h2]))).trans (ih (i + 1) fu _ (by omega) (by omega) (by simp [ha]) (by omega))
theorem wrLen {n : Nat} (h1 : 1 ≤ n) (h2 : n < 4611686018427387904) : IntKind.i64.wrap ((n : Int) - 1) = ((n - 1 : Nat) : Int) := by rw [wr (by omega)]; omega
theorem fin96 (T : Nat → Mark) (n : Nat) : [T 0] ++ (List.range' 1 n).map T = (List.range' 0 (n + 1)).map T := by
 rw [List.range'_succ, List.map_cons]; rfl
theorem s97 (s : Site) (y : Day) (B C : V) (h1 : 1 ≤ s.cavs.len) (h5 : s.cavs.len ≤ 5) (hp : y.press.len = s.cavs.len) (hF : 8 < F) :
  (E F (d + 1)).pf 69 [pTod s y B C] = some (.ret (rowM ((List.range' 0 s.cavs.len).map (gateM s y)))) := by
 obtain ⟨n, hn⟩ : ∃ n, s.cavs.len = n + 1 := ⟨s.cavs.len - 1, by omega⟩
 obtain ⟨fu, rfl⟩ : ∃ k, F = k + 1 := ⟨F - 1, by omega⟩
 rw [E_pf, t97, L97x0s]
 simp only [zlt (show 0 < s.cavs.len by omega), zlt (show 0 < y.press.len by omega), cond_true, wr1]
 rw [hn, ← fin96]
 cases h1 : decide ((y.press.el 0).lo < (s.cavs.el 0).gate.lo) <;> cases h2 : decide ((y.press.el 0).hi < (s.cavs.el 0).gate.lo) <;> simp only [cond_true, cond_false] <;>
  exact (congrArg (L97x1 (E (fu + 1) d) (fu + 1) s y B C fu 1 ((1 : Nat) : Int) 1) (gl_one (by simp [gateM, h1, h2]))).trans (l97 (fu + 1) d s y B C h5 hp n 1 fu [gateM s y 0] (by omega) (by omega) rfl (by omega))
def outB (s : Site) (c : Cav) (p q : Span) : Bool := decide (p.hi > c.rock) || (decide (c.rock - p.lo > rowN s (s.rows.len - 1)) || (decide (q.lo < heatN s 0) || decide (q.hi > heatN s (s.heats.len - 1))))
theorem outB_far {s : Site} (hS : SiteF s) (c : Cav) (p q : Span) : outB s c p q = farB s c p q := by
 have h0 : rowN s 0 = 0 := by
  have := hS.row 0 (by have := hS.rows1; omega)
  simp only [rowB, rowStep, Bool.and_eq_true, decide_eq_true_iff] at this
  exact this.2.2.2
 unfold outB farB offB
 rw [h0]
 apply b2
 simp only [Bool.or_eq_true, decide_eq_true_iff]
 omega
def outM (s : Site) (y : Day) (i : Nat) : Mark := ⟨i, 0, farAt s y i, false⟩
theorem outM_eq {s : Site} (hS : SiteF s) (y : Day) (i : Nat) : outM s y i = ⟨i, 0, outB s (s.cavs.el i) (y.press.el i) (y.warm.el i), false⟩ := by
 rw [outB_far hS]; rfl
theorem l96 (s : Site) (y : Day) (B C : V) (hS : SiteF s) (hp : y.press.len = s.cavs.len) (hw : y.warm.len = s.cavs.len) (hD : DayOk s y) : ∀ n i fu (acc : List Mark), s.cavs.len = i + n → n < fu → acc.length = i → 1 ≤ i →
  L96x1 (E F d) F s y B C fu i (i : Int) i (gl eMark zMark acc) = some (.ret (rowM (acc ++ (List.range' i n).map (outM s y)))) := by
 have h5 := hS.cavs5
 have r1 := hS.rows1
 have r8 := hS.rows8
 have t1 := hS.heats1
 have t8 := hS.heats8
 intro n
 induction n with
 | zero =>
  intro i fu acc h hf ha hi
  obtain ⟨fu, rfl⟩ : ∃ k, fu = k + 1 := ⟨fu - 1, by omega⟩
  rw [L96x1s]
  simp only [Int.ofNat_lt, show ¬ i < s.cavs.len by omega, decide_false, cond_false, List.range'_zero, List.map_nil, List.append_nil]
  rw [rowM, rowL_ne eMark zMark ha hi]
 | succ n ih =>
  intro i fu acc h hf ha hi
  obtain ⟨fu, rfl⟩ : ∃ k, fu = k + 1 := ⟨fu - 1, by omega⟩
  rw [L96x1s]
  have hr := (hS.cav i (by omega)).2.2.2.1
  have hq := hD.1.2 i (by omega)
  simp only [Int.ofNat_lt, show i < s.cavs.len by omega, show i < y.press.len by omega, show i < y.warm.len by omega, decide_true, cond_true, Int.natCast_nonneg, Int.toNat_natCast, show (i + 1) * 24 ≤ 140737488355328 by omega, wrS (show i < 4611686018427387904 by omega),
   wr (show _ ∧ (s.cavs.el i).rock - (y.press.el i).lo ≤ _ by omega), wrLen r1 (show s.rows.len < 4611686018427387904 by omega), wrLen t1 (show s.heats.len < 4611686018427387904 by omega),
   show s.rows.len - 1 < s.rows.len by omega, show s.heats.len - 1 < s.heats.len by omega, zlt (show 0 < s.heats.len by omega)]
  rw [List.range'_succ, List.map_cons, List.append_cons]
  have key : ∀ b, b = outB s (s.cavs.el i) (y.press.el i) (y.warm.el i) → L96x1 (E F d) F s y B C fu (i + 1) ((i + 1 : Nat) : Int) (i + 1) (appGet i (gl eMark zMark acc) fun _ => [.int .i64 (i : Int), .int .i64 0, .bool b, .bool false]) = some (.ret (rowM (acc ++ [outM s y i] ++ (List.range' (i + 1) n).map (outM s y)))) := fun b hb =>
   (congrArg (L96x1 (E F d) F s y B C fu (i + 1) ((i + 1 : Nat) : Int) (i + 1)) (gl_snoc (m := outM s y i) ha (by rw [outM_eq hS, hb]))).trans (ih (i + 1) fu _ (by omega) (by omega) (by simp [ha]) (by omega))
  cases h1 : decide ((y.press.el i).hi > (s.cavs.el i).rock) with
  | true => simp only [cond_true]; exact key true (by unfold outB; rw [h1]; rfl)
  | false =>
   simp only [cond_false]
   cases h2 : decide ((s.cavs.el i).rock - (y.press.el i).lo > (s.rows.el (s.rows.len - 1)).deficit) with
   | true => simp only [cond_true]; exact key true (by unfold outB rowN; rw [h1, h2]; rfl)
   | false =>
    simp only [cond_false]
    cases h3 : decide ((y.warm.el i).lo < (s.heats.el 0).warmth) with
    | true => simp only [cond_true]; exact key true (by unfold outB rowN heatN; rw [h1, h2, h3]; rfl)
    | false => simp only [cond_false]; exact key _ (by unfold outB rowN heatN; rw [h1, h2, h3]; rfl)
theorem s96 (s : Site) (y : Day) (B C : V) (hS : SiteF s) (hD : DayOk s y) (hF : 8 < F) :
  (E F (d + 1)).pf 68 [pTod s y B C] = some (.ret (rowM ((List.range' 0 s.cavs.len).map (outM s y)))) := by
 have h1 := hS.cavs1
 have h5 := hS.cavs5
 have r1 := hS.rows1
 have r8 := hS.rows8
 have t1 := hS.heats1
 have t8 := hS.heats8
 have hp := hD.1.1
 have hw := hD.2.1
 obtain ⟨n, hn⟩ : ∃ n, s.cavs.len = n + 1 := ⟨s.cavs.len - 1, by omega⟩
 obtain ⟨fu, rfl⟩ : ∃ k, F = k + 1 := ⟨F - 1, by omega⟩
 have hr := (hS.cav 0 (by omega)).2.2.2.1
 have hq := hD.1.2 0 (by omega)
 rw [E_pf, t96, L96x0s]
 simp only [zlt (show 0 < s.cavs.len by omega), zlt (show 0 < y.press.len by omega), zlt (show 0 < y.warm.len by omega), cond_true, wr1, Int.ofNat_lt, decide_true, Int.natCast_nonneg, Int.toNat_natCast,
  wr (show _ ∧ (s.cavs.el 0).rock - (y.press.el 0).lo ≤ _ by omega), wrLen r1 (show s.rows.len < 4611686018427387904 by omega), wrLen t1 (show s.heats.len < 4611686018427387904 by omega),
  show s.rows.len - 1 < s.rows.len by omega, show s.heats.len - 1 < s.heats.len by omega, zlt (show 0 < s.heats.len by omega)]
 rw [hn, ← fin96]
 have key : ∀ b, b = outB s (s.cavs.el 0) (y.press.el 0) (y.warm.el 0) → L96x1 (E (fu + 1) d) (fu + 1) s y B C fu 1 ((1 : Nat) : Int) 1 (fun _ => [.int .i64 0, .int .i64 0, .bool b, .bool false]) = some (.ret (rowM ([outM s y 0] ++ (List.range' 1 n).map (outM s y)))) := fun b hb =>
  (congrArg (L96x1 (E (fu + 1) d) (fu + 1) s y B C fu 1 ((1 : Nat) : Int) 1) (gl_one (m := outM s y 0) (by rw [outM_eq hS, hb]; rfl))).trans (l96 (fu + 1) d s y B C hS hp hw hD n 1 fu [outM s y 0] (by omega) (by omega) rfl (by omega))
 cases h1 : decide ((y.press.el 0).hi > (s.cavs.el 0).rock) with
 | true => simp only [cond_true]; exact key true (by unfold outB; rw [h1]; rfl)
 | false =>
  simp only [cond_false]
  cases h2 : decide ((s.cavs.el 0).rock - (y.press.el 0).lo > (s.rows.el (s.rows.len - 1)).deficit) with
  | true => simp only [cond_true]; exact key true (by unfold outB rowN; rw [h1, h2]; rfl)
  | false =>
   simp only [cond_false]
   cases h3 : decide ((y.warm.el 0).lo < (s.heats.el 0).warmth) with
   | true => simp only [cond_true]; exact key true (by unfold outB rowN heatN; rw [h1, h2, h3]; rfl)
   | false => simp only [cond_false]; exact key _ (by unfold outB rowN heatN; rw [h1, h2, h3]; rfl)
def maxI (a b : Int) : Int := if a < b then b else a
def fastM (s : Site) (y : Day) (b : Sl Span) (i : Nat) : Mark :=
 ⟨i, 0, decide (maxI ((y.press.el i).hi - (b.el i).lo) ((b.el i).hi - (y.press.el i).lo) > (s.cavs.el i).change), decide (maxI ((y.press.el i).lo - (b.el i).hi) ((b.el i).lo - (y.press.el i).hi) > (s.cavs.el i).change)⟩
theorem l98 (s : Site) (y : Day) (b : Sl Span) (B C : V) (h5 : s.cavs.len ≤ 5) (hD : DayOk s y) (hb : b.len = s.cavs.len) (hq : ∀ i, i < b.len → SpanIn (b.el i) 0 50000) : ∀ n i fu (acc : List Mark), s.cavs.len = i + n → n < fu → acc.length = i → 1 ≤ i →
  L98x1 (E F d) F s y B C fu i b.nl b.len 2 (fun i => eSpan (b.el i)) (b.len : Int) (i : Int) i (gl eMark zMark acc) = some (.ret (rowM (acc ++ (List.range' i n).map (fastM s y b)))) := by
 have hp := hD.1.1
 intro n
 induction n with
 | zero =>
  intro i fu acc h hf ha hi
  obtain ⟨fu, rfl⟩ : ∃ k, fu = k + 1 := ⟨fu - 1, by omega⟩
  rw [L98x1s]
  simp only [Int.ofNat_lt, show ¬ i < b.len by omega, decide_false, cond_false, List.range'_zero, List.map_nil, List.append_nil]
  rw [rowM, rowL_ne eMark zMark ha hi]
 | succ n ih =>
  intro i fu acc h hf ha hi
  obtain ⟨fu, rfl⟩ : ∃ k, fu = k + 1 := ⟨fu - 1, by omega⟩
  rw [L98x1s]
  have q1 := hD.1.2 i (by omega)
  have q2 := hq i (by omega)
  simp only [Int.ofNat_lt, show i < s.cavs.len by omega, show i < b.len by omega, show i < y.press.len by omega, decide_true, cond_true, Int.natCast_nonneg, Int.toNat_natCast, show (i + 1) * 24 ≤ 140737488355328 by omega, wrS (show i < 4611686018427387904 by omega),
   List.take, List.length, tkCons_c, tkInt_i, tkNil_n, beq_self_eq_true,
   wr (show _ ∧ (y.press.el i).hi - (b.el i).lo ≤ _ by omega), wr (show _ ∧ (y.press.el i).lo - (b.el i).hi ≤ _ by omega), wr (show _ ∧ (b.el i).hi - (y.press.el i).lo ≤ _ by omega), wr (show _ ∧ (b.el i).lo - (y.press.el i).hi ≤ _ by omega)]
  rw [List.range'_succ, List.map_cons, List.append_cons]
  exact (congrArg (L98x1 (E F d) F s y B C fu (i + 1) b.nl b.len 2 (fun i => eSpan (b.el i)) (b.len : Int) ((i + 1 : Nat) : Int) (i + 1)) (gl_snoc (m := fastM s y b i) ha rfl)).trans (ih (i + 1) fu _ (by omega) (by omega) (by simp [ha]) (by omega))
theorem s98 (s : Site) (y : Day) (b : Sl Span) (C : V) (h1 : 1 ≤ s.cavs.len) (h5 : s.cavs.len ≤ 5) (hD : DayOk s y) (hb : b.len = s.cavs.len) (hq : ∀ i, i < b.len → SpanIn (b.el i) 0 50000) (hF : 8 < F) :
  (E F (d + 1)).pf 70 [pTod s y (sl eSpan 2 b) C] = some (.ret (rowM ((List.range' 0 s.cavs.len).map (fastM s y b)))) := by
 have hp := hD.1.1
 obtain ⟨n, hn⟩ : ∃ n, s.cavs.len = n + 1 := ⟨s.cavs.len - 1, by omega⟩
 obtain ⟨fu, rfl⟩ : ∃ k, F = k + 1 := ⟨F - 1, by omega⟩
 have q1 := hD.1.2 0 (by omega)
 have q2 := hq 0 (by omega)
 rw [E_pf, t98]
 simp only [tkRow_r]
 rw [L98x0s]
 simp only [zlt (show 0 < s.cavs.len by omega), zlt (show 0 < b.len by omega), zlt (show 0 < y.press.len by omega), cond_true, wr1, decide_true,
   List.take, List.length, tkCons_c, tkInt_i, tkNil_n, beq_self_eq_true,
   wr (show _ ∧ (y.press.el 0).hi - (b.el 0).lo ≤ _ by omega), wr (show _ ∧ (y.press.el 0).lo - (b.el 0).hi ≤ _ by omega), wr (show _ ∧ (b.el 0).hi - (y.press.el 0).lo ≤ _ by omega), wr (show _ ∧ (b.el 0).lo - (y.press.el 0).hi ≤ _ by omega)]
 rw [hn, ← fin96]
 exact (congrArg (L98x1 (E (fu + 1) d) (fu + 1) s y (sl eSpan 2 b) C fu 1 b.nl b.len 2 (fun i => eSpan (b.el i)) (b.len : Int) ((1 : Nat) : Int) 1) (gl_one (m := fastM s y b 0) (by simp only [fastM, maxI, Int.natCast_zero]; rfl))).trans (l98 (fu + 1) d s y b (sl eSpan 2 b) C h5 hD hb hq n 1 fu [fastM s y b 0] (by omega) (by omega) rfl (by omega))
theorem s98n (s : Site) (y : Day) (C : V) (hF : 8 < F) : (E F (d + 1)).pf 70 [pTod s y noneRow C] = some (.ret (rowM [])) := by
 obtain ⟨fu, rfl⟩ : ∃ k, F = k + 1 := ⟨F - 1, by omega⟩
 rw [E_pf, t98]
 simp only [tkRow_r]
 rw [L98x0s]
 rfl
def smallM (s : Site) (m : Sl Stt) (i : Nat) : Mark := ⟨i, 0, decide ((m.el i).vol.lo < (s.cavs.el i).floor), decide ((m.el i).vol.hi < (s.cavs.el i).floor)⟩
theorem l99 (s : Site) (y : Day) (m : Sl Stt) (B C : V) (h5 : s.cavs.len ≤ 5) (hb : m.len = s.cavs.len) : ∀ n i fu (acc : List Mark), s.cavs.len = i + n → n < fu → acc.length = i → 1 ≤ i →
  L99x1 (E F d) F s y B C fu i m.nl m.len 6 (fun i => eStt (m.el i)) (m.len : Int) (i : Int) i (gl eMark zMark acc) = some (.ret (rowM (acc ++ (List.range' i n).map (smallM s m)))) := by
 intro n
 induction n with
 | zero =>
  intro i fu acc h hf ha hi
  obtain ⟨fu, rfl⟩ : ∃ k, fu = k + 1 := ⟨fu - 1, by omega⟩
  rw [L99x1s]
  simp only [Int.ofNat_lt, show ¬ i < m.len by omega, decide_false, cond_false, List.range'_zero, List.map_nil, List.append_nil]
  rw [rowM, rowL_ne eMark zMark ha hi]
 | succ n ih =>
  intro i fu acc h hf ha hi
  obtain ⟨fu, rfl⟩ : ∃ k, fu = k + 1 := ⟨fu - 1, by omega⟩
  rw [L99x1s]
  simp only [Int.ofNat_lt, show i < s.cavs.len by omega, show i < m.len by omega, decide_true, cond_true, Int.natCast_nonneg, Int.toNat_natCast, show (i + 1) * 24 ≤ 140737488355328 by omega, wrS (show i < 4611686018427387904 by omega),
   List.take, List.length, tkCons_c, tkInt_i, tkNil_n, beq_self_eq_true]
  rw [List.range'_succ, List.map_cons, List.append_cons]
  exact (congrArg (L99x1 (E F d) F s y B C fu (i + 1) m.nl m.len 6 (fun i => eStt (m.el i)) (m.len : Int) ((i + 1 : Nat) : Int) (i + 1)) (gl_snoc (m := smallM s m i) ha rfl)).trans (ih (i + 1) fu _ (by omega) (by omega) (by simp [ha]) (by omega))
theorem s99 (s : Site) (y : Day) (m : Sl Stt) (B : V) (h1 : 1 ≤ s.cavs.len) (h5 : s.cavs.len ≤ 5) (hb : m.len = s.cavs.len) (hF : 8 < F) :
  (E F (d + 1)).pf 71 [pTod s y B (sl eStt 6 m)] = some (.ret (rowM ((List.range' 0 s.cavs.len).map (smallM s m)))) := by
 obtain ⟨n, hn⟩ : ∃ n, s.cavs.len = n + 1 := ⟨s.cavs.len - 1, by omega⟩
 obtain ⟨fu, rfl⟩ : ∃ k, F = k + 1 := ⟨F - 1, by omega⟩
 rw [E_pf, t99]
 simp only [tkRow_r]
 rw [L99x0s]
 simp only [zlt (show 0 < s.cavs.len by omega), zlt (show 0 < m.len by omega), cond_true, wr1, decide_true, List.take, List.length, tkCons_c, tkInt_i, tkNil_n, beq_self_eq_true]
 rw [hn, ← fin96]
 exact (congrArg (L99x1 (E (fu + 1) d) (fu + 1) s y B (sl eStt 6 m) fu 1 m.nl m.len 6 (fun i => eStt (m.el i)) (m.len : Int) ((1 : Nat) : Int) 1) (gl_one (m := smallM s m 0) (by simp only [smallM, Int.natCast_zero]))).trans (l99 (fu + 1) d s y m B (sl eStt 6 m) h5 hb n 1 fu [smallM s m 0] (by omega) (by omega) rfl (by omega))
theorem s99n (s : Site) (y : Day) (B : V) (hF : 8 < F) : (E F (d + 1)).pf 71 [pTod s y B noneRow] = some (.ret (rowM [])) := by
 obtain ⟨fu, rfl⟩ : ∃ k, F = k + 1 := ⟨F - 1, by omega⟩
 rw [E_pf, t99]
 simp only [tkRow_r]
 rw [L99x0s]
 rfl
end Go.Sim.Cr


namespace Go.Sim.Cr
open Go.Proofs
variable (F d : Nat)
def sunkM (s : Site) (m : Sl Stt) (i : Nat) : Mark :=
 ⟨i, 0, decide ((sunk s m (s.houses.el i).x (s.houses.el i).y).hi > (s.houses.el i).most), decide ((sunk s m (s.houses.el i).x (s.houses.el i).y).lo > (s.houses.el i).most)⟩
theorem l101 (s : Site) (y : Day) (m : Sl Stt) (B : V) (hS : SiteF s) (hL : StatesOk s m) (hF : 8 < F) : ∀ n i fu (acc : List Mark), s.houses.len = i + n → n < fu → acc.length = i → 1 ≤ i →
  L101x1 (E F (d + 2)) F s y B (sl eStt 6 m) fu i (i : Int) i (gl eMark zMark acc) = some (.ret (rowM (acc ++ (List.range' i n).map (sunkM s m)))) := by
 have h5 := hS.houses5
 intro n
 induction n with
 | zero =>
  intro i fu acc h hf ha hi
  obtain ⟨fu, rfl⟩ : ∃ k, fu = k + 1 := ⟨fu - 1, by omega⟩
  rw [L101x1s]
  simp only [Int.ofNat_lt, show ¬ i < s.houses.len by omega, decide_false, cond_false, List.range'_zero, List.map_nil, List.append_nil]
  rw [rowM, rowL_ne eMark zMark ha hi]
 | succ n ih =>
  intro i fu acc h hf ha hi
  obtain ⟨fu, rfl⟩ : ∃ k, fu = k + 1 := ⟨fu - 1, by omega⟩
  rw [L101x1s]
  have hp : Place (s.houses.el i).x (s.houses.el i).y := (hS.house i (by omega)).1
  simp only [Int.ofNat_lt, show i < s.houses.len by omega, decide_true, cond_true, Int.natCast_nonneg, Int.toNat_natCast, show (i + 1) * 24 ≤ 140737488355328 by omega, wrS (show i < 4611686018427387904 by omega),
   tkRow_r, s53 F d s m _ _ hS hL hp hF, tkOut_ret, tkAgg_a, tkCons_c, tkInt_i, tkNil_n]
  rw [List.range'_succ, List.map_cons, List.append_cons]
  exact (congrArg (L101x1 (E F (d + 2)) F s y B (sl eStt 6 m) fu (i + 1) ((i + 1 : Nat) : Int) (i + 1)) (gl_snoc (m := sunkM s m i) ha rfl)).trans (ih (i + 1) fu _ (by omega) (by omega) (by simp [ha]) (by omega))
theorem s101 (s : Site) (y : Day) (m : Sl Stt) (B : V) (hS : SiteF s) (hL : StatesOk s m) (hm : m.nl = false) (hF : 8 < F) :
  (E F (d + 3)).pf 73 [pTod s y B (sl eStt 6 m)] = some (.ret (rowM ((List.range' 0 s.houses.len).map (sunkM s m)))) := by
 have h5 := hS.houses5
 obtain ⟨fu, rfl⟩ : ∃ k, F = k + 1 := ⟨F - 1, by omega⟩
 obtain ⟨nl, ml, me⟩ := m
 obtain rfl : nl = false := hm
 rw [E_pf, t101]
 simp only [tkRow_r, cond_false]
 rw [L101x0s]
 rcases Nat.eq_zero_or_pos s.houses.len with h0 | h0
 ·rw [h0]; rfl
 ·obtain ⟨n, hn⟩ : ∃ n, s.houses.len = n + 1 := ⟨s.houses.len - 1, by omega⟩
  have hp : Place (s.houses.el 0).x (s.houses.el 0).y := (hS.house 0 (by omega)).1
  have e := s53 (fu + 1) d s ⟨false, ml, me⟩ _ _ hS hL hp hF
  simp only [zlt h0, cond_true, wr1, tkRow_r, e, tkOut_ret, tkAgg_a, tkCons_c, tkInt_i, tkNil_n, decide_true]
  rw [hn, ← fin96]
  exact (congrArg (L101x1 (E (fu + 1) (d + 2)) (fu + 1) s y B (sl eStt 6 ⟨false, ml, me⟩) fu 1 ((1 : Nat) : Int) 1) (gl_one (m := sunkM s ⟨false, ml, me⟩ 0) (by simp only [sunkM, Int.natCast_zero]))).trans (l101 (fu + 1) d s y ⟨false, ml, me⟩ B hS hL hF n 1 fu [sunkM s ⟨false, ml, me⟩ 0] (by omega) (by omega) rfl (by omega))
theorem s101n (s : Site) (y : Day) (B : V) : (E F (d + 1)).pf 73 [pTod s y B noneRow] = some (.ret (rowM [])) := by
 rw [E_pf, t101]
 rfl
noncomputable def thinM (s : Site) (m : Sl Stt) (i j : Nat) : Mark :=
 ⟨i, j, decide (distI (s.cavs.el i) (s.cavs.el j) - (m.el i).rad.hi - (m.el j).rad.hi < s.wall), decide (distI (s.cavs.el i) (s.cavs.el j) - (m.el i).rad.lo - (m.el j).rad.lo < s.wall)⟩
noncomputable def pairsM (s : Site) (m : Sl Stt) : Nat → Nat → List Mark
 | 0, _ => []
 | k + 1, i => (List.range' (i + 1) k).map (thinM s m i) ++ pairsM s m k (i + 1)
variable (s : Site) (y : Day) (m : Sl Stt) (B : V)
noncomputable abbrev LB2 (m0 fu : Nat) (i j : Nat) (acc : List Mark) : Option Out :=
 L100x2 (E F (d + 4)) F s y B (sl eStt 6 m) m0 fu (i : Int) (j : Int) (i : Int) acc.length acc.length (gl eMark zMark acc) m.nl m.len 6 (fun i => eStt (m.el i)) m.nl
noncomputable abbrev LB3 (fu : Nat) (i : Nat) (acc : List Mark) : Option Out :=
 L100x3 (E F (d + 4)) F s y B (sl eStt 6 m) fu (i : Int) acc.length acc.length (gl eMark zMark acc) m.nl m.len 6 (fun i => eStt (m.el i)) m.nl
theorem in2 (hS : SiteF s) (hL : StatesOk s m) (hF : 67108864 < F) (m0 i : Nat) (P : List Mark) (M : Nat) (hM : M ≤ 100) (hi : i < s.cavs.len) (hO : ∀ acc, 1 ≤ acc.length → acc.length ≤ M → LB3 F d s y m B m0 (i + 1) acc = some (.ret (rowM (acc ++ P)))) :
  ∀ r j fu (acc : List Mark), s.cavs.len = j + r → r < fu → i < j → 1 ≤ acc.length → acc.length + r ≤ M → LB2 F d s y m B m0 fu i j acc = some (.ret (rowM (acc ++ ((List.range' j r).map (thinM s m i) ++ P)))) := by
 have h5 := hS.cavs5
 have hl := hL.1
 intro r
 induction r with
 | zero =>
  intro j fu acc h hf hij ha hb
  obtain ⟨fu, rfl⟩ : ∃ k, fu = k + 1 := ⟨fu - 1, by omega⟩
  unfold LB2
  rw [L100x2s]
  simp only [Int.ofNat_lt, show ¬ j < s.cavs.len by omega, decide_false, cond_false, wrS (show i < 4611686018427387904 by omega), List.range'_zero, List.map_nil, List.nil_append]
  exact hO acc ha (by omega)
 | succ r ih =>
  intro j fu acc h hf hij ha hb
  obtain ⟨fu, rfl⟩ : ∃ k, fu = k + 1 := ⟨fu - 1, by omega⟩
  unfold LB2
  rw [L100x2s]
  have a1 := (hL.2 i (by omega)).1
  have a2 := (hL.2 j (by omega)).1
  have p1 := (hS.cav i hi).1
  have p2 := (hS.cav j (by omega)).1
  simp only [Int.ofNat_lt, show j < s.cavs.len by omega, show j < m.len by omega, show i < m.len by omega, decide_true, cond_true, Int.natCast_nonneg, Int.toNat_natCast, tkRow_r, beq_self_eq_true, List.take, List.length, tkCons_c, tkInt_i, tkNil_n,
   s73 F d s i j (m.el i).rad.hi (m.el j).rad.hi hi (by omega) p1 p2 (by omega) (by omega) hF, s73 F d s i j (m.el i).rad.lo (m.el j).rad.lo hi (by omega) p1 p2 (by omega) (by omega) hF, tkOut_ret, show (acc.length + 1) * 24 ≤ 140737488355328 by omega, wrS (show j < 4611686018427387904 by omega)]
  rw [List.range'_succ, List.map_cons, List.cons_append, List.append_cons]
  have g := ih (j + 1) fu (acc ++ [thinM s m i j]) (by omega) (by omega) (by omega) (by simp) (by simp; omega)
  unfold LB2 at g
  rw [show (acc ++ [thinM s m i j]).length = acc.length + 1 by simp] at g
  exact (congrArg (fun G => L100x2 (E F (d + 4)) F s y B (sl eStt 6 m) m0 fu (i : Int) ((j + 1 : Nat) : Int) (i : Int) (acc.length + 1) (acc.length + 1) G m.nl m.len 6 (fun i => eStt (m.el i)) m.nl) (gl_snoc (m := thinM s m i j) rfl rfl)).trans g
theorem out3 (hS : SiteF s) (hL : StatesOk s m) (hF : 67108864 < F) : ∀ k i fu (acc : List Mark), s.cavs.len = i + k → k < fu → 1 ≤ acc.length → acc.length + 10 * k ≤ 100 →
  LB3 F d s y m B fu i acc = some (.ret (rowM (acc ++ pairsM s m k i))) := by
 have h5 := hS.cavs5
 intro k
 induction k with
 | zero =>
  intro i fu acc h hf ha hb
  obtain ⟨fu, rfl⟩ : ∃ k, fu = k + 1 := ⟨fu - 1, by omega⟩
  unfold LB3
  rw [L100x3s]
  simp only [Int.ofNat_lt, show ¬ i < s.cavs.len by omega, decide_false, cond_false, pairsM, List.append_nil]
  rw [rowM, rowL_ne eMark zMark rfl ha]
 | succ k ih =>
  intro i fu acc h hf ha hb
  obtain ⟨fu, rfl⟩ : ∃ k, fu = k + 1 := ⟨fu - 1, by omega⟩
  unfold LB3
  rw [L100x3s]
  simp only [Int.ofNat_lt, show i < s.cavs.len by omega, decide_true, cond_true, wrS (show i < 4611686018427387904 by omega), pairsM]
  exact in2 F d s y m B hS hL hF fu i (pairsM s m k (i + 1)) (100 - 10 * k) (by omega) (by omega) (fun acc' h1 h2 => ih (i + 1) fu acc' (by omega) (by omega) h1 (by omega)) k (i + 1) F acc (by omega) (by omega) (by omega) ha (by omega)
noncomputable abbrev LB0 (fu : Nat) (i : Nat) : Option Out :=
 L100x0 (E F (d + 4)) F s y B (sl eStt 6 m) fu (i : Int) m.nl m.len 6 (fun i => eStt (m.el i)) m.nl
noncomputable abbrev LB1 (m0 fu : Nat) (i j : Nat) : Option Out :=
 L100x1 (E F (d + 4)) F s y B (sl eStt 6 m) m0 fu (i : Int) (j : Int) (i : Int) m.nl m.len 6 (fun i => eStt (m.el i)) m.nl
theorem in1 (hS : SiteF s) (hL : StatesOk s m) (hF : 67108864 < F) (m0 i k : Nat) (hi : s.cavs.len = i + 1 + k) (hk : k < m0) (hO : LB0 F d s y m B m0 (i + 1) = some (.ret (rowM (pairsM s m k (i + 1))))) :
  ∀ r j fu, s.cavs.len = j + r → r < fu → i < j → LB1 F d s y m B m0 fu i j = some (.ret (rowM ((List.range' j r).map (thinM s m i) ++ pairsM s m k (i + 1)))) := by
 have h5 := hS.cavs5
 have hl := hL.1
 intro r
 cases r with
 | zero =>
  intro j fu h hf hij
  obtain ⟨fu, rfl⟩ : ∃ k, fu = k + 1 := ⟨fu - 1, by omega⟩
  unfold LB1
  rw [L100x1s]
  simp only [Int.ofNat_lt, show ¬ j < s.cavs.len by omega, decide_false, cond_false, wrS (show i < 4611686018427387904 by omega), List.range'_zero, List.map_nil, List.nil_append]
  exact hO
 | succ r =>
  intro j fu h hf hij
  obtain ⟨fu, rfl⟩ : ∃ k, fu = k + 1 := ⟨fu - 1, by omega⟩
  unfold LB1
  rw [L100x1s]
  have a1 := (hL.2 i (by omega)).1
  have a2 := (hL.2 j (by omega)).1
  have p1 := (hS.cav i (by omega)).1
  have p2 := (hS.cav j (by omega)).1
  simp only [Int.ofNat_lt, show j < s.cavs.len by omega, show j < m.len by omega, show i < m.len by omega, decide_true, cond_true, Int.natCast_nonneg, Int.toNat_natCast, tkRow_r, beq_self_eq_true, List.take, List.length, tkCons_c, tkInt_i, tkNil_n,
   s73 F d s i j (m.el i).rad.hi (m.el j).rad.hi (by omega) (by omega) p1 p2 (by omega) (by omega) hF, s73 F d s i j (m.el i).rad.lo (m.el j).rad.lo (by omega) (by omega) p1 p2 (by omega) (by omega) hF, tkOut_ret, wrS (show j < 4611686018427387904 by omega)]
  rw [List.range'_succ, List.map_cons]
  have g := in2 F d s y m B hS hL hF m0 i (pairsM s m k (i + 1)) 50 (by omega) (by omega) (fun acc' h1 h2 => out3 F d s y m B hS hL hF k (i + 1) m0 acc' (by omega) (by omega) h1 (by omega)) r (j + 1) fu [thinM s m i j] (by omega) (by omega) (by omega) (by simp) (by simp; omega)
  unfold LB2 at g
  rw [show ([thinM s m i j] : List Mark).length = 1 from rfl, List.singleton_append] at g
  rw [List.cons_append]
  exact (congrArg (fun G => L100x2 (E F (d + 4)) F s y B (sl eStt 6 m) m0 fu (i : Int) ((j + 1 : Nat) : Int) (i : Int) 1 1 G m.nl m.len 6 (fun i => eStt (m.el i)) m.nl) (gl_one (e := eMark) (z := zMark) (m := thinM s m i j) (by simp only [thinM]))).trans g
theorem out0 (hS : SiteF s) (hL : StatesOk s m) (hF : 67108864 < F) : ∀ k i fu, s.cavs.len = i + k → k < fu → LB0 F d s y m B fu i = some (.ret (rowM (pairsM s m k i))) := by
 have h5 := hS.cavs5
 intro k
 induction k with
 | zero =>
  intro i fu h hf
  obtain ⟨fu, rfl⟩ : ∃ k, fu = k + 1 := ⟨fu - 1, by omega⟩
  unfold LB0
  rw [L100x0s]
  simp only [Int.ofNat_lt, show ¬ i < s.cavs.len by omega, decide_false, cond_false, pairsM]
  rfl
 | succ k ih =>
  intro i fu h hf
  obtain ⟨fu, rfl⟩ : ∃ k, fu = k + 1 := ⟨fu - 1, by omega⟩
  unfold LB0
  rw [L100x0s]
  simp only [Int.ofNat_lt, show i < s.cavs.len by omega, decide_true, cond_true, wrS (show i < 4611686018427387904 by omega), pairsM]
  exact in1 F d s y m B hS hL hF fu i k (by omega) (by omega) (ih (i + 1) fu (by omega) (by omega)) k (i + 1) F (by omega) (by omega) (by omega)
theorem s100 (hS : SiteF s) (hL : StatesOk s m) (hm : m.nl = false) (hF : 67108864 < F) :
  (E F (d + 5)).pf 72 [pTod s y B (sl eStt 6 m)] = some (.ret (rowM (pairsM s m s.cavs.len 0))) := by
 have h5 := hS.cavs5
 rw [E_pf, t100]
 simp only [tkRow_r]
 have g := out0 F d s y m B hS hL hF s.cavs.len 0 F (by omega) (by omega)
 unfold LB0 at g
 rw [hm, cond_false]
 simp only [hm] at g
 exact g
theorem s100n : (E F (d + 1)).pf 72 [pTod s y B noneRow] = some (.ret (rowM [])) := by
 rw [E_pf, t100]
 rfl
end Go.Sim.Cr


namespace Go.Sim.Cr
open Go.Proofs
variable (F d : Nat)
def faultR (n : Int) (is : Mark → Bool) : List (Int × List Mark) → Option Fault
 | [] => none
 | (k, ms) :: r => match ms.find? is with | some m => some ⟨n, k, m.at_, m.wth⟩ | none => faultR n is r
abbrev eFaultB (f : Option Fault) : V := match f with | some f => .tup [.agg (eFault f), .bool true] | none => .tup [.agg (eFault ⟨0, 1, 0, 0⟩), .bool false]
theorem gl_at {ms : List Mark} {j : Nat} {m : Mark} (h : ms.getD j (ms.getLastD zMark) = m) : gl eMark zMark ms j = eMark m := by unfold gl; rw [h]
theorem ne_of_lt {ms : List Mark} {j : Nat} (h : j < ms.length) : ms.isEmpty = false := by cases ms with | nil => simp at h | cons => rfl
theorem neg1 : decide ((-1 : Int) ≥ 0) = false := rfl
theorem fR_some {n k : Int} {is : Mark → Bool} {ms : List Mark} {m : Mark} {r : List (Int × List Mark)} (h : ms.find? is = some m) : faultR n is ((k, ms) :: r) = some ⟨n, k, m.at_, m.wth⟩ := by rw [faultR, h]
theorem fR_none {n k : Int} {is : Mark → Bool} {ms : List Mark} {r : List (Int × List Mark)} (h : ms.find? is = none) : faultR n is ((k, ms) :: r) = faultR n is r := by rw [faultR, h]
theorem k0 : IntKind.i64.wrap (2 + 0) = 2 := by rw [wr (by omega)]; rfl
theorem k1 : IntKind.i64.wrap (2 + IntKind.i64.wrap (0 + 1)) = 3 := by rw [wr (n := 0 + 1) (by omega), wr (by omega)]; rfl
theorem k2 : IntKind.i64.wrap (2 + IntKind.i64.wrap (IntKind.i64.wrap (0 + 1) + 1)) = 4 := by rw [wr (n := 0 + 1) (by omega), wr (n := 0 + 1 + 1) (by omega), wr (by omega)]; rfl
theorem k3 : IntKind.i64.wrap (2 + IntKind.i64.wrap (IntKind.i64.wrap (IntKind.i64.wrap (0 + 1) + 1) + 1)) = 5 := by rw [wr (n := 0 + 1) (by omega), wr (n := 0 + 1 + 1) (by omega), wr (n := 0 + 1 + 1 + 1) (by omega), wr (by omega)]; rfl
theorem k4 : IntKind.i64.wrap (2 + IntKind.i64.wrap (IntKind.i64.wrap (IntKind.i64.wrap (IntKind.i64.wrap (0 + 1) + 1) + 1) + 1)) = 6 := by rw [wr (n := 0 + 1) (by omega), wr (n := 0 + 1 + 1) (by omega), wr (n := 0 + 1 + 1 + 1) (by omega), wr (n := 0 + 1 + 1 + 1 + 1) (by omega), wr (by omega)]; rfl
theorem k5 : IntKind.i64.wrap (2 + IntKind.i64.wrap (IntKind.i64.wrap (IntKind.i64.wrap (IntKind.i64.wrap (IntKind.i64.wrap (0 + 1) + 1) + 1) + 1) + 1)) = 7 := by
 rw [wr (n := 0 + 1) (by omega), wr (n := 0 + 1 + 1) (by omega), wr (n := 0 + 1 + 1 + 1) (by omega), wr (n := 0 + 1 + 1 + 1 + 1) (by omega), wr (n := 0 + 1 + 1 + 1 + 1 + 1) (by omega), wr (by omega)]; rfl
theorem s65a (s : Site) (y : Day) (B C : V) (n : Int) (f0 f1 f2 f3 f4 f5 : List Mark) (h0 : f0.length ≤ 100) (h1 : f1.length ≤ 100) (h2 : f2.length ≤ 100) (h3 : f3.length ≤ 100) (h4 : f4.length ≤ 100) (h5 : f5.length ≤ 100) (hF : 200 < F)
  (r0 : (E F (d + 2)).pf 68 [pTod s y B C] = some (.ret (rowM f0)))
  (r1 : (E F (d + 2)).pf 69 [pTod s y B C] = some (.ret (rowM f1)))
  (r2 : (E F (d + 2)).pf 70 [pTod s y B C] = some (.ret (rowM f2)))
  (r3 : (E F (d + 2)).pf 71 [pTod s y B C] = some (.ret (rowM f3)))
  (r4 : (E F (d + 2)).pf 72 [pTod s y B C] = some (.ret (rowM f4)))
  (r5 : (E F (d + 2)).pf 73 [pTod s y B C] = some (.ret (rowM f5)))
  : (E F (d + 3)).pf 35 [pTod s y B C, .int .i64 n, .fn (.func 48) [] []] = some (.ret (eFaultB (faultR n Mark.possible [(2, f0), (3, f1), (4, f2), (5, f3), (6, f4), (7, f5)]))) := by
 obtain ⟨F, rfl⟩ : ∃ k, F = k + 7 := ⟨F - 7, by omega⟩
 rw [E_pf, t651]
 simp only [r0, tkOut_ret, tkRow_r, s102a (F + 7) d f0 (show f0.length < 4611686018427387904 by omega) (by omega), tkInt_i, decide_true, cond_true]
 rcases ixM_find Mark.possible f0 with ⟨e0, x0⟩ | ⟨j, m, e0, x0, y0, z0⟩
 rotate_left
 ·simp only [x0, ne_of_lt y0, cond_false, gl_at z0, fR_some e0, k0, decide_true, cond_true, Int.natCast_nonneg, ge_iff_le, beq_self_eq_true, Int.ofNat_lt, y0, Int.toNat_natCast, tkCons_c, tkInt_i, List.drop]
 simp only [x0, neg1, cond_false]
 simp only [r1, tkOut_ret, tkRow_r, s102a (F + 7) d f1 (show f1.length < 4611686018427387904 by omega) (by omega), tkInt_i, decide_true, cond_true]
 rcases ixM_find Mark.possible f1 with ⟨e1, x1⟩ | ⟨j, m, e1, x1, y1, z1⟩
 rotate_left
 ·simp only [x1, ne_of_lt y1, cond_false, gl_at z1, fR_some e1, fR_none e0, k1, decide_true, cond_true, Int.natCast_nonneg, ge_iff_le, beq_self_eq_true, Int.ofNat_lt, y1, Int.toNat_natCast, tkCons_c, tkInt_i, List.drop]
 simp only [x1, neg1, cond_false]
 simp only [r2, tkOut_ret, tkRow_r, s102a (F + 7) d f2 (show f2.length < 4611686018427387904 by omega) (by omega), tkInt_i, decide_true, cond_true]
 rcases ixM_find Mark.possible f2 with ⟨e2, x2⟩ | ⟨j, m, e2, x2, y2, z2⟩
 rotate_left
 ·simp only [x2, ne_of_lt y2, cond_false, gl_at z2, fR_some e2, fR_none e0, fR_none e1, k2, decide_true, cond_true, Int.natCast_nonneg, ge_iff_le, beq_self_eq_true, Int.ofNat_lt, y2, Int.toNat_natCast, tkCons_c, tkInt_i, List.drop]
 simp only [x2, neg1, cond_false]
 simp only [r3, tkOut_ret, tkRow_r, s102a (F + 7) d f3 (show f3.length < 4611686018427387904 by omega) (by omega), tkInt_i, decide_true, cond_true]
 rcases ixM_find Mark.possible f3 with ⟨e3, x3⟩ | ⟨j, m, e3, x3, y3, z3⟩
 rotate_left
 ·simp only [x3, ne_of_lt y3, cond_false, gl_at z3, fR_some e3, fR_none e0, fR_none e1, fR_none e2, k3, decide_true, cond_true, Int.natCast_nonneg, ge_iff_le, beq_self_eq_true, Int.ofNat_lt, y3, Int.toNat_natCast, tkCons_c, tkInt_i, List.drop]
 simp only [x3, neg1, cond_false]
 simp only [r4, tkOut_ret, tkRow_r, s102a (F + 7) d f4 (show f4.length < 4611686018427387904 by omega) (by omega), tkInt_i, decide_true, cond_true]
 rcases ixM_find Mark.possible f4 with ⟨e4, x4⟩ | ⟨j, m, e4, x4, y4, z4⟩
 rotate_left
 ·simp only [x4, ne_of_lt y4, cond_false, gl_at z4, fR_some e4, fR_none e0, fR_none e1, fR_none e2, fR_none e3, k4, decide_true, cond_true, Int.natCast_nonneg, ge_iff_le, beq_self_eq_true, Int.ofNat_lt, y4, Int.toNat_natCast, tkCons_c, tkInt_i, List.drop]
 simp only [x4, neg1, cond_false]
 simp only [r5, tkOut_ret, tkRow_r, s102a (F + 7) d f5 (show f5.length < 4611686018427387904 by omega) (by omega), tkInt_i, decide_true, cond_true]
 rcases ixM_find Mark.possible f5 with ⟨e5, x5⟩ | ⟨j, m, e5, x5, y5, z5⟩
 rotate_left
 ·simp only [x5, ne_of_lt y5, cond_false, gl_at z5, fR_some e5, fR_none e0, fR_none e1, fR_none e2, fR_none e3, fR_none e4, k5, decide_true, cond_true, Int.natCast_nonneg, ge_iff_le, beq_self_eq_true, Int.ofNat_lt, y5, Int.toNat_natCast, tkCons_c, tkInt_i, List.drop]
 simp only [x5, neg1, cond_false]
 rw [fR_none e0, fR_none e1, fR_none e2, fR_none e3, fR_none e4, fR_none e5]
 rfl
theorem s65b (s : Site) (y : Day) (B C : V) (n : Int) (f0 f1 f2 f3 f4 f5 : List Mark) (h0 : f0.length ≤ 100) (h1 : f1.length ≤ 100) (h2 : f2.length ≤ 100) (h3 : f3.length ≤ 100) (h4 : f4.length ≤ 100) (h5 : f5.length ≤ 100) (hF : 200 < F)
  (r0 : (E F (d + 2)).pf 68 [pTod s y B C] = some (.ret (rowM f0)))
  (r1 : (E F (d + 2)).pf 69 [pTod s y B C] = some (.ret (rowM f1)))
  (r2 : (E F (d + 2)).pf 70 [pTod s y B C] = some (.ret (rowM f2)))
  (r3 : (E F (d + 2)).pf 71 [pTod s y B C] = some (.ret (rowM f3)))
  (r4 : (E F (d + 2)).pf 72 [pTod s y B C] = some (.ret (rowM f4)))
  (r5 : (E F (d + 2)).pf 73 [pTod s y B C] = some (.ret (rowM f5)))
  : (E F (d + 3)).pf 35 [pTod s y B C, .int .i64 n, .fn (.func 49) [] []] = some (.ret (eFaultB (faultR n Mark.certain [(2, f0), (3, f1), (4, f2), (5, f3), (6, f4), (7, f5)]))) := by
 obtain ⟨F, rfl⟩ : ∃ k, F = k + 7 := ⟨F - 7, by omega⟩
 rw [E_pf, t652]
 simp only [r0, tkOut_ret, tkRow_r, s102b (F + 7) d f0 (show f0.length < 4611686018427387904 by omega) (by omega), tkInt_i, decide_true, cond_true]
 rcases ixM_find Mark.certain f0 with ⟨e0, x0⟩ | ⟨j, m, e0, x0, y0, z0⟩
 rotate_left
 ·simp only [x0, ne_of_lt y0, cond_false, gl_at z0, fR_some e0, k0, decide_true, cond_true, Int.natCast_nonneg, ge_iff_le, beq_self_eq_true, Int.ofNat_lt, y0, Int.toNat_natCast, tkCons_c, tkInt_i, List.drop]
 simp only [x0, neg1, cond_false]
 simp only [r1, tkOut_ret, tkRow_r, s102b (F + 7) d f1 (show f1.length < 4611686018427387904 by omega) (by omega), tkInt_i, decide_true, cond_true]
 rcases ixM_find Mark.certain f1 with ⟨e1, x1⟩ | ⟨j, m, e1, x1, y1, z1⟩
 rotate_left
 ·simp only [x1, ne_of_lt y1, cond_false, gl_at z1, fR_some e1, fR_none e0, k1, decide_true, cond_true, Int.natCast_nonneg, ge_iff_le, beq_self_eq_true, Int.ofNat_lt, y1, Int.toNat_natCast, tkCons_c, tkInt_i, List.drop]
 simp only [x1, neg1, cond_false]
 simp only [r2, tkOut_ret, tkRow_r, s102b (F + 7) d f2 (show f2.length < 4611686018427387904 by omega) (by omega), tkInt_i, decide_true, cond_true]
 rcases ixM_find Mark.certain f2 with ⟨e2, x2⟩ | ⟨j, m, e2, x2, y2, z2⟩
 rotate_left
 ·simp only [x2, ne_of_lt y2, cond_false, gl_at z2, fR_some e2, fR_none e0, fR_none e1, k2, decide_true, cond_true, Int.natCast_nonneg, ge_iff_le, beq_self_eq_true, Int.ofNat_lt, y2, Int.toNat_natCast, tkCons_c, tkInt_i, List.drop]
 simp only [x2, neg1, cond_false]
 simp only [r3, tkOut_ret, tkRow_r, s102b (F + 7) d f3 (show f3.length < 4611686018427387904 by omega) (by omega), tkInt_i, decide_true, cond_true]
 rcases ixM_find Mark.certain f3 with ⟨e3, x3⟩ | ⟨j, m, e3, x3, y3, z3⟩
 rotate_left
 ·simp only [x3, ne_of_lt y3, cond_false, gl_at z3, fR_some e3, fR_none e0, fR_none e1, fR_none e2, k3, decide_true, cond_true, Int.natCast_nonneg, ge_iff_le, beq_self_eq_true, Int.ofNat_lt, y3, Int.toNat_natCast, tkCons_c, tkInt_i, List.drop]
 simp only [x3, neg1, cond_false]
 simp only [r4, tkOut_ret, tkRow_r, s102b (F + 7) d f4 (show f4.length < 4611686018427387904 by omega) (by omega), tkInt_i, decide_true, cond_true]
 rcases ixM_find Mark.certain f4 with ⟨e4, x4⟩ | ⟨j, m, e4, x4, y4, z4⟩
 rotate_left
 ·simp only [x4, ne_of_lt y4, cond_false, gl_at z4, fR_some e4, fR_none e0, fR_none e1, fR_none e2, fR_none e3, k4, decide_true, cond_true, Int.natCast_nonneg, ge_iff_le, beq_self_eq_true, Int.ofNat_lt, y4, Int.toNat_natCast, tkCons_c, tkInt_i, List.drop]
 simp only [x4, neg1, cond_false]
 simp only [r5, tkOut_ret, tkRow_r, s102b (F + 7) d f5 (show f5.length < 4611686018427387904 by omega) (by omega), tkInt_i, decide_true, cond_true]
 rcases ixM_find Mark.certain f5 with ⟨e5, x5⟩ | ⟨j, m, e5, x5, y5, z5⟩
 rotate_left
 ·simp only [x5, ne_of_lt y5, cond_false, gl_at z5, fR_some e5, fR_none e0, fR_none e1, fR_none e2, fR_none e3, fR_none e4, k5, decide_true, cond_true, Int.natCast_nonneg, ge_iff_le, beq_self_eq_true, Int.ofNat_lt, y5, Int.toNat_natCast, tkCons_c, tkInt_i, List.drop]
 simp only [x5, neg1, cond_false]
 rw [fR_none e0, fR_none e1, fR_none e2, fR_none e3, fR_none e4, fR_none e5]
 rfl
end Go.Sim.Cr


namespace Go.Sim.Cr
open Go.Proofs
theorem monoN {f : Nat → Int} {n : Nat} (h : ∀ j, j + 1 < n → f j ≤ f (j + 1)) : ∀ {j i : Nat}, i ≤ j → j < n → f i ≤ f j := by
 intro j
 induction j with
 | zero => intro i hi _; rw [show i = 0 by omega]; exact Int.le_refl _
 | succ j ih =>
  intro i hi hj
  rcases Nat.eq_or_lt_of_le hi with rfl | h4
  ·exact Int.le_refl _
  ·have := @ih i (by omega) (by omega)
   have := h j hj
   omega
theorem lastIx_mono {num : Nat → Int} {n : Nat} {x y : Int} (hn : 0 < n) (h0 : num 0 ≤ x) (hxy : x ≤ y) (hi : Inc num n) : lastIx num x n ≤ lastIx num y n := by
 obtain ⟨a1, a2, a3⟩ := lastIx_ok hn h0
 obtain ⟨b1, b2, b3⟩ := lastIx_ok hn (Int.le_trans h0 hxy)
 rcases Nat.lt_or_ge (lastIx num y n) (lastIx num x n) with h | h
 ·have := b3 _ h a1; omega
 ·exact h
theorem firstIx_mono {num : Nat → Int} {n : Nat} {x y : Int} (hn : 0 < n) (h0 : y ≤ num (n - 1)) (hxy : x ≤ y) (hi : Inc num n) : firstIx num x n 0 ≤ firstIx num y n 0 := by
 obtain ⟨_, a1, a2, a3⟩ := @firstIx_ok num x n 0 hn (by rw [Nat.zero_add]; omega)
 obtain ⟨_, b1, b2, b3⟩ := @firstIx_ok num y n 0 hn (by rw [Nat.zero_add]; omega)
 rcases Nat.lt_or_ge (firstIx num y n 0) (firstIx num x n 0) with h | h
 ·have := a3 _ (Nat.zero_le _) h; omega
 ·exact h
theorem last_first {num : Nat → Int} {n : Nat} {x y : Int} (hn : 0 < n) (h0 : num 0 ≤ x) (h1 : y ≤ num (n - 1)) (hxy : x ≤ y) (hi : Inc num n) : lastIx num x n ≤ firstIx num y n 0 := by
 obtain ⟨a1, a2, a3⟩ := lastIx_ok hn h0
 obtain ⟨_, b1, b2, b3⟩ := @firstIx_ok num y n 0 hn (by rw [Nat.zero_add]; omega)
 rcases Nat.lt_or_ge (firstIx num y n 0) (lastIx num x n) with h | h
 ·have := hi.lt h a1; omega
 ·exact h
variable {s : Site}
theorem SiteF.rowUp (hS : SiteF s) {i j : Nat} (hij : i ≤ j) (hj : j < s.rows.len) :
  ((s.rows.el i).rate.lo ≤ (s.rows.el j).rate.lo ∧ (s.rows.el i).rate.hi ≤ (s.rows.el j).rate.hi) ∧ (s.rows.el i).spall.lo ≤ (s.rows.el j).spall.lo ∧ (s.rows.el i).spall.hi ≤ (s.rows.el j).spall.hi := by
 have st : ∀ k, k + 1 < s.rows.len → ((s.rows.el k).rate.lo ≤ (s.rows.el (k + 1)).rate.lo ∧ (s.rows.el k).rate.hi ≤ (s.rows.el (k + 1)).rate.hi) ∧ (s.rows.el k).spall.lo ≤ (s.rows.el (k + 1)).spall.lo ∧ (s.rows.el k).spall.hi ≤ (s.rows.el (k + 1)).spall.hi := fun k hk => by
  have := hS.row (k + 1) hk
  simp only [rowB, rowStep, Bool.and_eq_true, decide_eq_true_iff] at this
  exact this.2.2.2.2
 exact ⟨⟨monoN (f := fun k => (s.rows.el k).rate.lo) (fun k hk => (st k hk).1.1) hij hj, monoN (f := fun k => (s.rows.el k).rate.hi) (fun k hk => (st k hk).1.2) hij hj⟩,
  monoN (f := fun k => (s.rows.el k).spall.lo) (fun k hk => (st k hk).2.1) hij hj, monoN (f := fun k => (s.rows.el k).spall.hi) (fun k hk => (st k hk).2.2) hij hj⟩
theorem SiteF.heatUp (hS : SiteF s) {i j : Nat} (hij : i ≤ j) (hj : j < s.heats.len) :
  (s.heats.el i).factor.lo ≤ (s.heats.el j).factor.lo ∧ (s.heats.el i).factor.hi ≤ (s.heats.el j).factor.hi := by
 have st : ∀ k, k + 1 < s.heats.len → (s.heats.el k).factor.lo ≤ (s.heats.el (k + 1)).factor.lo ∧ (s.heats.el k).factor.hi ≤ (s.heats.el (k + 1)).factor.hi := fun k hk => by
  have := hS.heat (k + 1) hk
  simp only [heatB, heatStep, Bool.and_eq_true, decide_eq_true_iff] at this
  exact this.2.2.2
 exact ⟨monoN (f := fun k => (s.heats.el k).factor.lo) (fun k hk => (st k hk).1) hij hj, monoN (f := fun k => (s.heats.el k).factor.hi) (fun k hk => (st k hk).2) hij hj⟩
abbrev Sub (p q : Span) : Prop := q.lo ≤ p.lo ∧ p.hi ≤ q.hi
theorem rate_sub (hS : SiteF s) {c : Cav} {p p' q : Span} (hf : farB s c p q = false) (hs : Sub p' p) (h' : p'.lo ≤ p'.hi) :
  Sub (rateOf s c p') (rateOf s c p) ∧ Sub (fallOf s c p') (fallOf s c p) ∧ (rateOf s c p').lo ≤ (rateOf s c p').hi ∧ (fallOf s c p').lo ≤ (fallOf s c p').hi := by
 obtain ⟨f1, _⟩ := far_split hf
 obtain ⟨o1, o2⟩ := not_off f1
 have hi := hS.incRow
 have n1 := hS.rows1
 obtain ⟨a1, _⟩ := lastIx_ok (num := rowN s) (x := c.rock - p'.hi) n1 (by omega)
 have b1 := (@firstIx_ok (rowN s) (c.rock - p.lo) s.rows.len 0 n1 (by rw [Nat.zero_add]; omega)).2.1
 have b2 := (@firstIx_ok (rowN s) (c.rock - p'.lo) s.rows.len 0 n1 (by rw [Nat.zero_add]; omega)).2.1
 have u1 := hS.rowUp (lastIx_mono (num := rowN s) (x := c.rock - p.hi) (y := c.rock - p'.hi) n1 o1 (by omega) hi) a1
 have u2 := hS.rowUp (firstIx_mono (num := rowN s) (x := c.rock - p'.lo) (y := c.rock - p.lo) n1 o2 (by omega) hi) (by omega)
 have u3 := hS.rowUp (last_first (num := rowN s) (x := c.rock - p'.hi) (y := c.rock - p'.lo) n1 (by omega) (by omega) (by omega) hi) (by omega)
 have r3 := hS.rowOk (show firstIx (rowN s) (c.rock - p'.lo) s.rows.len 0 < s.rows.len by omega)
 exact ⟨⟨u1.1.1, u2.1.2⟩, ⟨u1.2.1, u2.2.2⟩, Int.le_trans u3.1.1 r3.2.1.2.1, Int.le_trans u3.2.1 r3.2.2.2.1⟩
theorem factor_sub (hS : SiteF s) {c : Cav} {p q q' : Span} (hf : farB s c p q = false) (hs : Sub q' q) (h' : q'.lo ≤ q'.hi) :
  Sub (factorOf s q') (factorOf s q) ∧ (factorOf s q').lo ≤ (factorOf s q').hi := by
 obtain ⟨_, f1⟩ := far_split hf
 obtain ⟨o1, o2⟩ := not_off f1
 have hi := hS.incHeat
 have n1 := hS.heats1
 obtain ⟨a1, _⟩ := lastIx_ok (num := heatN s) (x := q'.lo) n1 (by omega)
 have b1 := (@firstIx_ok (heatN s) q.hi s.heats.len 0 n1 (by rw [Nat.zero_add]; omega)).2.1
 have b2 := (@firstIx_ok (heatN s) q'.hi s.heats.len 0 n1 (by rw [Nat.zero_add]; omega)).2.1
 have u1 := hS.heatUp (lastIx_mono (num := heatN s) (x := q.lo) (y := q'.lo) n1 o1 (by omega) hi) a1
 have u2 := hS.heatUp (firstIx_mono (num := heatN s) (x := q'.hi) (y := q.hi) n1 o2 (by omega) hi) (by omega)
 have u3 := hS.heatUp (last_first (num := heatN s) (x := q'.lo) (y := q'.hi) n1 (by omega) (by omega) (by omega) hi) (by omega)
 have r3 := hS.heatOk (show firstIx (heatN s) q'.hi s.heats.len 0 < s.heats.len by omega)
 exact ⟨⟨u1.1, u2.2⟩, Int.le_trans u3.1 r3.2.2.1⟩
theorem prod_mono {u v r r' f f' : Int} (hu : 0 ≤ u) (huv : u ≤ v) (hr : 0 ≤ r) (hrr : r ≤ r') (hf : 0 ≤ f) (hff : f ≤ f') : u * r * f ≤ v * r' * f' := by
 have h1 : u * r ≤ v * r' := Int.mul_le_mul huv hrr hr (by omega)
 exact Int.mul_le_mul h1 hff hf (Int.mul_nonneg (by omega) (by omega))
theorem shrink_mono {u v r r' f f' k k' : Int} (hu : 0 ≤ u) (huv : u ≤ v) (hr : 0 ≤ r) (hrr : r ≤ r') (hf : 0 ≤ f) (hff : f ≤ f') (hk : k ≤ k') : shrink u r f k ≤ shrink v r' f' k' := by
 have h := prod_mono hu huv hr hrr hf hff
 have h2 : (u * r * f + k) / 1000000000 ≤ (v * r' * f' + k') / 1000000000 := Int.ediv_le_ediv (by omega) (by omega)
 unfold shrink minI
 split <;> split <;> omega
theorem shrink_rest {u v r f k : Int} (huv : u ≤ v) (hr : 0 ≤ r ∧ r ≤ 100000) (hf : 0 ≤ f ∧ f ≤ 10000) : u - shrink u r f k ≤ v - shrink v r f k := by
 have h2 := mulB hr hf
 have h3 : (v - u) * (r * f) ≤ (v - u) * 1000000000 := Int.mul_le_mul_of_nonneg_left (by omega) (by omega)
 have h4 : v * r * f = u * r * f + (v - u) * (r * f) := by rw [Int.mul_assoc, Int.mul_assoc, ← Int.add_mul]; congr 1; omega
 have h5 : (v * r * f + k) / 1000000000 ≤ (u * r * f + k) / 1000000000 + (v - u) := by omega
 unfold shrink minI
 split <;> split <;> omega
theorem move1xok (hS : SiteF s) {c : Cav} {x : Stt} {p q : Span} (hx : SttOk x) (hp : p.lo ≤ p.hi) (hq : q.lo ≤ q.hi) (hf : farB s c p q = false) : SttOk (move1 s c x p q) := by
 obtain ⟨k1, k2, k3, k4, k5, k6⟩ := rates_ok hS hf
 obtain ⟨r1, r2, r3, r4⟩ := rate_sub hS hf (show Sub p p from ⟨Int.le_refl _, Int.le_refl _⟩) hp
 obtain ⟨g1, g2⟩ := factor_sub hS hf (show Sub q q from ⟨Int.le_refl _, Int.le_refl _⟩) hq
 have b1 := @shrink_ok x.vol.lo (rateOf s c p).hi (factorOf s q).hi 999999999 (by omega) k2 k6 (by omega)
 have b2 := @shrink_ok x.vol.hi (rateOf s c p).lo (factorOf s q).lo 0 (by omega) k1 k5 (by omega)
 have b3 := @shrink_ok x.vol.lo (rateOf s c p).lo (factorOf s q).lo 0 (by omega) k1 k5 (by omega)
 have b4 := @shrink_ok x.vol.hi (rateOf s c p).hi (factorOf s q).hi 999999999 (by omega) k2 k6 (by omega)
 have a1 := @shrink_mono x.vol.lo x.vol.lo (rateOf s c p).lo (rateOf s c p).hi (factorOf s q).lo (factorOf s q).hi 0 999999999 (by omega) (by omega) (by omega) (by omega) (by omega) (by omega) (by omega)
 have a2 := @shrink_rest x.vol.lo x.vol.hi (rateOf s c p).lo (factorOf s q).lo 0 (by omega) k1 k5
 have a3 := @shrink_mono x.vol.lo x.vol.hi (rateOf s c p).lo (rateOf s c p).hi (factorOf s q).lo (factorOf s q).hi 0 999999999 (by omega) (by omega) (by omega) (by omega) (by omega) (by omega) (by omega)
 refine ⟨⟨?_, ?_, ?_⟩, ⟨?_, ?_, ?_⟩, ?_, ?_, ?_⟩
 ·show 0 ≤ minI _ 400000; unfold minI; split <;> omega
 ·show minI _ 400000 ≤ minI _ 400000; unfold minI; split <;> split <;> omega
 ·show minI _ 400000 ≤ 400000; unfold minI; split <;> omega
 ·show 0 ≤ x.vol.lo - _; omega
 ·show x.vol.lo - _ ≤ x.vol.hi - _; omega
 ·show x.vol.hi - _ ≤ 10000000; omega
 ·show 0 ≤ minI _ 1000000000; unfold minI; split <;> omega
 ·show minI _ 1000000000 ≤ minI _ 1000000000; unfold minI; split <;> split <;> omega
 ·show minI _ 1000000000 ≤ 1000000000; unfold minI; split <;> omega
end Go.Sim.Cr


namespace Go.Sim.Cr
open Go.Proofs
variable (F d : Nat)
abbrev ShortD (l : Sl Day) : Prop := ∀ i, i < l.len → (l.el i).press.len ≤ 10 ∧ (l.el i).warm.len ≤ 10
theorem s64 (s : Site) (y : Day) (h : y.press.len ≤ 10 ∧ y.warm.len ≤ 10) (hF : 10 < F) : (E F (d + 7)).pf 46 [.agg (eDay y), pSite s] = some (.ret (.bool (!decide (DayOk s y)))) := by
  rw [E_pf, t64]
  simp only [s50 F d s y (show y.press.len < 4611686018427387904 by omega) (show y.warm.len < 4611686018427387904 by omega) (by omega) (by omega), tkOut_ret, tkBool_b]
theorem l95 (s : Site) (l : Sl Day) (hl : ShortD l) (hB : l.len < Big) (hF : 10 < F) : ∀ n i fu, l.len = i + n → n < fu →
    L95x0 (E F (d + 7)) F s l fu (i : Int) = some (.ret (.int .i64 (ixF (fun j => !decide (DayOk s (l.el j))) n i))) := by
  intro n
  induction n with
  | zero =>
    intro i fu h hf
    obtain ⟨fu, rfl⟩ : ∃ k, fu = k + 1 := ⟨fu - 1, by omega⟩
    rw [L95x0s]
    simp only [Int.ofNat_lt, show ¬ i < l.len by omega, decide_false, cond_false, ixF]
  | succ n ih =>
    intro i fu h hf
    obtain ⟨fu, rfl⟩ : ∃ k, fu = k + 1 := ⟨fu - 1, by omega⟩
    rw [L95x0s]
    simp only [Int.ofNat_lt, show i < l.len by omega, decide_true, cond_true, Int.natCast_nonneg, Int.toNat_natCast, s64 F d s (l.el i) (hl i (by omega)) hF, tkOut_ret, tkBool_b, ixF, wrS (show i < Big by omega), ih (i + 1) fu (by omega) (by omega)]
    cases (!decide (DayOk s (l.el i))) <;> rfl
abbrev DaysOk (s : Site) (l : Sl Day) : Prop := ∀ i, i < l.len → DayOk s (l.el i)
theorem s63 (s : Site) (l : Sl Day) (hl : ShortD l) (hB : l.len < Big) (hF : 10 < F) (hlF : l.len < F) : (E F (d + 9)).pf 45 [sl eDay 2 l, .fn (.func 46) [] [pSite s]] = some (.ret (.bool (!decide (DaysOk s l)))) := by
  rw [E_pf, t63, E_pf, t95, show L95x0 (E F (d + 7)) F s l F 0 = _ from l95 F d s l hl hB hF l.len 0 F (by omega) hlF]
  simp only [tkOut_ret, tkInt_i, decide_true, cond_true, ge_iff_le]
  refine b3 (Bool.not_inj ?_)
  rw [Bool.not_not]
  exact (ge0 _ _).trans (by simp only [Bool.not_eq_false', decide_eq_true_iff])
abbrev fineF : Fault := ⟨0, 1, 0, 0⟩
abbrev rowB_ (b : Option (Sl Span)) : V := match b with | some b => sl eSpan 2 b | none => noneRow
def nlB : Option (Sl Span) → Bool
  | some b => b.nl
  | none => true
def lenB : Option (Sl Span) → Nat
  | some b => b.len
  | none => 0
def wdB : Option (Sl Span) → Nat
  | some _ => 2
  | none => 0
def getB : Option (Sl Span) → Nat → List V
  | some b => fun i => eSpan (b.el i)
  | none => fun _ => []
theorem rowB_eq (b : Option (Sl Span)) : rowB_ b = .row (nlB b) (lenB b) (wdB b) (getB b) := by cases b <;> rfl
abbrev rowC_ (m : Option (Sl Stt)) : V := match m with | some m => sl eStt 6 m | none => noneRow
def fastMs (s : Site) (y : Day) : Option (Sl Span) → List Mark
  | some b => (List.range' 0 s.cavs.len).map (fastM s y b)
  | none => []
def smallMs (s : Site) : Option (Sl Stt) → List Mark
  | some m => (List.range' 0 s.cavs.len).map (smallM s m)
  | none => []
noncomputable def thinMs (s : Site) : Option (Sl Stt) → List Mark
  | some m => pairsM s m s.cavs.len 0
  | none => []
def sunkMs (s : Site) : Option (Sl Stt) → List Mark
  | some m => (List.range' 0 s.houses.len).map (sunkM s m)
  | none => []
noncomputable def marksOf (s : Site) (y : Day) (b : Option (Sl Span)) (m : Option (Sl Stt)) : List (Int × List Mark) :=
  [(2, (List.range' 0 s.cavs.len).map (outM s y)), (3, (List.range' 0 s.cavs.len).map (gateM s y)), (4, fastMs s y b),
   (5, smallMs s m), (6, thinMs s m), (7, sunkMs s m)]
theorem pairs_len (s : Site) (m : Sl Stt) : ∀ k i, k ≤ 5 → (pairsM s m k i).length ≤ 10 * k := by
  intro k
  induction k with
  | zero => intro i _; exact Nat.le_refl _
  | succ k ih =>
    intro i hk
    have := ih (i + 1) (by omega)
    rw [pairsM, List.length_append, List.length_map, List.length_range']
    omega
theorem s65 (s : Site) (y : Day) (b : Option (Sl Span)) (m : Option (Sl Stt)) (n : Int) (hS : SiteF s) (hD : DayOk s y) (hb : ∀ x, b = some x → x.len = s.cavs.len ∧ ∀ i, i < x.len → SpanIn (x.el i) 0 50000) (hm : ∀ x, m = some x → StatesOk s x ∧ x.nl = false) (hF : 67108864 < F) :
    (E F (d + 7)).pf 35 [pTod s y (rowB_ b) (rowC_ m), .int .i64 n, .fn (.func 48) [] []] = some (.ret (eFaultB (faultR n Mark.possible (marksOf s y b m)))) ∧
    (E F (d + 7)).pf 35 [pTod s y (rowB_ b) (rowC_ m), .int .i64 n, .fn (.func 49) [] []] = some (.ret (eFaultB (faultR n Mark.certain (marksOf s y b m)))) := by
  have h1 := hS.cavs1
  have h5 := hS.cavs5
  have h6 := hS.houses5
  have hp := hD.1.1
  have r0 := s96 F (d + 5) s y (rowB_ b) (rowC_ m) hS hD (by omega)
  have r1 := s97 F (d + 5) s y (rowB_ b) (rowC_ m) h1 h5 hp (by omega)
  have r2 : (E F (d + 6)).pf 70 [pTod s y (rowB_ b) (rowC_ m)] = some (.ret (rowM (fastMs s y b))) := by
    cases b with
    | none => exact s98n F (d + 5) s y (rowC_ m) (by omega)
    | some x => exact s98 F (d + 5) s y x (rowC_ m) h1 h5 hD (hb x rfl).1 (hb x rfl).2 (by omega)
  have r3 : (E F (d + 6)).pf 71 [pTod s y (rowB_ b) (rowC_ m)] = some (.ret (rowM (smallMs s m))) := by
    cases m with
    | none => exact s99n F (d + 5) s y (rowB_ b) (by omega)
    | some x => exact s99 F (d + 5) s y x (rowB_ b) h1 h5 (hm x rfl).1.1 (by omega)
  have r4 : (E F (d + 6)).pf 72 [pTod s y (rowB_ b) (rowC_ m)] = some (.ret (rowM (thinMs s m))) := by
    cases m with
    | none => exact s100n F (d + 5) s y (rowB_ b)
    | some x => exact s100 F (d + 1) s y x (rowB_ b) hS (hm x rfl).1 (hm x rfl).2 hF
  have r5 : (E F (d + 6)).pf 73 [pTod s y (rowB_ b) (rowC_ m)] = some (.ret (rowM (sunkMs s m))) := by
    cases m with
    | none => exact s101n F (d + 5) s y (rowB_ b)
    | some x => exact s101 F (d + 3) s y x (rowB_ b) hS (hm x rfl).1 (hm x rfl).2 (by omega)
  have q0 : ((List.range' 0 s.cavs.len).map (outM s y)).length ≤ 100 := by simp; omega
  have q1 : ((List.range' 0 s.cavs.len).map (gateM s y)).length ≤ 100 := by simp; omega
  have q2 : (fastMs s y b).length ≤ 100 := by cases b <;> simp [fastMs]; omega
  have q3 : (smallMs s m).length ≤ 100 := by cases m <;> simp [smallMs]; omega
  have q4 : (thinMs s m).length ≤ 100 := by
    cases m with
    | none => simp [thinMs]
    | some x => have := pairs_len s x s.cavs.len 0 h5; show (pairsM s x s.cavs.len 0).length ≤ 100; omega
  have q5 : (sunkMs s m).length ≤ 100 := by cases m <;> simp [sunkMs]; omega
  exact ⟨s65a F (d + 4) s y _ _ n _ _ _ _ _ _ q0 q1 q2 q3 q4 q5 (by omega) r0 r1 r2 r3 r4 r5, s65b F (d + 4) s y _ _ n _ _ _ _ _ _ q0 q1 q2 q3 q4 q5 (by omega) r0 r1 r2 r3 r4 r5⟩
noncomputable def faultsFrom (s : Site) (l : Sl Day) : Nat → Nat → Option (Sl Span) → Sl Stt → Bool → Fault → Fault → Fault × Fault
  | 0, _, _, _, _, may, sure => (may, sure)
  | n + 1, i, b, now, found, may, sure =>
    let y := l.el i
    let mk := marksOf s y b (bif farDay s y then none else some (moved s now y))
    let may' := bif found then may else (faultR i Mark.possible mk).getD fineF
    bif farDay s y then (may', sure) else
      match faultR i Mark.certain mk with
      | some f => (may', f)
      | none => faultsFrom s l n (i + 1) (some y.press) (moved s now y) (found || (faultR i Mark.possible mk).isSome) may' fineF
noncomputable def faults (s : Site) (l : Sl Day) : Fault × Fault := faultsFrom s l l.len 0 none (begin s) false fineF fineF
theorem moved_ok {s : Site} {l : Sl Stt} {y : Day} (hS : SiteF s) (hL : StatesOk s l) (hD : DayOk s y) (hf : farDay s y = false) : StatesOk s (moved s l y) := by
  have hl := hL.1
  refine ⟨hl, fun i hi => ?_⟩
  have hi' : i < l.len := hi
  rw [show (moved s l y).el i = mv s l y i from outL_el hi']
  have hp := hD.1.2 i (by have := hD.1.1; omega)
  have hw := hD.2.2 i (by have := hD.2.1; omega)
  refine move1xok hS (hL.2 i hi') hp.2.1 hw.2.1 ?_
  cases hx : farB s (s.cavs.el i) (y.press.el i) (y.warm.el i) with
  | false => rfl
  | true =>
    have : farDay s y = true := (anyF_eq _ _ _).2 ⟨i, Nat.zero_le _, by omega, hx⟩
    rw [this] at hf; cases hf
theorem begin_ok {s : Site} (hS : SiteF s) : StatesOk s (begin s) := by
  refine ⟨rfl, fun i hi => ?_⟩
  have hi' : i < s.cavs.len := hi
  rw [show (begin s).el i = start (s.cavs.el i) from outL_el hi']
  have := hS.cav i hi'
  refine ⟨⟨?_, ?_, ?_⟩, ⟨?_, ?_, ?_⟩, ?_, ?_, ?_⟩ <;> simp only [start] <;> omega
theorem l30 (s : Site) (l : Sl Day) (hS : SiteF s) (hD : DaysOk s l) (hB : l.len < Big) (hF : 67108864 < F) : ∀ n i fu (b : Option (Sl Span)) (now : Sl Stt) (found : Bool) (may sure : Fault), l.len = i + n → n < fu →
    (∀ x, b = some x → x.len = s.cavs.len ∧ ∀ i, i < x.len → SpanIn (x.el i) 0 50000) → StatesOk s now →
    L30x0 (E F (d + 7)) F s l fu (nlB b) (lenB b) (wdB b) (getB b)
      now.nl now.len 6 (fun i => eStt (now.el i)) found (i : Int) .i64 may.day .i64 may.rule .i64 may.of .i64 may.wth .i64 sure.day .i64 sure.rule .i64 sure.of .i64 sure.wth =
    some (.ret (.tup [.agg (eFault (faultsFrom s l n i b now found may sure).1), .agg (eFault (faultsFrom s l n i b now found may sure).2), .int .i64 0])) := by
  intro n
  induction n with
  | zero =>
    intro i fu b now found may sure h hf hb hn
    obtain ⟨fu, rfl⟩ : ∃ k, fu = k + 1 := ⟨fu - 1, by omega⟩
    rw [L30x0s]
    simp only [Int.ofNat_lt, show ¬ i < l.len by omega, decide_false, cond_false, faultsFrom]
  | succ n ih =>
    intro i fu b now found may sure h hf hb hn
    obtain ⟨fu, rfl⟩ : ∃ k, fu = k + 1 := ⟨fu - 1, by omega⟩
    rw [L30x0s]
    have hy := hD i (by omega)
    have e51 := s51 F d s now (l.el i) hS hn hy (by omega)
    simp only [Int.ofNat_lt, show i < l.len by omega, decide_true, cond_true, Int.natCast_nonneg, Int.toNat_natCast, e51, tkOut_ret, wrS (show i < Big by omega), moveR, faultsFrom]
    cases hfd : farDay s (l.el i) with
    | true =>
      obtain ⟨p1, p2⟩ := s65 F d s (l.el i) b none (i : Int) hS hy hb (by intro x hx; cases hx) hF
      rw [rowB_eq] at p1 p2
      simp only [cond_true, tkTup_t, tkCons_c, tkRow_r, tkBool_b, tkNil_n, Bool.not_false]
      cases found with
      | true => simp only [Bool.not_true, cond_false, cond_true]
      | false =>
        simp only [Bool.not_false, cond_false, cond_true, p1, tkOut_ret]
        cases faultR (i : Int) Mark.possible (marksOf s (l.el i) b none) <;> simp only [tkTup_t, tkCons_c, tkAgg_a, tkInt_i, tkBool_b, tkNil_n, Option.getD]
    | false =>
      have hmv := moved_ok hS hn hy hfd
      obtain ⟨p1, p2⟩ := s65 F d s (l.el i) b (some (moved s now (l.el i))) (i : Int) hS hy hb (by intro x hx; cases hx; exact ⟨hmv, rfl⟩) hF
      rw [rowB_eq] at p1 p2
      have nx := fun may sure fd => ih (i + 1) fu (some (l.el i).press) (moved s now (l.el i)) fd may sure (by omega) (by omega) (by intro x hx; cases hx; exact hy.1) hmv
      simp only [cond_false, tkTup_t, tkCons_c, tkRow_r, tkBool_b, tkNil_n, Bool.not_true]
      cases found with
      | true =>
        simp only [Bool.not_true, cond_false, cond_true, p2, tkOut_ret, Bool.true_or]
        cases faultR (i : Int) Mark.certain (marksOf s (l.el i) b (some (moved s now (l.el i)))) with
        | some f => simp only [tkTup_t, tkCons_c, tkAgg_a, tkInt_i, tkBool_b, tkNil_n, cond_true]
        | none =>
          simp only [tkTup_t, tkCons_c, tkAgg_a, tkInt_i, tkBool_b, tkNil_n, cond_false]
          exact nx may fineF true
      | false =>
        simp only [Bool.not_false, cond_false, cond_true, p1, tkOut_ret, Bool.false_or]
        cases faultR (i : Int) Mark.possible (marksOf s (l.el i) b (some (moved s now (l.el i)))) with
        | some g =>
          simp only [tkTup_t, tkCons_c, tkAgg_a, tkInt_i, tkBool_b, tkNil_n, Option.getD, Option.isSome, p2, tkOut_ret]
          cases faultR (i : Int) Mark.certain (marksOf s (l.el i) b (some (moved s now (l.el i)))) with
          | some f => simp only [tkTup_t, tkCons_c, tkAgg_a, tkInt_i, tkBool_b, tkNil_n, cond_true]
          | none =>
            simp only [tkTup_t, tkCons_c, tkAgg_a, tkInt_i, tkBool_b, tkNil_n, cond_false]
            exact nx g fineF true
        | none =>
          simp only [tkTup_t, tkCons_c, tkAgg_a, tkInt_i, tkBool_b, tkNil_n, Option.getD, Option.isSome, p2, tkOut_ret]
          cases faultR (i : Int) Mark.certain (marksOf s (l.el i) b (some (moved s now (l.el i)))) with
          | some f => simp only [tkTup_t, tkCons_c, tkAgg_a, tkInt_i, tkBool_b, tkNil_n, cond_true]
          | none =>
            simp only [tkTup_t, tkCons_c, tkAgg_a, tkInt_i, tkBool_b, tkNil_n, cond_false]
            exact nx fineF fineF false
end Go.Sim.Cr


namespace Go.Sim.Cr
open Go.Proofs
variable (F d : Nat)
theorem s30 (s : Site) (l : Sl Day) (hs : Small s F) (hl : ShortD l) (hB : l.len < Big) (hlF : l.len < F) (hF : 67108864 < F) :
  (E F (d + 10)).pf 14 [.agg (eSite s), sl eDay 2 l] = some (.ret (bif decide (60 < l.len) then .tup [.agg (eFault ⟨0, 0, 0, 0⟩), .agg (eFault ⟨0, 0, 0, 0⟩), .int .i64 3]
   else bif siteB s && decide (DaysOk s l) then .tup [.agg (eFault (faults s l).1), .agg (eFault (faults s l).2), .int .i64 0] else .tup [.agg (eFault ⟨0, 0, 0, 0⟩), .agg (eFault ⟨0, 0, 0, 0⟩), .int .i64 2])) := by
 rw [E_pf, t30]
 have e0 : decide ((l.len : Int) > 60) = decide (60 < l.len) := by apply b2; simp only [decide_eq_true_iff]; omega
 rw [e0]
 cases h0 : decide (60 < l.len) with
 | true => rfl
 | false =>
  simp only [cond_false, s48 F (d + 3) s hs, tkOut_ret, tkBool_b, s63 F d s l hl hB (by omega) hlF]
  cases h1 : siteB s with
  | false => rfl
  | true =>
   by_cases h2 : DaysOk s l
   ·have hS := (siteB_iff s).1 h1
    simp only [decide_eq_true h2, Bool.not_true, cond_false, Bool.and_self, cond_true, s57 F (d + 8) s hS.cavs1 hS.cavs5 (by omega), tkOut_ret, tkRow_r]
    have g := l30 F (d + 2) s l hS h2 hB hF l.len 0 F none (begin s) false fineF fineF (by omega) hlF (by intro x hx; cases hx) (begin_ok hS)
    exact g
   ·simp only [decide_eq_false h2, Bool.not_false, Bool.not_true, cond_false, cond_true, Bool.and_false]
noncomputable abbrev thickOf (s : Site) (i j : Nat) (p q : Span) : List V := [.int .i64 (distI (s.cavs.el i) (s.cavs.el j) - p.hi - q.hi), .int .i64 (distI (s.cavs.el i) (s.cavs.el j) - p.lo - q.lo)]
theorem inLen {n : Nat} (hn : 1 ≤ n) (i : Int) : decide (0 ≤ i ∧ i ≤ ((n - 1 : Nat) : Int)) = decide (0 ≤ i ∧ i < (n : Int)) := by
 apply b2; simp only [decide_eq_true_iff]; omega
theorem s37 (s : Site) (i j : Int) (hs : Small s F) (hF : 67108864 < F) : (E F (d + 7)).pf 21 [.agg (eSite s), .int .i64 i, .int .i64 j] =
  some (.ret (bif siteB s && (decide (0 ≤ i ∧ i < (s.cavs.len : Int)) && (decide (0 ≤ j ∧ j < (s.cavs.len : Int)) && !decide (i = j))) then .tup [.agg (thickOf s i.toNat j.toNat (s.cavs.el i.toNat).rad (s.cavs.el j.toNat).rad), .int .i64 0] else .tup [.agg (eSpan zSpan), .int .i64 2])) := by
 rw [E_pf, t37]
 simp only [s48 F d s hs, tkOut_ret, tkBool_b, s72]
 cases h1 : siteB s with
 | false => rfl
 | true =>
  have hS := (siteB_iff s).1 h1
  have h5 := hS.cavs5
  rw [wrLen hS.cavs1 (by omega), inLen hS.cavs1, inLen hS.cavs1]
  by_cases h2 : 0 ≤ i ∧ i < (s.cavs.len : Int)
  ·by_cases h3 : 0 ≤ j ∧ j < (s.cavs.len : Int)
   ·by_cases h4 : i = j
    ·simp only [decide_eq_true h2, decide_eq_true h3, decide_eq_true h4, beqI, Bool.not_true, cond_false, cond_true, Bool.and_false]
    ·obtain ⟨i, rfl⟩ := Int.eq_ofNat_of_zero_le h2.1
     obtain ⟨j, rfl⟩ := Int.eq_ofNat_of_zero_le h3.1
     have c1 := hS.cav i (by omega)
     have c2 := hS.cav j (by omega)
     simp only [decide_eq_true h2, decide_eq_true h3, decide_eq_false h4, beqI, Bool.not_true, Bool.not_false, cond_false, cond_true, Bool.and_self, decide_eq_true h2.1, decide_eq_true h2.2, decide_eq_true h3.1, decide_eq_true h3.2, Int.toNat_natCast,
      s73 F (d + 2) s i j (s.cavs.el i).rad.hi (s.cavs.el j).rad.hi (by omega) (by omega) c1.1 c2.1 (by omega) (by omega) hF, s73 F (d + 2) s i j (s.cavs.el i).rad.lo (s.cavs.el j).rad.lo (by omega) (by omega) c1.1 c2.1 (by omega) (by omega) hF, tkOut_ret, tkInt_i]
   ·simp only [decide_eq_true h2, decide_eq_false h3, Bool.not_true, Bool.not_false, cond_false, cond_true, Bool.and_false, Bool.false_and]
  ·simp only [decide_eq_false h2, Bool.not_true, Bool.not_false, cond_false, cond_true, Bool.and_false, Bool.false_and]
noncomputable def nearB (s : Site) (c : Nat) (x : Stt) (j : Nat) : Bool := !decide (j = c) && decide (distI (s.cavs.el c) (s.cavs.el j) - x.rad.hi - (s.cavs.el j).rad.hi < s.wall)
noncomputable def keepFrom (s : Site) (c : Nat) (p q : Span) : Nat → Nat → Stt → Nat
 | 0, k, _ => k
 | n + 1, k, x => bif farB s (s.cavs.el c) p q then k else bif decide ((move1 s (s.cavs.el c) x p q).vol.lo < (s.cavs.el c).floor) then k else
   bif anyF (nearB s c (move1 s (s.cavs.el c) x p q)) s.cavs.len 0 then k else keepFrom s c p q n (k + 1) (move1 s (s.cavs.el c) x p q)
noncomputable def keeps (s : Site) (c : Nat) (p q : Span) (n : Nat) : Nat :=
 bif decide (p.lo < (s.cavs.el c).gate.lo) || decide (p.hi > (s.cavs.el c).gate.hi) then 0 else keepFrom s c p q n 0 (start (s.cavs.el c))
theorem l75x1 (s : Site) (c : Nat) (p q : Span) (n : Int) (hS : SiteF s) (hc : c < s.cavs.len) (x : Stt) (hx : SttOk x) (hF : 67108864 < F) (m0 k : Nat) (hk : k < 100) (R : Nat)
  (hO : L75x0 (E F (d + 6)) F s (c : Int) p q n m0 ((k + 1 : Nat) : Int) .i64 x.rad.lo .i64 x.rad.hi .i64 x.vol.lo .i64 x.vol.hi .i64 x.lost.lo .i64 x.lost.hi = some (.ret (.int .i64 (R : Int)))) : ∀ r j fu, s.cavs.len = j + r → r < fu →
  L75x1 (E F (d + 6)) F s (c : Int) p q n m0 fu (k : Int) (j : Int) .i64 x.rad.lo .i64 x.rad.hi .i64 x.vol.lo .i64 x.vol.hi .i64 x.lost.lo .i64 x.lost.hi = some (.ret (.int .i64 ((bif anyF (nearB s c x) r j then k else R : Nat) : Int))) := by
 have h5 := hS.cavs5
 intro r
 induction r with
 | zero =>
  intro j fu h hf
  obtain ⟨fu, rfl⟩ : ∃ k, fu = k + 1 := ⟨fu - 1, by omega⟩
  rw [L75x1s]
  simp only [Int.ofNat_lt, show ¬ j < s.cavs.len by omega, decide_false, cond_false, anyF, wrS (show k < 4611686018427387904 by omega)]
  exact hO
 | succ r ih =>
  intro j fu h hf
  obtain ⟨fu, rfl⟩ : ∃ k, fu = k + 1 := ⟨fu - 1, by omega⟩
  rw [L75x1s]
  have a2 := (hS.cav j (by omega)).2.1
  have p1 := (hS.cav c hc).1
  have p2 := (hS.cav j (by omega)).1
  simp only [Int.ofNat_lt, show j < s.cavs.len by omega, decide_true, cond_true, Int.natCast_nonneg, Int.toNat_natCast, bneN, anyF, s73 F (d + 2) s c j x.rad.hi (s.cavs.el j).rad.hi hc (by omega) p1 p2 (by omega) (by omega) hF, tkOut_ret, tkInt_i, wrS (show j < 4611686018427387904 by omega), ih (j + 1) fu (by omega) (by omega), nearB]
  by_cases hjc : j = c
  ·simp only [decide_eq_true hjc, Bool.not_true, cond_false, Bool.false_and, Bool.false_or]
  ·simp only [decide_eq_false hjc, Bool.not_false, cond_true, Bool.true_and]
   cases decide (distI (s.cavs.el c) (s.cavs.el j) - x.rad.hi - (s.cavs.el j).rad.hi < s.wall) <;> simp only [cond_true, cond_false, Bool.true_or, Bool.false_or]
theorem l75x0 (s : Site) (c : Nat) (p q : Span) (N : Nat) (hN : N ≤ 60) (hS : SiteF s) (hc : c < s.cavs.len) (hp : SpanIn p 0 50000) (hq : SpanIn q 0 10000) (hF : 67108864 < F) : ∀ r k fu x, N = k + r → r < fu → SttOk x →
  L75x0 (E F (d + 6)) F s (c : Int) p q (N : Int) fu (k : Int) .i64 x.rad.lo .i64 x.rad.hi .i64 x.vol.lo .i64 x.vol.hi .i64 x.lost.lo .i64 x.lost.hi = some (.ret (.int .i64 ((keepFrom s c p q r k x : Nat) : Int))) := by
 have h5 := hS.cavs5
 intro r
 induction r with
 | zero =>
  intro k fu x h hf hx
  obtain ⟨fu, rfl⟩ : ∃ k, fu = k + 1 := ⟨fu - 1, by omega⟩
  rw [L75x0s]
  simp only [Int.ofNat_lt, show ¬ k < N by omega, decide_false, cond_false, keepFrom]
 | succ r ih =>
  intro k fu x h hf hx
  obtain ⟨fu, rfl⟩ : ∃ k, fu = k + 1 := ⟨fu - 1, by omega⟩
  rw [L75x0s]
  obtain ⟨g1, g2⟩ := s91 F d s c x p q hS hc hx hp (by omega)
  simp only [Int.ofNat_lt, show k < N by omega, decide_true, cond_true, keepFrom]
  cases hf1 : farB s (s.cavs.el c) p q with
  | true =>
   obtain ⟨m, e⟩ := g2 hf1
   rw [e]
   simp only [tkOut_pan, tkIfc_i, cond_true]
   rfl
  | false =>
   rw [g1 hf1]
   simp only [tkOut_ret, tkAgg_a, tkCons_c, tkInt_i, tkNil_n, decide_true, cond_true, cond_false, Int.toNat_natCast]
   have hm := move1xok hS hx hp.2.1 hq.2.1 hf1
   cases decide ((move1 s (s.cavs.el c) x p q).vol.lo < (s.cavs.el c).floor) with
   | true => simp only [cond_true]
   | false =>
    simp only [cond_false]
    exact l75x1 F d s c p q N hS hc (move1 s (s.cavs.el c) x p q) hm hF fu k (by omega) (keepFrom s c p q r (k + 1) (move1 s (s.cavs.el c) x p q)) (ih (k + 1) fu (move1 s (s.cavs.el c) x p q) (by omega) (by omega) hm) s.cavs.len 0 F (by omega) (by omega)
theorem start_ok {s : Site} (hS : SiteF s) {c : Nat} (hc : c < s.cavs.len) : SttOk (start (s.cavs.el c)) := by
 have := hS.cav c hc
 refine ⟨⟨?_, ?_, ?_⟩, ⟨?_, ?_, ?_⟩, ?_, ?_, ?_⟩ <;> simp only [start] <;> omega
theorem s75 (s : Site) (c : Nat) (p q : Span) (N : Nat) (hN : N ≤ 60) (hS : SiteF s) (hc : c < s.cavs.len) (hp : SpanIn p 0 50000) (hq : SpanIn q 0 10000) (hF : 67108864 < F) :
  (E F (d + 7)).pf 55 [pSite s, .int .i64 (c : Int), .agg (eSpan p), .agg (eSpan q), .int .i64 (N : Int)] = some (.ret (.int .i64 ((keeps s c p q N : Nat) : Int))) := by
 rw [E_pf, t75]
 unfold keeps
 simp only [Int.natCast_nonneg, Int.ofNat_lt, hc, decide_true, cond_true, Int.toNat_natCast, s57 F (d + 5) s hS.cavs1 hS.cavs5 (by omega), tkOut_ret, tkRow_r, outL_len]
 cases decide (p.lo < (s.cavs.el c).gate.lo) with
 | true => rfl
 | false =>
  simp only [cond_false, Bool.false_or]
  cases decide (p.hi > (s.cavs.el c).gate.hi) with
  | true => rfl
  | false =>
   simp only [cond_false, beq_self_eq_true, List.take, List.length, cond_true, tkCons_c, tkInt_i, tkNil_n, outL_el (T := fun i => start (s.cavs.el i)) hc]
   exact l75x0 F d s c p q N hN hS hc hp hq hF N 0 F (start (s.cavs.el c)) (by omega) (by omega) (start_ok hS hc)
theorem s41 (s : Site) (c : Int) (p q : Span) (hs : Small s F) (hF : 67108864 < F) : (E F (d + 8)).pf 23 [.agg (eSite s), .int .i64 c, .agg (eSpan p), .agg (eSpan q)] =
  some (.ret (bif siteB s && (decide (0 ≤ c ∧ c < (s.cavs.len : Int)) && (decide (SpanIn p 0 50000) && decide (SpanIn q 0 10000))) then .tup [.int .i64 ((keeps s c.toNat p q 60 : Nat) : Int), .int .i64 0] else .tup [.int .i64 0, .int .i64 2])) := by
 rw [E_pf, t41]
 simp only [s48 F (d + 1) s hs, tkOut_ret, tkBool_b, s72, s74]
 cases h1 : siteB s with
 | false => rfl
 | true =>
  have hS := (siteB_iff s).1 h1
  have h5 := hS.cavs5
  rw [wrLen hS.cavs1 (by omega), inLen hS.cavs1]
  by_cases h2 : 0 ≤ c ∧ c < (s.cavs.len : Int)
  ·by_cases h3 : SpanIn p 0 50000
   ·by_cases h4 : SpanIn q 0 10000
    ·obtain ⟨c, rfl⟩ := Int.eq_ofNat_of_zero_le h2.1
     have e : (E F (d + 7)).pf 55 [pSite s, .int .i64 (c : Int), .agg (eSpan p), .agg (eSpan q), .int .i64 60] = _ := s75 F d s c p q 60 (by omega) hS (by omega) h3 h4 hF
     simp only [decide_eq_true h2, decide_eq_true h3, decide_eq_true h4, Bool.not_true, cond_false, cond_true, Bool.and_self, e, tkOut_ret, tkInt_i, Int.toNat_natCast]
    ·simp only [decide_eq_true h2, decide_eq_true h3, decide_eq_false h4, Bool.not_true, Bool.not_false, cond_false, cond_true, Bool.and_false]
   ·simp only [decide_eq_true h2, decide_eq_false h3, Bool.not_true, Bool.not_false, cond_false, cond_true, Bool.and_false, Bool.false_and]
  ·simp only [decide_eq_false h2, Bool.not_true, Bool.not_false, cond_false, cond_true, Bool.and_false, Bool.false_and]
end Go.Sim.Cr


namespace Go.Sim.Cr
open Go.Proofs
variable (F d : Nat)
def lst {α : Type} (z : α) (l : List α) : Sl α := ⟨false, l.length, fun i => l.getD (min i (l.length - 1)) z⟩
def gate0 : Span := ⟨6000, 16000⟩
def cavA : Cav := ⟨0, 0, ⟨30000, 31000⟩, ⟨400000, 410000⟩, 20000, 399800, gate0, 3000⟩
def cavZ : Cav := ⟨100, 0, ⟨30000, 30500⟩, ⟨300000, 300000⟩, 20000, 290000, gate0, 3000⟩
def row0 : Row := ⟨0, ⟨0, 10⟩, ⟨0, 0⟩⟩
def heat0 : Heat := ⟨3000, ⟨1000, 1000⟩⟩
def ring0 : Ring := ⟨50, ⟨900, 1000⟩⟩
def site0 : Site where
 cavs := lst cavA [cavA, cavZ]
 rows := lst row0 [row0, ⟨8000, ⟨20, 50⟩, ⟨0, 5⟩⟩, ⟨14000, ⟨100, 200⟩, ⟨10, 30⟩⟩]
 heats := lst heat0 [heat0, ⟨3200, ⟨1000, 1200⟩⟩]
 wall := 38440
 rings := lst ring0 [ring0, ⟨150, ⟨100, 200⟩⟩]
 houses := ⟨false, 1, fun _ => ⟨40, 0, 1⟩⟩
def day0 : Day := ⟨lst zSpan [⟨10000, 12000⟩, ⟨15000, 15000⟩], lst zSpan [⟨3100, 3100⟩, ⟨3100, 3100⟩]⟩
theorem lst_eq {α : Type} (e : α → List V) (wd : Nat) (z : α) (l : List α) (cs : List V) (n : Nat) (hn : l.length = n + 1) (h : ∀ k, k ≤ n → (cs.drop (k * wd)).take wd = e (l.getD k z)) :
  V.row false (n + 1) wd (fun u => (cs.drop (min u n * wd)).take wd) = sl e wd (lst z l) := by
 show V.row false (n + 1) wd _ = V.row false l.length wd fun i => e (l.getD (min i (l.length - 1)) z)
 rw [hn]
 congr 1
 funext u
 rw [h _ (Nat.min_le_right _ _)]
 rfl
theorem s46 : (E F (d + 1)).pf 18 [] = some (.ret (.agg (eSite site0))) := by
 rw [E_pf, t46]
 have e1 := lst_eq eCav 11 cavA [cavA, cavZ] (eCav cavA ++ eCav cavZ) 1 rfl (by intro k hk; match k, hk with | 0, _ => rfl | 1, _ => rfl)
 have e2 := lst_eq eRow 5 row0 [row0, ⟨8000, ⟨20, 50⟩, ⟨0, 5⟩⟩, ⟨14000, ⟨100, 200⟩, ⟨10, 30⟩⟩] (eRow row0 ++ eRow ⟨8000, ⟨20, 50⟩, ⟨0, 5⟩⟩ ++ eRow ⟨14000, ⟨100, 200⟩, ⟨10, 30⟩⟩) 2 rfl (by intro k hk; match k, hk with | 0, _ => rfl | 1, _ => rfl | 2, _ => rfl)
 have e3 := lst_eq eHeat 3 heat0 [heat0, ⟨3200, ⟨1000, 1200⟩⟩] (eHeat heat0 ++ eHeat ⟨3200, ⟨1000, 1200⟩⟩) 1 rfl (by intro k hk; match k, hk with | 0, _ => rfl | 1, _ => rfl)
 have e4 := lst_eq eRing 3 ring0 [ring0, ⟨150, ⟨100, 200⟩⟩] (eRing ring0 ++ eRing ⟨150, ⟨100, 200⟩⟩) 1 rfl (by intro k hk; match k, hk with | 0, _ => rfl | 1, _ => rfl)
 show _ = some (Out.ret (.agg [sl eCav 11 (lst cavA [cavA, cavZ]), sl eRow 5 (lst row0 [row0, ⟨8000, ⟨20, 50⟩, ⟨0, 5⟩⟩, ⟨14000, ⟨100, 200⟩, ⟨10, 30⟩⟩]), sl eHeat 3 (lst heat0 [heat0, ⟨3200, ⟨1000, 1200⟩⟩]), .int .i64 38440, sl eRing 3 (lst ring0 [ring0, ⟨150, ⟨100, 200⟩⟩]), sl eHouse 3 site0.houses]))
 rw [← e1, ← e2, ← e3, ← e4]
 rfl
theorem s47 : (E F (d + 1)).pf 20 [] = some (.ret (.agg (eDay day0))) := by
 rw [E_pf, t47]
 have e1 := lst_eq eSpan 2 zSpan [⟨10000, 12000⟩, ⟨15000, 15000⟩] (eSpan ⟨10000, 12000⟩ ++ eSpan ⟨15000, 15000⟩) 1 rfl (by intro k hk; match k, hk with | 0, _ => rfl | 1, _ => rfl)
 have e2 := lst_eq eSpan 2 zSpan [⟨3100, 3100⟩, ⟨3100, 3100⟩] (eSpan ⟨3100, 3100⟩ ++ eSpan ⟨3100, 3100⟩) 1 rfl (by intro k hk; match k, hk with | 0, _ => rfl | 1, _ => rfl)
 show _ = some (Out.ret (.agg [sl eSpan 2 (lst zSpan [⟨10000, 12000⟩, ⟨15000, 15000⟩]), sl eSpan 2 (lst zSpan [⟨3100, 3100⟩, ⟨3100, 3100⟩])]))
 rw [← e1, ← e2]
 rfl
theorem site0xb : siteB site0 = true := by decide +kernel
theorem day0xok : DayOk site0 day0 := by decide +kernel
theorem far0 : farDay site0 day0 = false := by decide +kernel
def m0 : Sl Stt := moved site0 (begin site0) day0
theorem m0xat : SameStt (m0.el 0) ⟨⟨30000, 31030⟩, ⟨399904, 409992⟩, ⟨8, 99⟩⟩ := by decide +kernel
theorem dist0 : distI cavA cavZ = 100000 := by decide +kernel
theorem sunk0 : (sunk site0 m0 40 0).lo = 0 ∧ (sunk site0 m0 40 0).hi = 2 := by decide +kernel
theorem states0 : StatesOk site0 m0 := by decide +kernel
abbrev days0 : Sl Day := ⟨false, 1, fun _ => day0⟩
theorem faults0 : faults site0 days0 = (⟨0, 7, 0, 0⟩, ⟨0, 1, 0, 0⟩) := by kernel_rfl
theorem keeps0 : keeps site0 0 ⟨10000, 12000⟩ ⟨3100, 3100⟩ 60 = 2 := by decide +kernel
theorem small0 (hF : 67108864 < F) : Small site0 F := by
 constructor
 ·show 2 < 4611686018427387904; omega
 ·show 3 < 4611686018427387904; omega
 ·show 2 < 4611686018427387904; omega
 ·show 2 < 4611686018427387904; omega
 ·show 1 < 4611686018427387904; omega
 ·show 2 < F; omega
 ·show 3 < F; omega
 ·show 2 < F; omega
 ·show 2 < F; omega
 ·show 1 < F; omega
section
variable {R : Type}
theorem pOut (v : V) (f : R) (k kp : V → R) : tkOut (some (.ret v)) f k kp = k v := Eq.trans (Eq.refl _) (Eq.refl _)
theorem pInt (q : IntKind) (n : Int) (f : R) (k : IntKind → Int → R) : tkInt (.int q n) f k = k q n := Eq.trans (Eq.refl _) (Eq.refl _)
theorem pAgg (l : List V) (f : R) (k : List V → R) : tkAgg (.agg l) f k = k l := Eq.trans (Eq.refl _) (Eq.refl _)
theorem pTup (l : List V) (f : R) (k : List V → R) : tkTup (.tup l) f k = k l := Eq.trans (Eq.refl _) (Eq.refl _)
theorem pRow (a : Bool) (n wd : Nat) (g : Nat → List V) (f : R) (k : Bool → Nat → Nat → (Nat → List V) → R) : tkRow (.row a n wd g) f k = k a n wd g := Eq.trans (Eq.refl _) (Eq.refl _)
theorem pCons (v : V) (l : List V) (f : R) (k : V → List V → R) : tkCons (v :: l) f k = k v l := Eq.trans (Eq.refl _) (Eq.refl _)
theorem pNil (f k : R) : tkNil [] f k = k := Eq.trans (Eq.refl _) (Eq.refl _)
theorem pT {α : Type} (a b : α) : (bif true then a else b) = a := Eq.trans (Eq.refl _) (Eq.refl _)
theorem pF {α : Type} (a b : α) : (bif false then a else b) = b := Eq.trans (Eq.refl _) (Eq.refl _)
end
section
variable (hF : 67108864 < F)
include hF
theorem x24 : (E F (d + 7)).pf 17 [.agg (eSite site0)] = some (.ret (.tup [sl eStt 6 (begin site0), .int .i64 0])) := by
 have e24 := s24 F d site0 (small0 F hF) (by omega)
 rwa [site0xb, cond_true] at e24
theorem hB0 : (begin site0).len < Big := by show 2 < 4611686018427387904; omega
theorem pB0 : day0.press.len < Big := by show 2 < 4611686018427387904; omega
theorem wB0 : day0.warm.len < Big := by show 2 < 4611686018427387904; omega
theorem hF0 : (begin site0).len < F := by show 2 < F; omega
theorem pF0 : day0.press.len < F := by show 2 < F; omega
theorem wF0 : day0.warm.len < F := by show 2 < F; omega
theorem x14 : (E F (d + 8)).pf 19 [.agg (eSite site0), sl eStt 6 (begin site0), .agg (eDay day0)] = some (.ret (.tup [sl eStt 6 m0, .int .i64 0])) := by
 have hstart : StatesOk site0 (begin site0) := begin_ok ((siteB_iff _).1 site0xb)
 have e14 := s14 F d site0 (begin site0) day0 (small0 F hF) (hB0 F hF) (hF0 F hF) (pB0 F hF) (wB0 F hF) (pF0 F hF) (wF0 F hF) (by omega)
 rw [site0xb, decide_eq_true hstart, decide_eq_true day0xok, far0] at e14
 exact e14
theorem x37 : (E F (d + 7)).pf 21 [.agg (eSite site0), .int .i64 0, .int .i64 1] = some (.ret (.tup [.agg [.int .i64 38500, .int .i64 40000], .int .i64 0])) := by
 have h1 : (decide ((0 : Int) ≤ 0 ∧ (0 : Int) < (site0.cavs.len : Int)) && (decide ((0 : Int) ≤ 1 ∧ (1 : Int) < (site0.cavs.len : Int)) && !decide ((0 : Int) = 1))) = true := by decide
 have e37 := s37 F d site0 0 1 (small0 F hF) hF
 rw [site0xb, h1] at e37
 refine e37.trans ?_
 have h2 : thickOf site0 (0 : Int).toNat (1 : Int).toNat (site0.cavs.el (0 : Int).toNat).rad (site0.cavs.el (1 : Int).toNat).rad = [.int .i64 (distI cavA cavZ - 31000 - 30500), .int .i64 (distI cavA cavZ - 30000 - 30000)] := rfl
 rw [h2, dist0]
 rfl
theorem x15 : ∃ p : Span, (p.lo = 0 ∧ p.hi = 2) ∧ (E F (d + 7)).pf 22 [.agg (eSite site0), sl eStt 6 m0, .int .i64 40, .int .i64 0] = some (.ret (.tup [.agg (eSpan p), .int .i64 0])) := by
 have hp : decide (Place 40 0) = true := by decide
 have e15 := s15 F d site0 m0 40 0 (small0 F hF) (show (begin site0).len < Big from hB0 F hF) (show (begin site0).len < F from hF0 F hF) (by omega)
 rw [site0xb, decide_eq_true states0, hp] at e15
 exact ⟨sunk site0 m0 40 0, sunk0, e15⟩
theorem x30 : (E F (d + 10)).pf 14 [.agg (eSite site0), sl eDay 2 days0] = some (.ret (.tup [.agg (eFault ⟨0, 7, 0, 0⟩), .agg (eFault ⟨0, 1, 0, 0⟩), .int .i64 0])) := by
 have h1 : decide (60 < days0.len) = false := by decide
 have h2 : DaysOk site0 days0 := fun _ _ => day0xok
 have e30 := s30 F d site0 days0 (small0 F hF) (by intro i _; exact ⟨by show 2 ≤ 10; omega, by show 2 ≤ 10; omega⟩) (by show 1 < 4611686018427387904; omega) (by show 1 < F; omega) hF
 rw [h1, site0xb, decide_eq_true h2, faults0] at e30
 exact e30
theorem x41 : (E F (d + 8)).pf 23 [.agg (eSite site0), .int .i64 0, .agg [.int .i64 10000, .int .i64 12000], .agg [.int .i64 3100, .int .i64 3100]] = some (.ret (.tup [.int .i64 2, .int .i64 0])) := by
 have h1 : (decide ((0 : Int) ≤ 0 ∧ (0 : Int) < (site0.cavs.len : Int)) && (decide (SpanIn ⟨10000, 12000⟩ 0 50000) && decide (SpanIn ⟨3100, 3100⟩ 0 10000))) = true := by decide
 have e41 := s41 F d site0 0 ⟨10000, 12000⟩ ⟨3100, 3100⟩ (small0 F hF) hF
 rw [site0xb, h1, show (0 : Int).toNat = 0 from rfl, keeps0] at e41
 exact e41
set_option maxRecDepth 100000 in
theorem s13 : (E F (d + 11)).pf 7 [] = some (.ret (.bool true)) := by
 obtain ⟨u, ⟨u1, u2⟩, e15⟩ := x15 F (d + 3) hF
 have e24 := x24 F (d + 3) hF
 have e14 := x14 F (d + 2) hF
 have e37 := x37 F (d + 3) hF
 have e30 := x30 F d hF
 have e41 := x41 F (d + 2) hF
 obtain ⟨q1, q2, q3, q4, q5, q6⟩ := m0xat
 have hm : m0.len = 2 := rfl
 rw [E_pf, t13]
 generalize hmm : m0 = m at *
 generalize hss : site0 = s at *
 simp only [s46 F (d + 9), s47 F (d + 9), hss, pOut, pAgg, pTup, pCons, pRow, pInt, pNil, e24, e14, e37, e15, e30, e41]
 have b0 : ((0 : Int) != 0) = false := rfl
 have b1 : (((m.len : Nat) : Int) != 2) = false := by rw [hm]; rfl
 have b22 : ((2 : Int) != 2) = false := rfl
 have b6 : (6 == 6) = true := rfl
 have bl : decide ((0 : Int) < ((m.len : Nat) : Int)) = true := by rw [hm]; rfl
 have bt : ((List.take 6 (eStt (m.el 0))).length == 6) = true := rfl
 have ht : List.take 6 (eStt (m.el 0)) = eStt (m.el 0) := rfl
 simp only [decide_true, pT, pF, b0, b1, b22, b6, bl, bt]
 simp only [ht, pCons, pInt, pNil, decide_true, pT, q1, q2, q3, q4, q5, q6, u1, u2]
 rfl
end
end Go.Sim.Cr


namespace Go.Sim.Cr
open Go.Proofs
variable (F d : Nat)
theorem cNb (a b : Bool) : (bif !a then some (Out.ret (.bool false)) else some (.ret (.bool b))) = some (.ret (.bool (a && b))) := by cases a <;> rfl
def houseP (s : Site) (i : Nat) : Bool := decide (Place (s.houses.el i).x (s.houses.el i).y) && decide (0 ≤ (s.houses.el i).most ∧ (s.houses.el i).most ≤ 1000000)
def rowP (s : Site) : Nat → Bool
 | 0 => !decide ((s.rows.el 0).deficit > 50000) && (decide (SpanIn (s.rows.el 0).rate 0 100000) && decide (SpanIn (s.rows.el 0).spall 0 1000))
 | j + 1 => !decide ((s.rows.el (j + 1)).deficit > 50000) && (decide (SpanIn (s.rows.el (j + 1)).rate 0 100000) && (decide (SpanIn (s.rows.el (j + 1)).spall 0 1000) &&
   (!decide ((s.rows.el (j + 1)).deficit ≤ (s.rows.el j).deficit) && (decide ((s.rows.el j).rate.lo ≤ (s.rows.el (j + 1)).rate.lo ∧ (s.rows.el j).rate.hi ≤ (s.rows.el (j + 1)).rate.hi) &&
    decide ((s.rows.el j).spall.lo ≤ (s.rows.el (j + 1)).spall.lo ∧ (s.rows.el j).spall.hi ≤ (s.rows.el (j + 1)).spall.hi)))))
def heatP (s : Site) : Nat → Bool
 | 0 => decide (0 ≤ (s.heats.el 0).warmth ∧ (s.heats.el 0).warmth ≤ 10000) && decide (SpanIn (s.heats.el 0).factor 0 10000)
 | j + 1 => decide (0 ≤ (s.heats.el (j + 1)).warmth ∧ (s.heats.el (j + 1)).warmth ≤ 10000) && (decide (SpanIn (s.heats.el (j + 1)).factor 0 10000) &&
   (!decide ((s.heats.el (j + 1)).warmth ≤ (s.heats.el j).warmth) && decide ((s.heats.el j).factor.lo ≤ (s.heats.el (j + 1)).factor.lo ∧ (s.heats.el j).factor.hi ≤ (s.heats.el (j + 1)).factor.hi)))
def ringP (s : Site) : Nat → Bool
 | 0 => decide (0 ≤ (s.rings.el 0).away ∧ (s.rings.el 0).away ≤ 40000) && decide (SpanIn (s.rings.el 0).share 0 1000000)
 | j + 1 => decide (0 ≤ (s.rings.el (j + 1)).away ∧ (s.rings.el (j + 1)).away ≤ 40000) && (decide (SpanIn (s.rings.el (j + 1)).share 0 1000000) && !decide ((s.rings.el (j + 1)).away ≤ (s.rings.el j).away))
theorem l16x5 (s : Site) (hs : Small s F) : ∀ n i fu, s.houses.len = i + n → n < fu → L16x5 (E F (d + 2)) F s fu (i : Int) = some (.ret (.bool (allF (houseP s) true n i))) := by
 have hB := hs.houses
 intro n
 induction n with
 | zero =>
  intro i fu h hf
  obtain ⟨fu, rfl⟩ : ∃ k, fu = k + 1 := ⟨fu - 1, by omega⟩
  rw [L16x5s]
  simp only [Int.ofNat_lt, show ¬ i < s.houses.len by omega, decide_false, cond_false, allF]
 | succ n ih =>
  intro i fu h hf
  obtain ⟨fu, rfl⟩ : ∃ k, fu = k + 1 := ⟨fu - 1, by omega⟩
  rw [L16x5s]
  simp only [Int.ofNat_lt, show i < s.houses.len by omega, decide_true, cond_true, Int.natCast_nonneg, Int.toNat_natCast, s18, s54, tkOut_ret, tkBool_b, wrS (show i < Big by omega), ih (i + 1) fu (by omega) (by omega), cNb, allF, houseP, Bool.and_assoc]
theorem gt0 (j : Nat) : decide (((j + 1 : Nat) : Int) > 0) = true := decide_eq_true (by omega)
theorem l16x4 (s : Site) (hs : Small s F) : ∀ n i fu, s.rings.len = i + n → n < fu → L16x4 (E F (d + 2)) F s fu (i : Int) = some (.ret (.bool (allF (ringP s) (allF (houseP s) true s.houses.len 0) n i))) := by
 have hB := hs.rings
 intro n
 induction n with
 | zero =>
  intro i fu h hf
  obtain ⟨fu, rfl⟩ : ∃ k, fu = k + 1 := ⟨fu - 1, by omega⟩
  rw [L16x4s]
  simp only [Int.ofNat_lt, show ¬ i < s.rings.len by omega, decide_false, cond_false, allF]
  exact l16x5 F d s hs s.houses.len 0 F (by omega) hs.housesF
 | succ n ih =>
  intro i fu h hf
  obtain ⟨fu, rfl⟩ : ∃ k, fu = k + 1 := ⟨fu - 1, by omega⟩
  rw [L16x4s]
  simp only [Int.ofNat_lt, show i < s.rings.len by omega, decide_true, cond_true, Int.natCast_nonneg, Int.toNat_natCast, s54, s43, tkOut_ret, tkBool_b, wrS (show i < Big by omega), ih (i + 1) fu (by omega) (by omega), allF]
  cases i with
  | zero => simp only [Int.natCast_zero, show decide ((0 : Int) > 0) = false from rfl, cond_false, cNb, ringP, Bool.and_assoc]
  | succ j =>
   simp only [gt0, cond_true, wrP j (by omega), Int.natCast_nonneg, Int.ofNat_lt, show j < s.rings.len by omega, decide_true, Int.toNat_natCast, cNand, cNb, Bool.not_not, ringP, Bool.and_assoc]
theorem l16x3 (s : Site) (hs : Small s F) : ∀ n i fu, s.heats.len = i + n → n < fu → L16x3 (E F (d + 2)) F s fu (i : Int) = some (.ret (.bool (allF (heatP s) (allF (ringP s) (allF (houseP s) true s.houses.len 0) s.rings.len 0) n i))) := by
 have hB := hs.heats
 intro n
 induction n with
 | zero =>
  intro i fu h hf
  obtain ⟨fu, rfl⟩ : ∃ k, fu = k + 1 := ⟨fu - 1, by omega⟩
  rw [L16x3s]
  simp only [Int.ofNat_lt, show ¬ i < s.heats.len by omega, decide_false, cond_false, allF]
  exact l16x4 F d s hs s.rings.len 0 F (by omega) hs.ringsF
 | succ n ih =>
  intro i fu h hf
  obtain ⟨fu, rfl⟩ : ∃ k, fu = k + 1 := ⟨fu - 1, by omega⟩
  rw [L16x3s]
  simp only [Int.ofNat_lt, show i < s.heats.len by omega, decide_true, cond_true, Int.natCast_nonneg, Int.toNat_natCast, s54, s43, s55, tkOut_ret, tkBool_b, wrS (show i < Big by omega), ih (i + 1) fu (by omega) (by omega), allF]
  cases i with
  | zero => simp only [Int.natCast_zero, show decide ((0 : Int) > 0) = false from rfl, cond_false, cNb, heatP, Bool.and_assoc]
  | succ j =>
   simp only [gt0, cond_true, wrP j (by omega), Int.natCast_nonneg, Int.ofNat_lt, show j < s.heats.len by omega, decide_true, Int.toNat_natCast, cNand, cNb, Bool.not_not, heatP, Bool.and_assoc]
theorem l16x2 (s : Site) (hs : Small s F) : ∀ n i fu, s.rows.len = i + n → n < fu → L16x2 (E F (d + 2)) F s fu (i : Int) = some (.ret (.bool (allF (rowP s) (allF (heatP s) (allF (ringP s) (allF (houseP s) true s.houses.len 0) s.rings.len 0) s.heats.len 0) n i))) := by
 have hB := hs.rows
 intro n
 induction n with
 | zero =>
  intro i fu h hf
  obtain ⟨fu, rfl⟩ : ∃ k, fu = k + 1 := ⟨fu - 1, by omega⟩
  rw [L16x2s]
  simp only [Int.ofNat_lt, show ¬ i < s.rows.len by omega, decide_false, cond_false, allF]
  exact l16x3 F d s hs s.heats.len 0 F (by omega) hs.heatsF
 | succ n ih =>
  intro i fu h hf
  obtain ⟨fu, rfl⟩ : ∃ k, fu = k + 1 := ⟨fu - 1, by omega⟩
  rw [L16x2s]
  simp only [Int.ofNat_lt, show i < s.rows.len by omega, decide_true, cond_true, Int.natCast_nonneg, Int.toNat_natCast, s54, s43, s55, tkOut_ret, tkBool_b, wrS (show i < Big by omega), ih (i + 1) fu (by omega) (by omega), allF]
  cases i with
  | zero => simp only [Int.natCast_zero, show decide ((0 : Int) > 0) = false from rfl, cond_false, cNand, cNb, Bool.not_not, rowP, Bool.and_assoc]
  | succ j =>
   simp only [gt0, cond_true, wrP j (by omega), Int.natCast_nonneg, Int.ofNat_lt, show j < s.rows.len by omega, decide_true, Int.toNat_natCast, cNand, cNb, Bool.not_not, rowP, Bool.and_assoc]
def sameB (s : Site) (i k : Nat) : Bool := decide ((s.cavs.el k).x = (s.cavs.el i).x) && decide ((s.cavs.el k).y = (s.cavs.el i).y)
theorem l16x1 (s : Site) (hs : Small s F) (m0 i : Nat) (hi : i < s.cavs.len) (R : Bool) (a2 a3 a4 a5 a6 a7 a8 a9 a10 : Int) (hO : L16x0 (E F (d + 2)) F s m0 ((i + 1 : Nat) : Int) = some (.ret (.bool R))) : ∀ n k fu, i = k + n → n < fu →
  L16x1 (E F (d + 2)) F s m0 fu (i : Int) (k : Int) (s.cavs.el i).x (s.cavs.el i).y a2 a3 a4 a5 a6 a7 a8 a9 a10 = some (.ret (.bool (!anyF (sameB s i) n k && R))) := by
 have hB := hs.cavs
 intro n
 induction n with
 | zero =>
  intro k fu h hf
  obtain ⟨fu, rfl⟩ : ∃ k, fu = k + 1 := ⟨fu - 1, by omega⟩
  rw [L16x1s]
  simp only [Int.ofNat_lt, show ¬ k < i by omega, decide_false, cond_false, anyF, wrS (show i < Big by omega), hO, Bool.not_false, Bool.true_and]
 | succ n ih =>
  intro k fu h hf
  obtain ⟨fu, rfl⟩ : ∃ k, fu = k + 1 := ⟨fu - 1, by omega⟩
  rw [L16x1s]
  simp only [Int.ofNat_lt, show k < i by omega, show k < s.cavs.len by omega, decide_true, cond_true, Int.natCast_nonneg, Int.toNat_natCast, anyF, wrS (show k < Big by omega), ih (k + 1) fu (by omega) (by omega), beqI, sameB]
  cases decide ((s.cavs.el k).x = (s.cavs.el i).x) <;> cases decide ((s.cavs.el k).y = (s.cavs.el i).y) <;> rfl
def cavP (s : Site) (i : Nat) : Bool := decide (CavOk (s.cavs.el i)) && !anyF (sameB s i) i 0
def allP (s : Site) : Bool := allF (rowP s) (allF (heatP s) (allF (ringP s) (allF (houseP s) true s.houses.len 0) s.rings.len 0) s.heats.len 0) s.rows.len 0
theorem l16x0 (s : Site) (hs : Small s F) : ∀ n i fu, s.cavs.len = i + n → n < fu → L16x0 (E F (d + 2)) F s fu (i : Int) = some (.ret (.bool (allF (cavP s) (allP s) n i))) := by
 have hB := hs.cavs
 have hC := hs.cavsF
 intro n
 induction n with
 | zero =>
  intro i fu h hf
  obtain ⟨fu, rfl⟩ : ∃ k, fu = k + 1 := ⟨fu - 1, by omega⟩
  rw [L16x0s]
  simp only [Int.ofNat_lt, show ¬ i < s.cavs.len by omega, decide_false, cond_false, allF]
  exact l16x2 F d s hs s.rows.len 0 F (by omega) hs.rowsF
 | succ n ih =>
  intro i fu h hf
  obtain ⟨fu, rfl⟩ : ∃ k, fu = k + 1 := ⟨fu - 1, by omega⟩
  rw [L16x0s]
  have g := fun a2 a3 a4 a5 a6 a7 a8 a9 a10 => l16x1 F d s hs fu i (by omega) (allF (cavP s) (allP s) n (i + 1)) a2 a3 a4 a5 a6 a7 a8 a9 a10 (ih (i + 1) fu (by omega) (by omega)) i 0 F (by omega) (by omega)
  simp only [Int.natCast_zero] at g
  simp only [Int.ofNat_lt, show i < s.cavs.len by omega, decide_true, cond_true, Int.natCast_nonneg, Int.toNat_natCast, s18, s54, s43, tkOut_ret, tkBool_b, g, cNb, allF, cavP, CavOk, Bool.decide_and, Bool.and_assoc]
theorem sp_eq (s : Site) : (decide (1 ≤ (s.cavs.len : Int) ∧ (s.cavs.len : Int) ≤ 5) && (decide (1 ≤ (s.rows.len : Int) ∧ (s.rows.len : Int) ≤ 8) && (decide (1 ≤ (s.heats.len : Int) ∧ (s.heats.len : Int) ≤ 8) && (decide (0 ≤ s.wall ∧ s.wall ≤ 1000000) &&
  (!decide ((s.rings.len : Int) > 8) && (!decide ((s.houses.len : Int) > 5) && (decide ((s.rows.el 0).deficit = 0) && allF (cavP s) (allP s) s.cavs.len 0))))))) = siteB s := by
 apply b2
 rw [siteB_iff]
 simp only [allP, cavP, houseP, Bool.and_eq_true, allF_0, decide_eq_true_iff, Bool.not_eq_true', decide_eq_false_iff_not, and_true]
 constructor
 ·rintro ⟨h1, h2, h3, h4, h5, h6, h7, h8, h9, h10, h11, h12⟩
  have rows : ∀ i, i < s.rows.len → 0 ≤ (s.rows.el i).deficit ∧ rowB s i = true := by
   intro i
   induction i with
   | zero =>
    intro hi
    have g := h9 0 hi
    simp only [rowP, rowB, rowStep, Bool.and_eq_true, decide_eq_true_iff, Bool.not_eq_true', decide_eq_false_iff_not] at g ⊢
    exact ⟨by omega, by omega, g.2.1, g.2.2, h7⟩
   | succ j ih =>
    intro hi
    have g := h9 (j + 1) hi
    have g0 := (ih (by omega)).1
    simp only [rowP, rowB, rowStep, Bool.and_eq_true, decide_eq_true_iff, Bool.not_eq_true', decide_eq_false_iff_not] at g ⊢
    exact ⟨by omega, by omega, g.2.1, g.2.2.1, by omega, g.2.2.2.2.1, g.2.2.2.2.2⟩
  refine ⟨by omega, by omega, fun i hi => (h8 i hi).1, ?_, h4, by omega, fun i hi => h12 i hi, fun i hi => (rows i hi).2, ?_, ?_, by omega, by omega, by omega, by omega, by omega⟩
  ·intro i k hi hk he
   have := (h8 i hi).2
   have ha : anyF (sameB s i) i 0 = true := (anyF_eq _ _ _).2 ⟨k, Nat.zero_le _, by omega, by simp only [sameB, Bool.and_eq_true, decide_eq_true_iff]; exact he⟩
   rw [ha] at this; cases this
  ·intro i hi
   have g := h10 i hi
   cases i with
   | zero => simp only [heatP, heatB, heatStep, Bool.and_eq_true, decide_eq_true_iff] at g ⊢; exact ⟨g.1, g.2, trivial⟩
   | succ j =>
    simp only [heatP, heatB, heatStep, Bool.and_eq_true, decide_eq_true_iff, Bool.not_eq_true', decide_eq_false_iff_not] at g ⊢
    exact ⟨g.1, g.2.1, by omega, g.2.2.2⟩
  ·intro i hi
   have g := h11 i hi
   cases i with
   | zero => simp only [ringP, ringB, ringStep, Bool.and_eq_true, decide_eq_true_iff] at g ⊢; exact ⟨g.1, g.2, trivial⟩
   | succ j =>
    simp only [ringP, ringB, ringStep, Bool.and_eq_true, decide_eq_true_iff, Bool.not_eq_true', decide_eq_false_iff_not] at g ⊢
    exact ⟨g.1, g.2.1, by omega⟩
 ·intro h
  have g0 : (s.rows.el 0).deficit = 0 := by
   have := h.row 0 h.rows1
   simp only [rowB, rowStep, Bool.and_eq_true, decide_eq_true_iff] at this
   exact this.2.2.2
  have a1 := h.cavs1
  have a2 := h.cavs5
  have a3 := h.rows1
  have a4 := h.rows8
  have a5 := h.heats1
  have a6 := h.heats8
  have a7 := h.rings8
  have a8 := h.houses5
  refine ⟨by omega, by omega, by omega, h.wall, by omega, by omega, g0, fun i hi => ⟨h.cav i hi, ?_⟩, fun i hi => ?_, fun i hi => ?_, fun i hi => ?_, fun i hi => h.house i hi⟩
  ·cases ha : anyF (sameB s i) i 0 with
   | false => rfl
   | true =>
    obtain ⟨k, _, hk, e⟩ := (anyF_eq _ _ _).1 ha
    simp only [sameB, Bool.and_eq_true, decide_eq_true_iff] at e
    exact (h.apart i k hi (by omega) e).elim
  ·have g := h.row i hi
   cases i with
   | zero =>
    simp only [rowP, rowB, rowStep, Bool.and_eq_true, decide_eq_true_iff, Bool.not_eq_true', decide_eq_false_iff_not] at g ⊢
    exact ⟨by omega, g.2.1, g.2.2.1⟩
   | succ j =>
    simp only [rowP, rowB, rowStep, Bool.and_eq_true, decide_eq_true_iff, Bool.not_eq_true', decide_eq_false_iff_not] at g ⊢
    exact ⟨by omega, g.2.1, g.2.2.1, by omega, g.2.2.2.2.1, g.2.2.2.2.2⟩
  ·have g := h.heat i hi
   cases i with
   | zero => simp only [heatP, heatB, heatStep, Bool.and_eq_true, decide_eq_true_iff] at g ⊢; exact ⟨g.1, g.2.1⟩
   | succ j =>
    simp only [heatP, heatB, heatStep, Bool.and_eq_true, decide_eq_true_iff, Bool.not_eq_true', decide_eq_false_iff_not] at g ⊢
    exact ⟨g.1, g.2.1, by omega, g.2.2.2⟩
  ·have g := h.ring i hi
   cases i with
   | zero => simp only [ringP, ringB, ringStep, Bool.and_eq_true, decide_eq_true_iff] at g ⊢; exact ⟨g.1, g.2.1⟩
   | succ j =>
    simp only [ringP, ringB, ringStep, Bool.and_eq_true, decide_eq_true_iff, Bool.not_eq_true', decide_eq_false_iff_not] at g ⊢
    exact ⟨g.1, g.2.1, by omega⟩
theorem s16 (s : Site) (hs : Small s F) : (E F (d + 3)).pf 9 [.agg (eSite s)] = some (.ret (.bool (siteB s))) := by
 have hC := hs.cavsF
 rw [E_pf, t16, ← sp_eq]
 simp only [s54, tkOut_ret, tkBool_b]
 cases h1 : decide (1 ≤ (s.cavs.len : Int) ∧ (s.cavs.len : Int) ≤ 5) <;> simp only [Bool.not_false, Bool.not_true, cond_true, cond_false, Bool.false_and, Bool.true_and]
 cases h2 : decide (1 ≤ (s.rows.len : Int) ∧ (s.rows.len : Int) ≤ 8) <;> simp only [Bool.not_false, Bool.not_true, cond_true, cond_false, Bool.false_and, Bool.true_and]
 have hr : 0 < s.rows.len := by have := of_decide_eq_true h2; omega
 simp only [zlt hr, cond_true, show L16x0 (E F (d + 2)) F s F 0 = _ from l16x0 F d s hs s.cavs.len 0 F (by omega) hs.cavsF, bne, beqI, cNb, cNand, Bool.not_not]
end Go.Sim.Cr


namespace Go.Sim.Cr
open Go.Proofs
variable (F d : Nat)
theorem z0 : (((0 : Nat) : Int) == 0) = true := rfl
end Go.Sim.Cr


namespace Go.Sim.Cr
open Go.Proofs
variable (F d : Nat)
def isM (b : Bool) (m : Mark) : Bool := bif b then m.certain else m.possible
abbrev eFaultZ (f : Option Fault) : V := match f with | some f => .tup [.agg (eFault f), .bool true] | none => .tup [.agg (eFault ⟨0, 0, 0, 0⟩), .bool false]
theorem maxI_gt (a b c : Int) : decide (maxI a b > c) = (decide (a > c) || decide (b > c)) := by
 apply b2
 simp only [Bool.or_eq_true, decide_eq_true_iff]
 unfold maxI
 split <;> omega
def prevOf (l : Sl Day) : Nat → Option (Sl Span)
 | 0 => none
 | k + 1 => some (l.el k).press
def earlyMs (s : Site) (y : Day) (b : Option (Sl Span)) : List (Int × List Mark) :=
 [(2, (List.range' 0 s.cavs.len).map (outM s y)), (3, (List.range' 0 s.cavs.len).map (gateM s y)), (4, fastMs s y b)]
noncomputable def lateMs (s : Site) (m : Option (Sl Stt)) : List (Int × List Mark) := [(5, smallMs s m), (6, thinMs s m), (7, sunkMs s m)]
theorem marks_parts (s : Site) (y : Day) (b : Option (Sl Span)) (m : Option (Sl Stt)) : marksOf s y b m = earlyMs s y b ++ lateMs s m := rfl
section
variable (s : Site) (ds : Sl Day) (m : Sl Stt) (b : Bool) (n : Int)
end
end Go.Sim.Cr


namespace Go.Sim.Cr
open Go.Proofs
variable (F d : Nat)
noncomputable def refFrom (s : Site) (l : Sl Day) (c : Bool) : Nat → Nat → Sl Stt → Fault
 | 0, _, _ => fineF
 | r + 1, i, now => bif farDay s (l.el i) && c then fineF else
   match faultR (i : Int) (isM c) (earlyMs s (l.el i) (prevOf l i)) with
   | some f => f
   | none => match faultR (i : Int) (isM c) (lateMs s (some (moved s now (l.el i)))) with
    | some f => f
    | none => refFrom s l c r (i + 1) (moved s now (l.el i))
theorem find_some {is : Mark → Bool} {ms : List Mark} (h : ∃ m ∈ ms, is m = true) : ∃ m, ms.find? is = some m := by
 cases e : ms.find? is with
 | some m => exact ⟨m, rfl⟩
 | none =>
  obtain ⟨m, h1, h2⟩ := h
  have := List.find?_eq_none.1 e m h1
  rw [h2] at this
  exact (this rfl).elim
theorem far_early {s : Site} {y : Day} (h : farDay s y = true) (n : Int) (b : Option (Sl Span)) : ∃ f, faultR n (isM false) (earlyMs s y b) = some f := by
 obtain ⟨k, _, hk, e⟩ := (anyF_eq _ _ _).1 h
 obtain ⟨m, hm⟩ := find_some (is := isM false) (ms := (List.range' 0 s.cavs.len).map (outM s y)) ⟨outM s y k, List.mem_map_of_mem (by rw [List.mem_range']; exact ⟨k, by omega, by omega⟩), e⟩
 refine ⟨⟨n, 2, m.at_, m.wth⟩, ?_⟩
 unfold earlyMs
 rw [faultR, hm]
theorem faultR_append (n : Int) (is : Mark → Bool) : ∀ A B : List (Int × List Mark), faultR n is (A ++ B) = match faultR n is A with | some f => some f | none => faultR n is B := by
 intro A B
 induction A with
 | nil => rfl
 | cons a A ih =>
  obtain ⟨k, ms⟩ := a
  rw [List.cons_append]
  cases e : ms.find? is with
  | some m => rw [fR_some e, fR_some e]
  | none => rw [fR_none e, fR_none e]; exact ih
theorem late_none (s : Site) (n : Int) (is : Mark → Bool) : faultR n is (lateMs s none) = none := rfl
def Sure (mss : List (Int × List Mark)) : Prop := ∀ p ∈ mss, ∀ m ∈ p.2, m.certain = true → m.possible = true
theorem sure_some {n : Int} : ∀ {mss : List (Int × List Mark)}, Sure mss → (∃ f, faultR n (isM true) mss = some f) → ∃ f, faultR n (isM false) mss = some f := by
 intro mss
 induction mss with
 | nil => rintro _ ⟨f, h⟩; cases h
 | cons a mss ih =>
  obtain ⟨k, ms⟩ := a
  rintro hs ⟨f, h⟩
  unfold faultR at h ⊢
  cases e : ms.find? (isM false) with
  | some m => exact ⟨_, rfl⟩
  | none =>
   have e2 : ms.find? (isM true) = none := by
    rw [List.find?_eq_none] at e ⊢
    intro m hm hc
    exact e m hm (hs (k, ms) (by simp) m hm hc)
   rw [e2] at h
   exact ih (fun p hp => hs p (by simp [hp])) ⟨f, h⟩
theorem sunkFrom_le {s : Site} {m : Sl Stt} (hS : SiteF s) (hL : StatesOk s m) (x y : Int) : ∀ r i a b, m.len = i + r → a ≤ b → (sunkFrom s m x y r i a b).lo ≤ (sunkFrom s m x y r i a b).hi := by
 intro r
 induction r with
 | zero => intro i a b _ h; exact h
 | succ r ih =>
  intro i a b h hab
  refine ih (i + 1) _ _ (by omega) ?_
  have hq := shareOf_ok hS (s.cavs.el i) x y
  have hv := (hL.2 i (by omega)).2.2
  have h1 : (m.el i).lost.lo * (shareOf s (s.cavs.el i) x y).lo ≤ (m.el i).lost.hi * (shareOf s (s.cavs.el i) x y).hi := Int.mul_le_mul hv.2.1 hq.2.1 hq.1 (by omega)
  have h2 : (m.el i).lost.lo * (shareOf s (s.cavs.el i) x y).lo / 1000000 ≤ ((m.el i).lost.hi * (shareOf s (s.cavs.el i) x y).hi + 999999) / 1000000 := Int.ediv_le_ediv (by omega) (by omega)
  omega
theorem sunk_le {s : Site} {m : Sl Stt} (hS : SiteF s) (hL : StatesOk s m) (x y : Int) : (sunk s m x y).lo ≤ (sunk s m x y).hi := sunkFrom_le hS hL x y m.len 0 0 0 (by omega) (Int.le_refl _)
theorem pairs_sure {s : Site} {m : Sl Stt} (hL : StatesOk s m) : ∀ k i, s.cavs.len = i + k → ∀ x ∈ pairsM s m k i, x.certain = true → x.possible = true := by
 intro k
 induction k with
 | zero => intro i _ x hx; cases hx
 | succ k ih =>
  intro i h x hx
  rw [pairsM, List.mem_append] at hx
  rcases hx with hx | hx
  ·obtain ⟨j, hj, rfl⟩ := List.mem_map.1 hx
   rw [List.mem_range'] at hj
   obtain ⟨q, hq, rfl⟩ := hj
   have hl := hL.1
   have a1 := (hL.2 i (by omega)).1
   have a2 := (hL.2 (i + 1 + 1 * q) (by omega)).1
   simp only [thinM, decide_eq_true_iff]
   omega
  ·exact ih (i + 1) (by omega) x hx
theorem early_sure {s : Site} {y : Day} {b : Option (Sl Span)} (hD : DayOk s y) (hb : ∀ x, b = some x → x.len = s.cavs.len ∧ ∀ i, i < x.len → SpanIn (x.el i) 0 50000) : Sure (earlyMs s y b) := by
 have hp := hD.1.1
 intro p hp' m hm
 simp only [earlyMs, List.mem_cons, List.not_mem_nil, or_false] at hp'
 rcases hp' with rfl | rfl | rfl
 ·obtain ⟨j, _, rfl⟩ := List.mem_map.1 hm
  intro h; cases h
 ·obtain ⟨j, hj, rfl⟩ := List.mem_map.1 hm
  rw [List.mem_range'] at hj
  obtain ⟨q, hq, rfl⟩ := hj
  have := hD.1.2 (0 + 1 * q) (by omega)
  simp only [gateM, Bool.or_eq_true, decide_eq_true_iff]
  omega
 ·cases b with
  | none => cases hm
  | some x =>
   obtain ⟨j, hj, rfl⟩ := List.mem_map.1 hm
   rw [List.mem_range'] at hj
   obtain ⟨q, hq, rfl⟩ := hj
   obtain ⟨g1, g2⟩ := hb x rfl
   have a1 := hD.1.2 (0 + 1 * q) (by omega)
   have a2 := g2 (0 + 1 * q) (by omega)
   simp only [fastM, maxI_gt, Bool.or_eq_true, decide_eq_true_iff]
   omega
theorem late_sure {s : Site} {m : Sl Stt} (hS : SiteF s) (hL : StatesOk s m) : Sure (lateMs s (some m)) := by
 have hl := hL.1
 intro p hp' x hx
 simp only [lateMs, List.mem_cons, List.not_mem_nil, or_false] at hp'
 rcases hp' with rfl | rfl | rfl
 ·obtain ⟨j, hj, rfl⟩ := List.mem_map.1 hx
  rw [List.mem_range'] at hj
  obtain ⟨q, hq, rfl⟩ := hj
  have := (hL.2 (0 + 1 * q) (by omega)).2.1
  simp only [smallM, decide_eq_true_iff]
  omega
 ·exact pairs_sure hL s.cavs.len 0 (by omega) x hx
 ·obtain ⟨j, hj, rfl⟩ := List.mem_map.1 hx
  have := sunk_le hS hL (s.houses.el j).x (s.houses.el j).y
  simp only [sunkM, decide_eq_true_iff]
  omega
theorem isM_f : isM false = Mark.possible := rfl
theorem isM_t : isM true = Mark.certain := rfl
theorem prev_ok {s : Site} {l : Sl Day} (hD : DaysOk s l) {i : Nat} (hi : i ≤ l.len) : ∀ x, prevOf l i = some x → x.len = s.cavs.len ∧ ∀ j, j < x.len → SpanIn (x.el j) 0 50000 := by
 intro x hx
 cases i with
 | zero => cases hx
 | succ k =>
  injection hx with hx
  subst hx
  exact (hD k (by omega)).1
theorem faults_from {s : Site} {l : Sl Day} (hS : SiteF s) (hD : DaysOk s l) : ∀ r i now (found : Bool) (may : Fault), l.len = i + r → StatesOk s now → (found = false → may = fineF) →
  faultsFrom s l r i (prevOf l i) now found may fineF = (bif found then may else refFrom s l false r i now, refFrom s l true r i now) := by
 intro r
 induction r with
 | zero =>
  intro i now found may h hn hf
  cases found with
  | true => rfl
  | false => rw [hf rfl]; rfl
 | succ r ih =>
  intro i now found may h hn hf
  have hy := hD i (by omega)
  have he := early_sure (b := prevOf l i) hy (prev_ok hD (by omega))
  unfold faultsFrom refFrom
  dsimp only
  cases hfd : farDay s (l.el i) with
  | true =>
   simp only [cond_true, Bool.and_true, Bool.and_false, cond_false, marks_parts, faultR_append, ← isM_f, late_none]
   obtain ⟨f, e⟩ := far_early hfd (i : Int) (prevOf l i)
   rw [e]
   rfl
  | false =>
   have hmv := moved_ok hS hn hy hfd
   have hl := late_sure hS hmv
   have nx := fun fd my => ih (i + 1) (moved s now (l.el i)) fd my (by omega) hmv
   have pv : prevOf l (i + 1) = some (l.el i).press := rfl
   rw [pv] at nx
   simp only [cond_false, Bool.false_and, marks_parts, faultR_append, ← isM_f, ← isM_t]
   have se := sure_some (n := (i : Int)) he
   have sl' := sure_some (n := (i : Int)) hl
   cases e1 : faultR (i : Int) (isM true) (earlyMs s (l.el i) (prevOf l i)) with
   | some f =>
    obtain ⟨g, e2⟩ := se ⟨f, e1⟩
    rw [e2]
    cases found <;> rfl
   | none =>
    cases e3 : faultR (i : Int) (isM true) (lateMs s (some (moved s now (l.el i)))) with
    | some f =>
     obtain ⟨g, e4⟩ := sl' ⟨f, e3⟩
     rw [e4]
     cases faultR (i : Int) (isM false) (earlyMs s (l.el i) (prevOf l i)) <;> cases found <;> rfl
    | none =>
     cases faultR (i : Int) (isM false) (earlyMs s (l.el i) (prevOf l i)) with
     | some g =>
      refine (nx _ _ ?_).trans ?_
      ·cases found <;> intro h <;> cases h
      ·cases found <;> rfl
     | none =>
      cases faultR (i : Int) (isM false) (lateMs s (some (moved s now (l.el i)))) with
      | some g =>
       refine (nx _ _ ?_).trans ?_
       ·cases found <;> intro h <;> cases h
       ·cases found <;> rfl
      | none =>
       refine (nx _ _ ?_).trans ?_
       ·cases found with
        | true => intro h; cases h
        | false => intro _; rfl
       ·cases found <;> rfl
theorem faults_eq {s : Site} {l : Sl Day} (hS : SiteF s) (hD : DaysOk s l) : faults s l = (refFrom s l false l.len 0 (begin s), refFrom s l true l.len 0 (begin s)) :=
 faults_from hS hD l.len 0 (begin s) false fineF (by omega) (begin_ok hS) (fun _ => rfl)
end Go.Sim.Cr


namespace Go.Sim.Cr
open Go.Proofs
variable (F d : Nat)
def rv (r : Rw) (i : Nat) : Int := match r.get i with | [.int _ n] => n | _ => 0
abbrev RwOk (r : Rw) : Prop := ∀ i, i < r.len → r.wd = 1 ∧ r.get i = [.int .i64 (rv r i)]
def hasR (r : Rw) (a : Int) : Bool := anyF (fun i => rv r i == a) r.len 0
theorem l9050 (r : Rw) (a : Int) (hr : RwOk r) (hB : r.len < 4611686018427387904) : ∀ n i fu, r.len = i + n → n < fu →
  L9050x0 (E F d) F r a fu (i : Int) = some (.ret (.bool (anyF (fun k => rv r k == a) n i))) := by
 intro n
 induction n with
 | zero =>
  intro i fu h hf
  obtain ⟨fu, rfl⟩ : ∃ k, fu = k + 1 := ⟨fu - 1, by omega⟩
  rw [L9050x0s]
  simp only [Int.ofNat_lt, show ¬ i < r.len by omega, decide_false, pF, anyF]
 | succ n ih =>
  intro i fu h hf
  obtain ⟨fu, rfl⟩ : ∃ k, fu = k + 1 := ⟨fu - 1, by omega⟩
  obtain ⟨w1, g1⟩ := hr i (by omega)
  rw [L9050x0s]
  simp only [Int.ofNat_lt, show i < r.len by omega, decide_true, pT, Int.natCast_nonneg, Int.toNat_natCast, w1, g1, beq_self_eq_true, pCons, pInt, wrS (show i < 4611686018427387904 by omega), ih (i + 1) fu (by omega) (by omega), anyF]
  cases rv r i == a
  ·simp only [pF, Bool.false_or]
  ·simp only [pT, Bool.true_or]
theorem s9050 (r : Rw) (a : Int) (hr : RwOk r) (hB : r.len < 4611686018427387904) (hF : r.len < F) : (E F (d + 1)).pf 50 [.row r.nl r.len r.wd r.get, .int .i64 a] = some (.ret (.bool (hasR r a))) := by
 rw [E_pf, t9050]
 exact l9050 F d r a hr hB r.len 0 F (by omega) hF
theorem s9026 (a : Int) : (E F (d + 2)).pf 26 [.int .i64 a] = some (.ret (.bool (!decide (0 ≤ a ∧ a ≤ 50000)))) := by
 rw [E_pf, t9026]
 simp only [s72 F d, pOut, tkBool_b]
theorem s9030 (a : Int) (s : Site) : (E F (d + 2)).pf 30 [.int .i64 a, pSite s] = some (.ret (.bool (!decide (0 ≤ a ∧ a ≤ (s.cavs.len : Int))))) := by
 rw [E_pf, t9030]
 simp only [s72 F d, pOut, tkBool_b]
theorem l9056 (l : Sl Int) (s : Site) (hB : l.len < 4611686018427387904) : ∀ n i fu, l.len = i + n → n < fu →
  L9056x0 (E F (d + 2)) F l s fu (i : Int) = some (.ret (.int .i64 (ixF (fun k => !decide (0 ≤ l.el k ∧ l.el k ≤ (s.cavs.len : Int))) n i))) := by
 intro n
 induction n with
 | zero =>
  intro i fu h hf
  obtain ⟨fu, rfl⟩ : ∃ k, fu = k + 1 := ⟨fu - 1, by omega⟩
  rw [L9056x0s]
  simp only [Int.ofNat_lt, show ¬ i < l.len by omega, decide_false, pF, ixF]
 | succ n ih =>
  intro i fu h hf
  obtain ⟨fu, rfl⟩ : ∃ k, fu = k + 1 := ⟨fu - 1, by omega⟩
  rw [L9056x0s]
  simp only [Int.ofNat_lt, show i < l.len by omega, decide_true, pT, Int.natCast_nonneg, Int.toNat_natCast, s9030 F d, pOut, tkBool_b, wrS (show i < 4611686018427387904 by omega), ih (i + 1) fu (by omega) (by omega), ixF]
  cases !decide (0 ≤ l.el i ∧ l.el i ≤ (s.cavs.len : Int)) <;> simp only [pT, pF]
theorem l9156 (l : Sl Int) (hB : l.len < 4611686018427387904) : ∀ n i fu, l.len = i + n → n < fu →
  L9156x0 (E F (d + 2)) F l fu (i : Int) = some (.ret (.int .i64 (ixF (fun k => !decide (0 ≤ l.el k ∧ l.el k ≤ 50000)) n i))) := by
 intro n
 induction n with
 | zero =>
  intro i fu h hf
  obtain ⟨fu, rfl⟩ : ∃ k, fu = k + 1 := ⟨fu - 1, by omega⟩
  rw [L9156x0s]
  simp only [Int.ofNat_lt, show ¬ i < l.len by omega, decide_false, pF, ixF]
 | succ n ih =>
  intro i fu h hf
  obtain ⟨fu, rfl⟩ : ∃ k, fu = k + 1 := ⟨fu - 1, by omega⟩
  rw [L9156x0s]
  simp only [Int.ofNat_lt, show i < l.len by omega, decide_true, pT, Int.natCast_nonneg, Int.toNat_natCast, s9026 F d, pOut, tkBool_b, wrS (show i < 4611686018427387904 by omega), ih (i + 1) fu (by omega) (by omega), ixF]
  cases !decide (0 ≤ l.el i ∧ l.el i ≤ 50000) <;> simp only [pT, pF]
theorem not_all (p : Nat → Prop) [DecidablePred p] (n : Nat) : decide (∀ i, i < n → (!decide (p i)) = false) = decide (∀ i, i < n → p i) := by
 apply b2
 simp only [decide_eq_true_iff, Bool.not_eq_false', decide_eq_true_eq]
abbrev PresOk (s : Site) (l : Sl Int) : Prop := l.len = s.cavs.len ∧ ∀ i, i < l.len → 0 ≤ l.el i ∧ l.el i ≤ 50000
abbrev NeedOk (s : Site) (l : Sl Int) : Prop := ∀ i, i < l.len → 0 ≤ l.el i ∧ l.el i ≤ (s.cavs.len : Int)
theorem s9024 (l : Sl Int) (s : Site) (hB : l.len < 4611686018427387904) (hF : l.len < F) : (E F (d + 5)).pf 24 [sl eInt 1 l, pSite s] = some (.ret (.bool (decide (PresOk s l)))) := by
 have e56 : (E F (d + 3)).pf 56 [sl eInt 1 l, .fn (.func 26) [] []] = some (.ret (.int .i64 (ixF (fun k => !decide (0 ≤ l.el k ∧ l.el k ≤ 50000)) l.len 0))) := by rw [E_pf, t9156]; exact l9156 F d l hB l.len 0 F (by omega) hF
 have e25 : (E F (d + 4)).pf 25 [sl eInt 1 l, .fn (.func 26) [] []] = some (.ret (.bool (decide (0 ≤ ixF (fun k => !decide (0 ≤ l.el k ∧ l.el k ≤ 50000)) l.len 0)))) := by
  rw [E_pf, t9125, e56]
  simp only [pOut, pInt, decide_true, pT, ge_iff_le]
 rw [E_pf, t9024, e25]
 simp only [beqN, pOut, tkBool_b]
 by_cases h : l.len = s.cavs.len
 ·simp only [decide_eq_true h, pT]
  refine b3 ?_
  rw [ge0, not_all (fun i => 0 ≤ l.el i ∧ l.el i ≤ 50000)]
  apply b2
  simp only [decide_eq_true_iff]
  exact ⟨fun g => ⟨h, g⟩, fun g => g.2⟩
 ·simp only [decide_eq_false h, pF]
  rw [decide_eq_false (fun g => h g.1)]
theorem s9025 (l : Sl Int) (s : Site) (hB : l.len < 4611686018427387904) (hF : l.len < F) : (E F (d + 4)).pf 25 [sl eInt 1 l, .fn (.func 30) [] [pSite s]] = some (.ret (.bool (!decide (NeedOk s l)))) := by
 have e56 : (E F (d + 3)).pf 56 [sl eInt 1 l, .fn (.func 30) [] [pSite s]] = some (.ret (.int .i64 (ixF (fun k => !decide (0 ≤ l.el k ∧ l.el k ≤ (s.cavs.len : Int))) l.len 0))) := by rw [E_pf, t9056]; exact l9056 F d l s hB l.len 0 F (by omega) hF
 rw [E_pf, t9025, e56]
 simp only [pOut, pInt, decide_true, pT, ge_iff_le]
 refine b3 ?_
 rw [← not_all (fun i => 0 ≤ l.el i ∧ l.el i ≤ (s.cavs.len : Int)), ← ge0, Bool.not_not]
abbrev PlOk (s : Site) (low rest : Sl Int) (wm : Span) (nd : Sl Int) : Prop := PresOk s low ∧ PresOk s rest ∧ SpanIn wm 0 10000 ∧ NeedOk s nd
theorem l9010x1 (s : Site) (low rest : Sl Int) (wm : Span) (nd : Sl Int) (hB : nd.len < 4611686018427387904) : ∀ n i fu, nd.len = i + n → n < fu →
  L9010x1 (E F (d + 1)) F s low rest wm nd fu (i : Int) = some (.ret (.bool (allF (fun k => decide (0 ≤ nd.el k ∧ nd.el k ≤ (s.cavs.len : Int))) true n i))) := by
 intro n
 induction n with
 | zero =>
  intro i fu h hf
  obtain ⟨fu, rfl⟩ : ∃ k, fu = k + 1 := ⟨fu - 1, by omega⟩
  rw [L9010x1s]
  simp only [Int.ofNat_lt, show ¬ i < nd.len by omega, decide_false, pF, allF]
 | succ n ih =>
  intro i fu h hf
  obtain ⟨fu, rfl⟩ : ∃ k, fu = k + 1 := ⟨fu - 1, by omega⟩
  rw [L9010x1s]
  simp only [Int.ofNat_lt, show i < nd.len by omega, decide_true, pT, Int.natCast_nonneg, Int.toNat_natCast, s54 F d, pOut, tkBool_b, wrS (show i < 4611686018427387904 by omega), ih (i + 1) fu (by omega) (by omega), allF]
  cases decide (0 ≤ nd.el i ∧ nd.el i ≤ (s.cavs.len : Int)) <;> rfl
theorem l9010x0 (s : Site) (low rest : Sl Int) (wm : Span) (nd : Sl Int) (hB : nd.len < 4611686018427387904) (hF : nd.len < F) (hl : low.len = rest.len) (hB2 : low.len < 4611686018427387904) : ∀ n i fu, low.len = i + n → n < fu →
  L9010x0 (E F (d + 1)) F s low rest wm nd fu (i : Int) = some (.ret (.bool (allF (fun k => decide (0 ≤ low.el k ∧ low.el k ≤ 50000) && decide (0 ≤ rest.el k ∧ rest.el k ≤ 50000)) (decide (NeedOk s nd)) n i))) := by
 intro n
 induction n with
 | zero =>
  intro i fu h hf
  obtain ⟨fu, rfl⟩ : ∃ k, fu = k + 1 := ⟨fu - 1, by omega⟩
  rw [L9010x0s]
  simp only [Int.ofNat_lt, show ¬ i < low.len by omega, decide_false, pF, allF]
  refine (l9010x1 F d s low rest wm nd hB nd.len 0 F (by omega) hF).trans (b3 (b2 ?_))
  rw [allF_0]
  simp only [decide_eq_true_iff, and_true]
 | succ n ih =>
  intro i fu h hf
  obtain ⟨fu, rfl⟩ : ∃ k, fu = k + 1 := ⟨fu - 1, by omega⟩
  rw [L9010x0s]
  simp only [Int.ofNat_lt, show i < low.len by omega, show i < rest.len by omega, decide_true, pT, Int.natCast_nonneg, Int.toNat_natCast, s54 F d, pOut, tkBool_b, wrS (show i < 4611686018427387904 by omega), ih (i + 1) fu (by omega) (by omega), allF]
  cases decide (0 ≤ low.el i ∧ low.el i ≤ 50000) <;> cases decide (0 ≤ rest.el i ∧ rest.el i ≤ 50000) <;> rfl
theorem s9010 (s : Site) (low rest : Sl Int) (wm : Span) (nd : Sl Int) (hB : nd.len < 4611686018427387904) (hF : nd.len < F) (hB2 : low.len < 4611686018427387904) (hF2 : low.len < F) : (E F (d + 2)).pf 10 [.agg (eSite s), sl eInt 1 low, sl eInt 1 rest, .agg (eSpan wm), sl eInt 1 nd] = some (.ret (.bool (decide (PlOk s low rest wm nd)))) := by
 rw [E_pf, t9010]
 simp only [bne, beqN, s43 F d, pOut, tkBool_b]
 by_cases h1 : low.len = s.cavs.len
 rotate_left
 ·simp only [decide_eq_false h1, Bool.not_false, pT]
  rw [decide_eq_false (fun g => h1 g.1.1)]
 by_cases h2 : rest.len = s.cavs.len
 rotate_left
 ·simp only [decide_eq_true h1, Bool.not_true, pF, decide_eq_false h2, Bool.not_false, pT]
  rw [decide_eq_false (fun g => h2 g.2.1.1)]
 by_cases h3 : SpanIn wm 0 10000
 rotate_left
 ·simp only [decide_eq_true h1, decide_eq_true h2, Bool.not_true, pF, decide_eq_false h3, Bool.not_false, pT]
  rw [decide_eq_false (fun g => h3 g.2.2.1)]
 simp only [decide_eq_true h1, decide_eq_true h2, decide_eq_true h3, Bool.not_true, pF]
 refine (l9010x0 F d s low rest wm nd hB hF (by omega) hB2 low.len 0 F (by omega) hF2).trans (b3 (b2 ?_))
 rw [allF_0]
 simp only [Bool.and_eq_true, decide_eq_true_iff]
 exact ⟨fun g => ⟨⟨h1, fun i hi => (g.1 i hi).1⟩, ⟨h2, fun i hi => (g.1 i (by omega)).2⟩, h3, g.2⟩, fun g => ⟨fun k hk => ⟨g.1.2 k hk, g.2.1.2 k (by omega)⟩, g.2.2.2⟩⟩
end Go.Sim.Cr


namespace Go.Sim.Cr
open Go.Proofs
variable (F d : Nat)
def bitB (b : Int) (i : Nat) : Bool := IntKind.wrap .i64 (((BitVec.toNat (HAnd.hAnd (BitVec.ofInt 64 (Int.fdiv b ((2 : Int) ^ (Min.min i 64)))) (BitVec.ofInt 64 (1 : Int)))) : Nat) : Int) == (1 : Int)
def pickQ (low rest : Sl Int) (q : Nat → Bool) (i : Nat) : Span := bif q i then ⟨low.el i, low.el i⟩ else ⟨rest.el i, rest.el i⟩
def dayQ (s : Site) (low rest : Sl Int) (wm : Span) (q : Nat → Bool) : Day := ⟨outL s.cavs.len (pickQ low rest q), outL s.cavs.len (fun _ => wm)⟩
theorem app_same {e : List V} (k : Nat) : appGet k (fun _ => e) (fun _ => e) = fun _ => e := by
 funext i
 unfold appGet
 split <;> rfl
theorem pick_t {low rest : Sl Int} {q : Nat → Bool} {i : Nat} (h : q i = true) : eSpan (pickQ low rest q i) = [.int .i64 (low.el i), .int .i64 (low.el i)] := by unfold pickQ; rw [h]; rfl
theorem pick_f {low rest : Sl Int} {q : Nat → Bool} {i : Nat} (h : q i = false) : eSpan (pickQ low rest q i) = [.int .i64 (rest.el i), .int .i64 (rest.el i)] := by unfold pickQ; rw [h]; rfl
section
variable (s : Site) (low rest : Sl Int) (wm : Span) (b : Int)
abbrev H31 : List Slot := [(.box 28 (eSite s) true), (.box 29 [sl eInt 1 rest] true), (.box 29 [sl eInt 1 low] true), (.box 31 (eSpan wm) true)]
theorem l9031 (env : Env) (hl : low.len = s.cavs.len) (hr : rest.len = s.cavs.len) (h5 : s.cavs.len ≤ 5) : ∀ n i fu, s.cavs.len = i + n → n < fu → 1 ≤ i →
  L9031x1 env F b s low rest wm fu (i : Int) i i i (fun j => eSpan (pickQ low rest (bitB b) (min j (i - 1)))) i (fun _ => eSpan wm) =
   some ((.ret (.agg [.osl 4 0 s.cavs.len, .osl 5 0 s.cavs.len])), H31 s low rest wm ++ [.arr 31 2 s.cavs.len (fun j => eSpan ((outL s.cavs.len (pickQ low rest (bitB b))).el j)) true, .arr 31 2 s.cavs.len (fun _ => eSpan wm) true]) := by
 intro n
 induction n with
 | zero =>
  intro i fu h hf h1
  obtain ⟨fu, rfl⟩ : ∃ k, fu = k + 1 := ⟨fu - 1, by omega⟩
  obtain rfl : i = s.cavs.len := by omega
  rw [L9031x1s]
  simp only [Int.ofNat_lt, Nat.lt_irrefl, decide_false, pF]
  rfl
 | succ n ih =>
  intro i fu h hf h1
  obtain ⟨fu, rfl⟩ : ∃ k, fu = k + 1 := ⟨fu - 1, by omega⟩
  have hi : i < s.cavs.len := by omega
  rw [L9031x1s]
  simp only [Int.ofNat_lt, hi, show i < rest.len by omega, show i < low.len by omega, decide_true, pT, Int.natCast_nonneg, Int.toNat_natCast, decide_eq_false (show ¬ (i : Int) < 0 by omega), pF, show (i + 1) * 16 ≤ 140737488355328 by omega, wrS (show i < 4611686018427387904 by omega), app_same]
  have g := ih (i + 1) fu (by omega) (by omega) (by omega)
  rw [show i + 1 - 1 = i from rfl, ← app_enc eSpan (pickQ low rest (bitB b)) h1] at g
  have hb : (IntKind.wrap .i64 (((BitVec.toNat (HAnd.hAnd (BitVec.ofInt 64 (Int.fdiv b ((2 : Int) ^ (Min.min i 64)))) (BitVec.ofInt 64 (1 : Int)))) : Nat) : Int) == (1 : Int)) = bitB b i := rfl
  rw [hb]
  cases hq : bitB b i with
  | true => rw [cond_true, ← pick_t (low := low) (rest := rest) hq]; exact g
  | false => rw [cond_false, ← pick_f (low := low) (rest := rest) hq]; exact g
theorem s9031 (hl : low.len = s.cavs.len) (hr : rest.len = s.cavs.len) (h5 : s.cavs.len ≤ 5) (h1 : 1 ≤ s.cavs.len) (hF : 8 < F) :
  (E F (d + 1)).hv 31 [.int .i64 b, .optr 0 0 0, .optr 1 0 0, .optr 2 0 0, .optr 3 0 0] (H31 s low rest wm) =
   some ((.ret (.agg [.osl 4 0 s.cavs.len, .osl 5 0 s.cavs.len])), H31 s low rest wm ++ [.arr 31 2 s.cavs.len (fun j => eSpan ((outL s.cavs.len (pickQ low rest (bitB b))).el j)) true, .arr 31 2 s.cavs.len (fun _ => eSpan wm) true]) := by
 obtain ⟨fu, hfu⟩ : ∃ k, F = k + 1 := ⟨F - 1, by omega⟩
 have g0 := L9031x0s (E F d) F b s low rest wm fu
 rw [← hfu] at g0
 rw [E_hv, t9031, g0]
 have g := l9031 F s low rest wm b (E F d) hl hr h5 (s.cavs.len - 1) 1 fu (by omega) (by omega) (Nat.le_refl _)
 have e0 : (fun j => eSpan (pickQ low rest (bitB b) (min j (1 - 1)))) = fun _ => eSpan (pickQ low rest (bitB b) 0) := by funext j; rw [show min j (1 - 1) = 0 from Nat.min_zero j]
 rw [e0] at g
 simp only [zlt (show 0 < s.cavs.len by omega), zlt (show 0 < rest.len by omega), zlt (show 0 < low.len by omega), pT, wr1]
 have hb : (IntKind.wrap .i64 (((BitVec.toNat (HAnd.hAnd (BitVec.ofInt 64 (Int.fdiv b ((2 : Int) ^ 0))) (BitVec.ofInt 64 (1 : Int)))) : Nat) : Int) == (1 : Int)) = bitB b 0 := by unfold bitB; rw [show min 0 64 = 0 from rfl]
 rw [hb]
 cases hq : bitB b 0 with
 | true => rw [cond_true, ← pick_t (low := low) (rest := rest) hq]; exact g
 | false => rw [cond_false, ← pick_f (low := low) (rest := rest) hq]; exact g
end
noncomputable def okDay (s : Site) (y : Day) (b : Option (Sl Span)) (now : Sl Stt) : Bool := !farDay s y && (faultR 0 Mark.possible (marksOf s y b (some (moved s now y)))).isNone
theorem faultR_n (n n' : Int) (is : Mark → Bool) : ∀ l, (faultR n is l).isNone = (faultR n' is l).isNone
 | [] => rfl
 | (k, ms) :: r => by
  unfold faultR
  cases ms.find? is with
  | some m => rfl
  | none => exact faultR_n n n' is r
section
variable (s : Site) (low rest : Sl Int) (wm : Span) (S : Nat → List Int)
noncomputable abbrev dayB (b : Int) : Day := dayQ s low rest wm (bitB b)
noncomputable def go : Nat → Nat → Option (Sl Span) → Sl Stt → Option (List Int)
 | 0, _, _, _ => some []
 | r + 1, t, b, now => (S t).findSome? fun m => bif okDay s (dayB s low rest wm m) b now then (go r (t + 1) (some (dayB s low rest wm m).press) (moved s now (dayB s low rest wm m))).map (m :: ·) else none
end
theorem dayQ_ok {s : Site} {low rest : Sl Int} {wm : Span} (hl : PresOk s low) (hr : PresOk s rest) (hw : SpanIn wm 0 10000) (q : Nat → Bool) : DayOk s (dayQ s low rest wm q) := by
 refine ⟨⟨rfl, fun i hi => ?_⟩, rfl, fun i hi => hw⟩
 have hi : i < s.cavs.len := hi
 rw [show (dayQ s low rest wm q).press.el i = pickQ low rest q i from outL_el hi]
 have h1 := hl.2 i (by have := hl.1; omega)
 have h2 := hr.2 i (by have := hr.1; omega)
 unfold pickQ
 cases q i
 ·exact ⟨h2.1, Int.le_refl _, h2.2⟩
 ·exact ⟨h1.1, Int.le_refl _, h1.2⟩
theorem moved_same {s : Site} {l l' : Sl Stt} (h1 : 1 ≤ s.cavs.len) (h : l.len = s.cavs.len) (h' : l'.len = s.cavs.len) (he : ∀ i, i < s.cavs.len → l.el i = l'.el i) (y : Day) : moved s l y = moved s l' y := by
 show outL l.len (mv s l y) = outL l'.len (mv s l' y)
 rw [h, h']
 unfold outL
 congr 1
 funext i
 show mv s l y (min i (s.cavs.len - 1)) = mv s l' y (min i (s.cavs.len - 1))
 unfold mv
 rw [he _ (by omega)]
theorem go_same {s : Site} {low rest : Sl Int} {wm : Span} {S : Nat → List Int} {l l' : Sl Stt} (h1 : 1 ≤ s.cavs.len) (h : l.len = s.cavs.len) (h' : l'.len = s.cavs.len) (he : ∀ i, i < s.cavs.len → l.el i = l'.el i) (b : Option (Sl Span)) : ∀ r t, go s low rest wm S r t b l = go s low rest wm S r t b l'
 | 0, _ => rfl
 | r + 1, t => by
  unfold go okDay
  simp only [moved_same h1 h h' he]
end Go.Sim.Cr


namespace Go.Sim.Cr
open Go.Proofs
variable (F d : Nat)
theorem mget_mem : ∀ (es : List (V × V)) (x v : V), mget es x = some v → ∃ k, (k, v) ∈ es ∧ keyEq k x = true
 | [], _, _, h => by simp [mget] at h
 | (k, u) :: r, x, v, h => by
  simp only [mget] at h
  cases hk : keyEq k x with
  | true => rw [hk, cond_true] at h; cases h; exact ⟨k, by simp, hk⟩
  | false =>
   rw [hk, cond_false] at h
   obtain ⟨k', h1, h2⟩ := mget_mem r x v h
   exact ⟨k', by simp [h1], h2⟩
theorem mput_mem : ∀ (es : List (V × V)) (x v : V), ∀ p ∈ mput es x v, p ∈ es ∨ p = (x, v) ∨ ∃ k u, (k, u) ∈ es ∧ keyEq k x = true ∧ p = (k, v)
 | [], x, v, p, h => by simp only [mput, List.mem_singleton] at h; exact .inr (.inl h)
 | (k, u) :: r, x, v, p, h => by
  simp only [mput] at h
  cases hk : keyEq k x with
  | true =>
   rw [hk, cond_true, List.mem_cons] at h
   rcases h with h | h
   ·exact .inr (.inr ⟨k, u, by simp, hk, h⟩)
   ·exact .inl (by simp [h])
  | false =>
   rw [hk, cond_false, List.mem_cons] at h
   rcases h with h | h
   ·exact .inl (by simp [h])
   ·rcases mput_mem r x v p h with h | h | ⟨k', u', h1, h2⟩
    ·exact .inl (by simp [h])
    ·exact .inr (.inl h)
    ·exact .inr (.inr ⟨k', u', by simp [h1], h2⟩)
theorem mput_len : ∀ (es : List (V × V)) (x v : V), (mput es x v).length ≤ es.length + 1
 | [], _, _ => by simp [mput]
 | (k, u) :: r, x, v => by
  have := mput_len r x v
  simp only [mput]
  cases keyEq k x
  ·rw [cond_false]; simp only [List.length_cons]; omega
  ·rw [cond_true]; simp only [List.length_cons]; omega
abbrev keyL (n last : Int) (l : Sl Stt) : List V := [.int .i64 n, .int .i64 last, .int .i64 (mixI (decide (0 < l.len)) (l.el 0).rad.lo 0), .int .i64 (mixI (decide (0 < l.len)) (l.el 0).rad.hi 0), .int .i64 (mixI (decide (0 < l.len)) (l.el 0).vol.lo 0), .int .i64 (mixI (decide (0 < l.len)) (l.el 0).vol.hi 0), .int .i64 (mixI (decide (0 < l.len)) (l.el 0).lost.lo 0), .int .i64 (mixI (decide (0 < l.len)) (l.el 0).lost.hi 0), .int .i64 (mixI (decide (1 < l.len)) (l.el 1).rad.lo 0), .int .i64 (mixI (decide (1 < l.len)) (l.el 1).rad.hi 0), .int .i64 (mixI (decide (1 < l.len)) (l.el 1).vol.lo 0), .int .i64 (mixI (decide (1 < l.len)) (l.el 1).vol.hi 0), .int .i64 (mixI (decide (1 < l.len)) (l.el 1).lost.lo 0), .int .i64 (mixI (decide (1 < l.len)) (l.el 1).lost.hi 0), .int .i64 (mixI (decide (2 < l.len)) (l.el 2).rad.lo 0), .int .i64 (mixI (decide (2 < l.len)) (l.el 2).rad.hi 0), .int .i64 (mixI (decide (2 < l.len)) (l.el 2).vol.lo 0), .int .i64 (mixI (decide (2 < l.len)) (l.el 2).vol.hi 0), .int .i64 (mixI (decide (2 < l.len)) (l.el 2).lost.lo 0), .int .i64 (mixI (decide (2 < l.len)) (l.el 2).lost.hi 0), .int .i64 (mixI (decide (3 < l.len)) (l.el 3).rad.lo 0), .int .i64 (mixI (decide (3 < l.len)) (l.el 3).rad.hi 0), .int .i64 (mixI (decide (3 < l.len)) (l.el 3).vol.lo 0), .int .i64 (mixI (decide (3 < l.len)) (l.el 3).vol.hi 0), .int .i64 (mixI (decide (3 < l.len)) (l.el 3).lost.lo 0), .int .i64 (mixI (decide (3 < l.len)) (l.el 3).lost.hi 0), .int .i64 (mixI (decide (4 < l.len)) (l.el 4).rad.lo 0), .int .i64 (mixI (decide (4 < l.len)) (l.el 4).rad.hi 0), .int .i64 (mixI (decide (4 < l.len)) (l.el 4).vol.lo 0), .int .i64 (mixI (decide (4 < l.len)) (l.el 4).vol.hi 0), .int .i64 (mixI (decide (4 < l.len)) (l.el 4).lost.lo 0), .int .i64 (mixI (decide (4 < l.len)) (l.el 4).lost.hi 0)]
abbrev rgB (n last : Int) (l : Sl Stt) : Bool := ((rg n) && ((rg last) && ((rg (mixI (decide (0 < (Sl.len l))) ((l.el 0).rad.lo) (0 : Int))) && ((rg (mixI (decide (0 < (Sl.len l))) ((l.el 0).rad.hi) (0 : Int))) && ((rg (mixI (decide (0 < (Sl.len l))) ((l.el 0).vol.lo) (0 : Int))) && ((rg (mixI (decide (0 < (Sl.len l))) ((l.el 0).vol.hi) (0 : Int))) && ((rg (mixI (decide (0 < (Sl.len l))) ((l.el 0).lost.lo) (0 : Int))) && ((rg (mixI (decide (0 < (Sl.len l))) ((l.el 0).lost.hi) (0 : Int))) && ((rg (mixI (decide (1 < (Sl.len l))) ((l.el 1).rad.lo) (0 : Int))) && ((rg (mixI (decide (1 < (Sl.len l))) ((l.el 1).rad.hi) (0 : Int))) && ((rg (mixI (decide (1 < (Sl.len l))) ((l.el 1).vol.lo) (0 : Int))) && ((rg (mixI (decide (1 < (Sl.len l))) ((l.el 1).vol.hi) (0 : Int))) && ((rg (mixI (decide (1 < (Sl.len l))) ((l.el 1).lost.lo) (0 : Int))) && ((rg (mixI (decide (1 < (Sl.len l))) ((l.el 1).lost.hi) (0 : Int))) && ((rg (mixI (decide (2 < (Sl.len l))) ((l.el 2).rad.lo) (0 : Int))) && ((rg (mixI (decide (2 < (Sl.len l))) ((l.el 2).rad.hi) (0 : Int))) && ((rg (mixI (decide (2 < (Sl.len l))) ((l.el 2).vol.lo) (0 : Int))) && ((rg (mixI (decide (2 < (Sl.len l))) ((l.el 2).vol.hi) (0 : Int))) && ((rg (mixI (decide (2 < (Sl.len l))) ((l.el 2).lost.lo) (0 : Int))) && ((rg (mixI (decide (2 < (Sl.len l))) ((l.el 2).lost.hi) (0 : Int))) && ((rg (mixI (decide (3 < (Sl.len l))) ((l.el 3).rad.lo) (0 : Int))) && ((rg (mixI (decide (3 < (Sl.len l))) ((l.el 3).rad.hi) (0 : Int))) && ((rg (mixI (decide (3 < (Sl.len l))) ((l.el 3).vol.lo) (0 : Int))) && ((rg (mixI (decide (3 < (Sl.len l))) ((l.el 3).vol.hi) (0 : Int))) && ((rg (mixI (decide (3 < (Sl.len l))) ((l.el 3).lost.lo) (0 : Int))) && ((rg (mixI (decide (3 < (Sl.len l))) ((l.el 3).lost.hi) (0 : Int))) && ((rg (mixI (decide (4 < (Sl.len l))) ((l.el 4).rad.lo) (0 : Int))) && ((rg (mixI (decide (4 < (Sl.len l))) ((l.el 4).rad.hi) (0 : Int))) && ((rg (mixI (decide (4 < (Sl.len l))) ((l.el 4).vol.lo) (0 : Int))) && ((rg (mixI (decide (4 < (Sl.len l))) ((l.el 4).vol.hi) (0 : Int))) && ((rg (mixI (decide (4 < (Sl.len l))) ((l.el 4).lost.lo) (0 : Int))) && ((rg (mixI (decide (4 < (Sl.len l))) ((l.el 4).lost.hi) (0 : Int))) && true))))))))))))))))))))))))))))))))
theorem rg_ok {x : Int} (h : -9223372036854775808 ≤ x ∧ x ≤ 9223372036854775807) : (rg x) = true := by
 unfold rg; rw [Bool.and_eq_true, decide_eq_true_iff, decide_eq_true_iff]
 have : (2 : Int) ^ 63 = 9223372036854775808 := by decide
 omega
theorem mix_in {q n : Nat} {a : Int} (h : q < n → -9223372036854775808 ≤ a ∧ a ≤ 9223372036854775807) : -9223372036854775808 ≤ mixI (decide (q < n)) a 0 ∧ mixI (decide (q < n)) a 0 ≤ 9223372036854775807 := by
 unfold mixI
 by_cases hq : q < n
 ·rw [decide_eq_true hq]; exact h hq
 ·rw [decide_eq_false hq]; exact ⟨by show (-9223372036854775808 : Int) ≤ 0; omega, by show (0 : Int) ≤ 9223372036854775807; omega⟩
set_option maxRecDepth 100000 in
theorem rgB_ok {n last : Int} {l : Sl Stt} (hn : -9223372036854775808 ≤ n ∧ n ≤ 9223372036854775807) (hl : -9223372036854775808 ≤ last ∧ last ≤ 9223372036854775807) (h : ∀ i, i < l.len → SttOk (l.el i)) : rgB n last l = true := by
 have r0x0 := rg_ok (mix_in (q := 0) (n := l.len) (a := (l.el 0).rad.lo) fun hq => by have := h 0 hq; omega)
 have r0x1 := rg_ok (mix_in (q := 0) (n := l.len) (a := (l.el 0).rad.hi) fun hq => by have := h 0 hq; omega)
 have r0x2 := rg_ok (mix_in (q := 0) (n := l.len) (a := (l.el 0).vol.lo) fun hq => by have := h 0 hq; omega)
 have r0x3 := rg_ok (mix_in (q := 0) (n := l.len) (a := (l.el 0).vol.hi) fun hq => by have := h 0 hq; omega)
 have r0x4 := rg_ok (mix_in (q := 0) (n := l.len) (a := (l.el 0).lost.lo) fun hq => by have := h 0 hq; omega)
 have r0x5 := rg_ok (mix_in (q := 0) (n := l.len) (a := (l.el 0).lost.hi) fun hq => by have := h 0 hq; omega)
 have r1x0 := rg_ok (mix_in (q := 1) (n := l.len) (a := (l.el 1).rad.lo) fun hq => by have := h 1 hq; omega)
 have r1x1 := rg_ok (mix_in (q := 1) (n := l.len) (a := (l.el 1).rad.hi) fun hq => by have := h 1 hq; omega)
 have r1x2 := rg_ok (mix_in (q := 1) (n := l.len) (a := (l.el 1).vol.lo) fun hq => by have := h 1 hq; omega)
 have r1x3 := rg_ok (mix_in (q := 1) (n := l.len) (a := (l.el 1).vol.hi) fun hq => by have := h 1 hq; omega)
 have r1x4 := rg_ok (mix_in (q := 1) (n := l.len) (a := (l.el 1).lost.lo) fun hq => by have := h 1 hq; omega)
 have r1x5 := rg_ok (mix_in (q := 1) (n := l.len) (a := (l.el 1).lost.hi) fun hq => by have := h 1 hq; omega)
 have r2x0 := rg_ok (mix_in (q := 2) (n := l.len) (a := (l.el 2).rad.lo) fun hq => by have := h 2 hq; omega)
 have r2x1 := rg_ok (mix_in (q := 2) (n := l.len) (a := (l.el 2).rad.hi) fun hq => by have := h 2 hq; omega)
 have r2x2 := rg_ok (mix_in (q := 2) (n := l.len) (a := (l.el 2).vol.lo) fun hq => by have := h 2 hq; omega)
 have r2x3 := rg_ok (mix_in (q := 2) (n := l.len) (a := (l.el 2).vol.hi) fun hq => by have := h 2 hq; omega)
 have r2x4 := rg_ok (mix_in (q := 2) (n := l.len) (a := (l.el 2).lost.lo) fun hq => by have := h 2 hq; omega)
 have r2x5 := rg_ok (mix_in (q := 2) (n := l.len) (a := (l.el 2).lost.hi) fun hq => by have := h 2 hq; omega)
 have r3x0 := rg_ok (mix_in (q := 3) (n := l.len) (a := (l.el 3).rad.lo) fun hq => by have := h 3 hq; omega)
 have r3x1 := rg_ok (mix_in (q := 3) (n := l.len) (a := (l.el 3).rad.hi) fun hq => by have := h 3 hq; omega)
 have r3x2 := rg_ok (mix_in (q := 3) (n := l.len) (a := (l.el 3).vol.lo) fun hq => by have := h 3 hq; omega)
 have r3x3 := rg_ok (mix_in (q := 3) (n := l.len) (a := (l.el 3).vol.hi) fun hq => by have := h 3 hq; omega)
 have r3x4 := rg_ok (mix_in (q := 3) (n := l.len) (a := (l.el 3).lost.lo) fun hq => by have := h 3 hq; omega)
 have r3x5 := rg_ok (mix_in (q := 3) (n := l.len) (a := (l.el 3).lost.hi) fun hq => by have := h 3 hq; omega)
 have r4x0 := rg_ok (mix_in (q := 4) (n := l.len) (a := (l.el 4).rad.lo) fun hq => by have := h 4 hq; omega)
 have r4x1 := rg_ok (mix_in (q := 4) (n := l.len) (a := (l.el 4).rad.hi) fun hq => by have := h 4 hq; omega)
 have r4x2 := rg_ok (mix_in (q := 4) (n := l.len) (a := (l.el 4).vol.lo) fun hq => by have := h 4 hq; omega)
 have r4x3 := rg_ok (mix_in (q := 4) (n := l.len) (a := (l.el 4).vol.hi) fun hq => by have := h 4 hq; omega)
 have r4x4 := rg_ok (mix_in (q := 4) (n := l.len) (a := (l.el 4).lost.lo) fun hq => by have := h 4 hq; omega)
 have r4x5 := rg_ok (mix_in (q := 4) (n := l.len) (a := (l.el 4).lost.hi) fun hq => by have := h 4 hq; omega)
 simp only [rgB, rg_ok hn, rg_ok hl, r0x0, r0x1, r0x2, r0x3, r0x4, r0x5, r1x0, r1x1, r1x2, r1x3, r1x4, r1x5, r2x0, r2x1, r2x2, r2x3, r2x4, r2x5, r3x0, r3x1, r3x2, r3x3, r3x4, r3x5, r4x0, r4x1, r4x2, r4x3, r4x4, r4x5, Bool.and_self]
theorem keyI {a b : Int} {u v : List V} (h : keysEq (.int .i64 a :: u) (.int .i64 b :: v) = true) : a = b ∧ keysEq u v = true := by
 simp only [keysEq, keyEq1, decide_true, Bool.true_and, Bool.and_eq_true, beq_iff_eq] at h
 exact h
theorem mix_eq {q c n n' : Nat} {a a' : Int} (hn : n = c) (hn' : n' = c) (hq : q < c) (h : mixI (decide (q < n)) a 0 = mixI (decide (q < n')) a' 0) : a = a' := by
 subst hn
 subst hn'
 rw [decide_eq_true hq] at h
 exact h
set_option maxRecDepth 100000 in
theorem key_eq {c : Nat} (hc : c ≤ 5) {n n' last last' : Int} {l l' : Sl Stt} (hl : l.len = c) (hl' : l'.len = c) (h : keyEq (.agg (keyL n last l)) (.agg (keyL n' last' l')) = true) : n = n' ∧ last = last' ∧ ∀ i, i < c → l.el i = l'.el i := by
 have h : keysEq (keyL n last l) (keyL n' last' l') = true := h
 obtain ⟨e0, h⟩ := keyI h
 obtain ⟨e1, h⟩ := keyI h
 obtain ⟨f0x0, h⟩ := keyI h
 obtain ⟨f0x1, h⟩ := keyI h
 obtain ⟨f0x2, h⟩ := keyI h
 obtain ⟨f0x3, h⟩ := keyI h
 obtain ⟨f0x4, h⟩ := keyI h
 obtain ⟨f0x5, h⟩ := keyI h
 obtain ⟨f1x0, h⟩ := keyI h
 obtain ⟨f1x1, h⟩ := keyI h
 obtain ⟨f1x2, h⟩ := keyI h
 obtain ⟨f1x3, h⟩ := keyI h
 obtain ⟨f1x4, h⟩ := keyI h
 obtain ⟨f1x5, h⟩ := keyI h
 obtain ⟨f2x0, h⟩ := keyI h
 obtain ⟨f2x1, h⟩ := keyI h
 obtain ⟨f2x2, h⟩ := keyI h
 obtain ⟨f2x3, h⟩ := keyI h
 obtain ⟨f2x4, h⟩ := keyI h
 obtain ⟨f2x5, h⟩ := keyI h
 obtain ⟨f3x0, h⟩ := keyI h
 obtain ⟨f3x1, h⟩ := keyI h
 obtain ⟨f3x2, h⟩ := keyI h
 obtain ⟨f3x3, h⟩ := keyI h
 obtain ⟨f3x4, h⟩ := keyI h
 obtain ⟨f3x5, h⟩ := keyI h
 obtain ⟨f4x0, h⟩ := keyI h
 obtain ⟨f4x1, h⟩ := keyI h
 obtain ⟨f4x2, h⟩ := keyI h
 obtain ⟨f4x3, h⟩ := keyI h
 obtain ⟨f4x4, h⟩ := keyI h
 obtain ⟨f4x5, h⟩ := keyI h
 refine ⟨e0, e1, fun i hi => ?_⟩
 have ext : ∀ x y : Stt, x.rad.lo = y.rad.lo → x.rad.hi = y.rad.hi → x.vol.lo = y.vol.lo → x.vol.hi = y.vol.hi → x.lost.lo = y.lost.lo → x.lost.hi = y.lost.hi → x = y := by
  rintro ⟨⟨_, _⟩, ⟨_, _⟩, ⟨_, _⟩⟩ ⟨⟨_, _⟩, ⟨_, _⟩, ⟨_, _⟩⟩ g0 g1 g2 g3 g4 g5
  simp only at g0 g1 g2 g3 g4 g5
  rw [g0, g1, g2, g3, g4, g5]
 by_cases q0 : i = 0
 ·subst q0
  exact ext _ _ (mix_eq hl hl' hi f0x0) (mix_eq hl hl' hi f0x1) (mix_eq hl hl' hi f0x2) (mix_eq hl hl' hi f0x3) (mix_eq hl hl' hi f0x4) (mix_eq hl hl' hi f0x5)
 by_cases q1 : i = 1
 ·subst q1
  exact ext _ _ (mix_eq hl hl' hi f1x0) (mix_eq hl hl' hi f1x1) (mix_eq hl hl' hi f1x2) (mix_eq hl hl' hi f1x3) (mix_eq hl hl' hi f1x4) (mix_eq hl hl' hi f1x5)
 by_cases q2 : i = 2
 ·subst q2
  exact ext _ _ (mix_eq hl hl' hi f2x0) (mix_eq hl hl' hi f2x1) (mix_eq hl hl' hi f2x2) (mix_eq hl hl' hi f2x3) (mix_eq hl hl' hi f2x4) (mix_eq hl hl' hi f2x5)
 by_cases q3 : i = 3
 ·subst q3
  exact ext _ _ (mix_eq hl hl' hi f3x0) (mix_eq hl hl' hi f3x1) (mix_eq hl hl' hi f3x2) (mix_eq hl hl' hi f3x3) (mix_eq hl hl' hi f3x4) (mix_eq hl hl' hi f3x5)
 by_cases q4 : i = 4
 ·subst q4
  exact ext _ _ (mix_eq hl hl' hi f4x0) (mix_eq hl hl' hi f4x1) (mix_eq hl hl' hi f4x2) (mix_eq hl hl' hi f4x3) (mix_eq hl hl' hi f4x4) (mix_eq hl hl' hi f4x5)
 omega
section
variable (s : Site) (low rest : Sl Int) (wm : Span) (S : Nat → List Int) (N : Nat)
noncomputable def befOf (t : Nat) (last : Int) : Option (Sl Span) := if t = 0 then none else some (dayB s low rest wm last).press
def DeadOk (es : List (V × V)) : Prop := ∀ p ∈ es, ∃ (t : Nat) (last : Int) (l : Sl Stt), t ≤ N ∧ l.len = s.cavs.len ∧ p = (.agg (keyL (t : Int) last l), .bool true) ∧ go s low rest wm S (N - t) t (befOf s low rest wm t last) l = none
variable {s low rest wm S N}
theorem dead_get (h1 : 1 ≤ s.cavs.len) (h5 : s.cavs.len ≤ 5) {es : List (V × V)} (h : DeadOk s low rest wm S N es) {t : Nat} {last : Int} {l : Sl Stt} (hl : l.len = s.cavs.len) {v : V} (hv : mget es (.agg (keyL (t : Int) last l)) = some v) : v = .bool true ∧ go s low rest wm S (N - t) t (befOf s low rest wm t last) l = none := by
 obtain ⟨k, h2, h3⟩ := mget_mem _ _ _ hv
 obtain ⟨t', last', l', h4, h5', h6, h7⟩ := h _ h2
 cases h6
 obtain ⟨g1, g2, g3⟩ := key_eq h5 h5' hl h3
 have g1 : t' = t := by omega
 subst g1 g2
 exact ⟨rfl, by rw [← h7]; exact (go_same h1 h5' hl g3 _ _ _).symm⟩
theorem dead_put {es : List (V × V)} (h : DeadOk s low rest wm S N es) {t : Nat} {last : Int} {l : Sl Stt} (ht : t ≤ N) (hl : l.len = s.cavs.len) (hg : go s low rest wm S (N - t) t (befOf s low rest wm t last) l = none) : DeadOk s low rest wm S N (mput es (.agg (keyL (t : Int) last l)) (.bool true)) := by
 intro p hp
 rcases mput_mem _ _ _ p hp with h1 | h1 | ⟨k, u, h1, h2, h3⟩
 ·exact h p h1
 ·exact ⟨t, last, l, ht, hl, h1, hg⟩
 ·obtain ⟨t', last', l', h4, h5', h6, h7⟩ := h _ h1
  cases h6
  exact ⟨t', last', l', h4, h5', h3, h7⟩
end
end Go.Sim.Cr
