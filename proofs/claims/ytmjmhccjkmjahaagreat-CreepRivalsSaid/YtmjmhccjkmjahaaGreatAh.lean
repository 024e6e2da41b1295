import Derived.Test.YtmjmhccjkmjahaaGreatAg
set_option linter.unusedVariables false
set_option linter.unusedSimpArgs false
set_option linter.unusedSectionVars false

namespace Go.Sim.Cr
open Go.Proofs
variable (F d : Nat)
theorem s9036 (m : Mark) : (E F (d + 1)).pf 36 [.agg (eMark m)] = some (.ret (.bool m.possible)) := by rw [E_pf, t9036]
theorem l9102 (l : Sl Mark) (hB : l.len < Big) : ∀ n i fu, l.len = i + n → n < fu → L9102x0 (E F (d + 1)) F l fu (i : Int) = some (.ret (.int .i64 (ixF (fun j => (l.el j).possible) n i))) := by
 intro n
 induction n with
 | zero =>
  intro i fu h hf
  obtain ⟨fu, rfl⟩ : ∃ k, fu = k + 1 := ⟨fu - 1, by omega⟩
  rw [L9102x0s]
  simp only [Int.ofNat_lt, show ¬ i < l.len by omega, decide_false, cond_false, ixF]
 | succ n ih =>
  intro i fu h hf
  obtain ⟨fu, rfl⟩ : ∃ k, fu = k + 1 := ⟨fu - 1, by omega⟩
  rw [L9102x0s]
  simp only [Int.ofNat_lt, show i < l.len by omega, decide_true, cond_true, Int.natCast_nonneg, Int.toNat_natCast, s9036, tkOut_ret, tkBool_b, ixF, wrS (show i < Big by omega), ih (i + 1) fu (by omega) (by omega)]
  cases (l.el i).possible <;> rfl
theorem s9102 (ms : List Mark) (hB : ms.length < Big) (hF : ms.length < F) : (E F (d + 2)).pf 74 [rowM ms, .fn (.func 36) [] []] = some (.ret (.int .i64 (ixM Mark.possible ms))) := by
 rw [E_pf]
 cases ms with
 | nil =>
  refine (t9103 (E F (d + 1)) F).trans ?_
  obtain ⟨fu, rfl⟩ : ∃ k, F = k + 1 := ⟨F - 1, by simp at hF; omega⟩
  rw [L9103x0s]; rfl
 | cons m ms =>
  refine (t9102 (E F (d + 1)) F ⟨false, (m :: ms).length, fun j => (m :: ms).getD j ((m :: ms).getLastD zMark)⟩).trans ?_
  exact l9102 F d ⟨false, (m :: ms).length, fun j => (m :: ms).getD j ((m :: ms).getLastD zMark)⟩ hB (m :: ms).length 0 F (by simp) hF
theorem s9653 (s : Site) (y : Day) (B C : V) (n : Int) (f0 f1 f2 f3 f4 f5 : List Mark) (h0 : f0.length ≤ 100) (h1 : f1.length ≤ 100) (h2 : f2.length ≤ 100) (h3 : f3.length ≤ 100) (h4 : f4.length ≤ 100) (h5 : f5.length ≤ 100) (hF : 200 < F)
  (r0 : (E F (d + 2)).pf 68 [pTod s y B C] = some (.ret (rowM f0)))
  (r1 : (E F (d + 2)).pf 69 [pTod s y B C] = some (.ret (rowM f1)))
  (r2 : (E F (d + 2)).pf 70 [pTod s y B C] = some (.ret (rowM f2)))
  (r3 : (E F (d + 2)).pf 71 [pTod s y B C] = some (.ret (rowM f3)))
  (r4 : (E F (d + 2)).pf 72 [pTod s y B C] = some (.ret (rowM f4)))
  (r5 : (E F (d + 2)).pf 73 [pTod s y B C] = some (.ret (rowM f5)))
  : (E F (d + 3)).pf 35 [pTod s y B C, .int .i64 n, .fn (.func 36) [] []] = some (.ret (eFaultB (faultR n Mark.possible [(2, f0), (3, f1), (4, f2), (5, f3), (6, f4), (7, f5)]))) := by
 obtain ⟨F, rfl⟩ : ∃ k, F = k + 7 := ⟨F - 7, by omega⟩
 rw [E_pf, t9653]
 simp only [r0, tkOut_ret, tkRow_r, s9102 (F + 7) d f0 (show f0.length < 4611686018427387904 by omega) (by omega), tkInt_i, decide_true, cond_true]
 rcases ixM_find Mark.possible f0 with ⟨e0, x0⟩ | ⟨j, m, e0, x0, y0, z0⟩
 rotate_left
 ·simp only [x0, ne_of_lt y0, cond_false, gl_at z0, fR_some e0, k0, decide_true, cond_true, Int.natCast_nonneg, ge_iff_le, beq_self_eq_true, Int.ofNat_lt, y0, Int.toNat_natCast, tkCons_c, tkInt_i, List.drop]
 simp only [x0, neg1, cond_false]
 simp only [r1, tkOut_ret, tkRow_r, s9102 (F + 7) d f1 (show f1.length < 4611686018427387904 by omega) (by omega), tkInt_i, decide_true, cond_true]
 rcases ixM_find Mark.possible f1 with ⟨e1, x1⟩ | ⟨j, m, e1, x1, y1, z1⟩
 rotate_left
 ·simp only [x1, ne_of_lt y1, cond_false, gl_at z1, fR_some e1, fR_none e0, k1, decide_true, cond_true, Int.natCast_nonneg, ge_iff_le, beq_self_eq_true, Int.ofNat_lt, y1, Int.toNat_natCast, tkCons_c, tkInt_i, List.drop]
 simp only [x1, neg1, cond_false]
 simp only [r2, tkOut_ret, tkRow_r, s9102 (F + 7) d f2 (show f2.length < 4611686018427387904 by omega) (by omega), tkInt_i, decide_true, cond_true]
 rcases ixM_find Mark.possible f2 with ⟨e2, x2⟩ | ⟨j, m, e2, x2, y2, z2⟩
 rotate_left
 ·simp only [x2, ne_of_lt y2, cond_false, gl_at z2, fR_some e2, fR_none e0, fR_none e1, k2, decide_true, cond_true, Int.natCast_nonneg, ge_iff_le, beq_self_eq_true, Int.ofNat_lt, y2, Int.toNat_natCast, tkCons_c, tkInt_i, List.drop]
 simp only [x2, neg1, cond_false]
 simp only [r3, tkOut_ret, tkRow_r, s9102 (F + 7) d f3 (show f3.length < 4611686018427387904 by omega) (by omega), tkInt_i, decide_true, cond_true]
 rcases ixM_find Mark.possible f3 with ⟨e3, x3⟩ | ⟨j, m, e3, x3, y3, z3⟩
 rotate_left
 ·simp only [x3, ne_of_lt y3, cond_false, gl_at z3, fR_some e3, fR_none e0, fR_none e1, fR_none e2, k3, decide_true, cond_true, Int.natCast_nonneg, ge_iff_le, beq_self_eq_true, Int.ofNat_lt, y3, Int.toNat_natCast, tkCons_c, tkInt_i, List.drop]
 simp only [x3, neg1, cond_false]
 simp only [r4, tkOut_ret, tkRow_r, s9102 (F + 7) d f4 (show f4.length < 4611686018427387904 by omega) (by omega), tkInt_i, decide_true, cond_true]
 rcases ixM_find Mark.possible f4 with ⟨e4, x4⟩ | ⟨j, m, e4, x4, y4, z4⟩
 rotate_left
 ·simp only [x4, ne_of_lt y4, cond_false, gl_at z4, fR_some e4, fR_none e0, fR_none e1, fR_none e2, fR_none e3, k4, decide_true, cond_true, Int.natCast_nonneg, ge_iff_le, beq_self_eq_true, Int.ofNat_lt, y4, Int.toNat_natCast, tkCons_c, tkInt_i, List.drop]
 simp only [x4, neg1, cond_false]
 simp only [r5, tkOut_ret, tkRow_r, s9102 (F + 7) d f5 (show f5.length < 4611686018427387904 by omega) (by omega), tkInt_i, decide_true, cond_true]
 rcases ixM_find Mark.possible f5 with ⟨e5, x5⟩ | ⟨j, m, e5, x5, y5, z5⟩
 rotate_left
 ·simp only [x5, ne_of_lt y5, cond_false, gl_at z5, fR_some e5, fR_none e0, fR_none e1, fR_none e2, fR_none e3, fR_none e4, k5, decide_true, cond_true, Int.natCast_nonneg, ge_iff_le, beq_self_eq_true, Int.ofNat_lt, y5, Int.toNat_natCast, tkCons_c, tkInt_i, List.drop]
 simp only [x5, neg1, cond_false]
 rw [fR_none e0, fR_none e1, fR_none e2, fR_none e3, fR_none e4, fR_none e5]
 rfl
theorem s9035 (s : Site) (y : Day) (b : Option (Sl Span)) (m : Option (Sl Stt)) (n : Int) (hS : SiteF s) (hD : DayOk s y) (hb : ∀ x, b = some x → x.len = s.cavs.len ∧ ∀ i, i < x.len → SpanIn (x.el i) 0 50000) (hm : ∀ x, m = some x → StatesOk s x ∧ x.nl = false) (hF : 67108864 < F) :
  (E F (d + 7)).pf 35 [pTod s y (rowB_ b) (rowC_ m), .int .i64 n, .fn (.func 36) [] []] = some (.ret (eFaultB (faultR n Mark.possible (marksOf s y b m)))) := by
 have h1 := hS.cavs1
 have h5 := hS.cavs5
 have h6 := hS.houses5
 have hp := hD.1.1
 have r0 := s96 F (d + 5) s y (rowB_ b) (rowC_ m) hS hD (by omega)
 have r1 := s97 F (d + 5) s y (rowB_ b) (rowC_ m) h1 h5 hp (by omega)
 have r2 : (E F (d + 6)).pf 70 [pTod s y (rowB_ b) (rowC_ m)] = some (.ret (rowM (fastMs s y b))) := by
  cases b with
  | none => exact s98n F (d + 5) s y (rowC_ m) (by omega)
  | some x => exact s98 F (d + 5) s y x (rowC_ m) h1 h5 hD (hb x rfl).1 (hb x rfl).2 (by omega)
 have r3 : (E F (d + 6)).pf 71 [pTod s y (rowB_ b) (rowC_ m)] = some (.ret (rowM (smallMs s m))) := by
  cases m with
  | none => exact s99n F (d + 5) s y (rowB_ b) (by omega)
  | some x => exact s99 F (d + 5) s y x (rowB_ b) h1 h5 (hm x rfl).1.1 (by omega)
 have r4 : (E F (d + 6)).pf 72 [pTod s y (rowB_ b) (rowC_ m)] = some (.ret (rowM (thinMs s m))) := by
  cases m with
  | none => exact s100n F (d + 5) s y (rowB_ b)
  | some x => exact s100 F (d + 1) s y x (rowB_ b) hS (hm x rfl).1 (hm x rfl).2 hF
 have r5 : (E F (d + 6)).pf 73 [pTod s y (rowB_ b) (rowC_ m)] = some (.ret (rowM (sunkMs s m))) := by
  cases m with
  | none => exact s101n F (d + 5) s y (rowB_ b)
  | some x => exact s101 F (d + 3) s y x (rowB_ b) hS (hm x rfl).1 (hm x rfl).2 (by omega)
 have q0 : ((List.range' 0 s.cavs.len).map (outM s y)).length ≤ 100 := by simp; omega
 have q1 : ((List.range' 0 s.cavs.len).map (gateM s y)).length ≤ 100 := by simp; omega
 have q2 : (fastMs s y b).length ≤ 100 := by cases b <;> simp [fastMs]; omega
 have q3 : (smallMs s m).length ≤ 100 := by cases m <;> simp [smallMs]; omega
 have q4 : (thinMs s m).length ≤ 100 := by
  cases m with
  | none => simp [thinMs]
  | some x => have := pairs_len s x s.cavs.len 0 h5; show (pairsM s x s.cavs.len 0).length ≤ 100; omega
 have q5 : (sunkMs s m).length ≤ 100 := by cases m <;> simp [sunkMs]; omega
 exact s9653 F (d + 4) s y _ _ n _ _ _ _ _ _ q0 q1 q2 q3 q4 q5 (by omega) r0 r1 r2 r3 r4 r5
end Go.Sim.Cr


namespace Go.Sim.Cr
open Go.Proofs
section
variable {R : Type}
theorem qHv (v : V) (h : List Slot) (f : R) (k : V → List Slot → R) : tkHv (some (.ret v, h)) f k = k v h := Eq.trans (Eq.refl _) (Eq.refl _)
theorem qSC (s : Slot) (l : List Slot) (f : R) (k : Slot → List Slot → R) : tkSCons (s :: l) f k = k s l := Eq.trans (Eq.refl _) (Eq.refl _)
theorem qSN (f k : R) : tkSNil [] f k = k := Eq.trans (Eq.refl _) (Eq.refl _)
theorem qBox (e : Nat) (c : List V) (w : Bool) (f : R) (k : Nat → List V → Bool → R) : tkBox (.box e c w) f k = k e c w := Eq.trans (Eq.refl _) (Eq.refl _)
theorem qArr (e wd n : Nat) (g : Nat → List V) (w : Bool) (f : R) (k : Nat → Nat → Nat → (Nat → List V) → Bool → R) : tkArr (.arr e wd n g w) f k = k e wd n g w := Eq.trans (Eq.refl _) (Eq.refl _)
theorem qMp (a : Bool) (ks : List KS) (es : List (V × V)) (w : Bool) (f : R) (k : Bool → List KS → List (V × V) → Bool → R) : tkMp (.mp a ks es w) f k = k a ks es w := Eq.trans (Eq.refl _) (Eq.refl _)
theorem qSlr (a : Bool) (n wd : Nat) (g : Nat → List V) (f : R) (k : Bool → Nat → Nat → (Nat → List V) → R) (k' : Nat → Nat → Nat → R) : tkSl (.row a n wd g) f k k' = k a n wd g := Eq.trans (Eq.refl _) (Eq.refl _)
theorem qSlo (b lo n : Nat) (f : R) (k : Bool → Nat → Nat → (Nat → List V) → R) (k' : Nat → Nat → Nat → R) : tkSl (.osl b lo n) f k k' = k' b lo n := Eq.trans (Eq.refl _) (Eq.refl _)
theorem qDead (f k : R) : tkDead .dead f k = k := Eq.trans (Eq.refl _) (Eq.refl _)
theorem qSame (a : Slot) (f k : R) : tkSame a a f k = k := by unfold tkSame; rw [if_pos rfl]
theorem qBool (b : Bool) (f : R) (k : Bool → R) : tkBool (.bool b) f k = k b := Eq.trans (Eq.refl _) (Eq.refl _)
theorem qOn (kn : R) (k : V → R) : tkOpt none kn k = kn := Eq.trans (Eq.refl _) (Eq.refl _)
theorem qOs (v : V) (kn : R) (k : V → R) : tkOpt (some v) kn k = k v := Eq.trans (Eq.refl _) (Eq.refl _)
theorem qRow (a : Bool) (n wd : Nat) (g : Nat → List V) (f : R) (k : Bool → Nat → Nat → (Nat → List V) → R) : tkRow (.row a n wd g) f k = k a n wd g := Eq.trans (Eq.refl _) (Eq.refl _)
end
abbrev K32 : List KS := [KS.int .i64, KS.int .i64, KS.int .i64, KS.int .i64, KS.int .i64, KS.int .i64, KS.int .i64, KS.int .i64, KS.int .i64, KS.int .i64, KS.int .i64, KS.int .i64, KS.int .i64, KS.int .i64, KS.int .i64, KS.int .i64, KS.int .i64, KS.int .i64, KS.int .i64, KS.int .i64, KS.int .i64, KS.int .i64, KS.int .i64, KS.int .i64, KS.int .i64, KS.int .i64, KS.int .i64, KS.int .i64, KS.int .i64, KS.int .i64, KS.int .i64, KS.int .i64]
theorem n1413 : Nat.beq 14 13 = false := by decide
theorem n1213 : Nat.beq 12 999 = false := by decide
theorem kK32 : ksEq K32 K32 = true := by decide
abbrev RIs (r : Rw) (l : List Int) : Prop := r.len = l.length ∧ (l ≠ [] → r.wd = 1) ∧ ∀ i, i < l.length → r.get i = [.int .i64 (l.getD i 0)]
def cnt : Nat → Nat
 | 0 => 0
 | r + 1 => 1 + 6 * cnt r
section
variable (s : Site) (low rest : Sl Int) (wm : Span) (nd : Sl Int)
abbrev HA (out : V) (es : List (V × V)) (x : List Slot) : List Slot := (.box 29 [(sl eInt 1 nd)] true) :: (.box 77 [(.mapr 7)] true) :: (.box 28 (eSite s) true) :: (.box 76 [(.fn (.func 31) [] [(.optr 2 0 0), (.optr 8 0 0), (.optr 9 0 0), (.optr 10 0 0)])] true) :: (.box 73 [(.optr 11 0 0)] true) :: (.box 35 [out] true) :: (.box 78 [(.fn (.func 32) [] [(.optr 0 0 0), (.optr 1 0 0), (.optr 2 0 0), (.optr 3 0 0), (.optr 4 0 0), (.optr 5 0 0), (.optr 6 0 0)])] true) :: (.mp true K32 es true) :: (.box 29 [(sl eInt 1 rest)] true) :: (.box 29 [(sl eInt 1 low)] true) :: (.box 31 (eSpan wm) true) :: (.box 75 (eSite s) false) :: x
abbrev HB (pr : Sl Span) (out : V) (es : List (V × V)) (x : List Slot) : List Slot := (.arr 31 2 pr.len (fun u => eSpan (pr.el u)) false) :: (.box 29 [(sl eInt 1 nd)] true) :: (.box 77 [(.mapr 8)] true) :: (.box 28 (eSite s) true) :: (.box 76 [(.fn (.func 31) [] [(.optr 3 0 0), (.optr 9 0 0), (.optr 10 0 0), (.optr 11 0 0)])] true) :: (.box 73 [(.optr 12 0 0)] true) :: (.box 35 [out] true) :: (.box 78 [(.fn (.func 32) [] [(.optr 1 0 0), (.optr 2 0 0), (.optr 3 0 0), (.optr 4 0 0), (.optr 5 0 0), (.optr 6 0 0), (.optr 7 0 0)])] true) :: (.mp true K32 es true) :: (.box 29 [(sl eInt 1 rest)] true) :: (.box 29 [(sl eInt 1 low)] true) :: (.box 31 (eSpan wm) true) :: (.box 75 (eSite s) false) :: x
end
def Res (lst : Int → List Int) (res : Option (List Int)) (t : Nat) (T : Nat → Rw) (m' : Nat) (T' : Nat → Rw) : Prop := t ≤ m' ∧ (∀ i, i < t → T' i = T i) ∧ ∀ ms, res = some ms → m' = t + ms.length ∧ ∀ j, j < ms.length → RIs (T' (t + j)) (lst (ms.getD j 0))
theorem app_rw {k : Nat} {T : Nat → Rw} {r : Rw} : appGet k (fun i => eRw (T i)) (fun _ => [.row r.nl r.len r.wd r.get]) = fun i => eRw (if i < k then T i else r) := by
 funext i
 unfold appGet
 by_cases h : i < k
 ·rw [if_pos h, if_pos h]
 ·rw [if_neg h, if_neg h]
structure Ask (F d : Nat) (s : Site) (low rest : Sl Int) (wm : Span) (nd : Sl Int) (S : Nat → List Int) (lst : Int → List Int) : Prop where
 site : SiteF s
 low_ : PresOk s low
 rest_ : PresOk s rest
 wm_ : SpanIn wm 0 10000
 fuel : 67108864 < F
 days : nd.len ≤ 60
 six : ∀ t, (S t).length ≤ 6
 m64 : ∀ t m, m ∈ S t → -9223372036854775808 ≤ m ∧ m ≤ 9223372036854775807
 h33 : ∀ e t, t < nd.len → ∃ r : Rw, (E F (d + 50 + e)).pf 33 [.int .i64 (s.cavs.len : Int), .int .i64 (nd.el t)] = some (.ret (.row r.nl r.len r.wd r.get)) ∧ RIs r (S t)
 h37 : ∀ e t m, t < nd.len → m ∈ S t → ∃ r : Rw, (E F (d + 50 + e)).pf 37 [.int .i64 m] = some (.ret (.row r.nl r.len r.wd r.get)) ∧ RIs r (lst m)
section
variable (F d : Nat) (s : Site) (low rest : Sl Int) (wm : Span) (nd : Sl Int) (S : Nat → List Int) (lst : Int → List Int)
def SB (r : Nat) : Prop := ∀ (t : Nat) (last : Int) (l : Sl Stt) (es : List (V × V)) (mm : Nat) (T : Nat → Rw), t + r = nd.len → 1 ≤ t → StatesOk s l → l.nl = false → (-9223372036854775808 ≤ last ∧ last ≤ 9223372036854775807) →
  DeadOk s low rest wm S nd.len es → es.length + cnt r ≤ 100000000000 →
  ∃ es' m' mm' T', ((mm' = mm ∧ T' = T ∧ (E F (d + 51 + r)).hv 32 [.int .i64 (t : Int), .osl 0 0 (dayB s low rest wm last).press.len, sl eStt 6 l, .int .i64 last, .optr 1 0 0, .optr 2 0 0, .optr 3 0 0, .optr 4 0 0, .optr 5 0 0, .optr 6 0 0, .optr 7 0 0] (HB s low rest wm nd (dayB s low rest wm last).press (.osl 13 0 t) es [.arr 29 1 mm (fun i => eRw (T i)) true]) =
    some (.ret (.bool (go s low rest wm S r t (some (dayB s low rest wm last).press) l).isSome), HB s low rest wm nd (dayB s low rest wm last).press (.osl 13 0 m') es' [.arr 29 1 mm (fun i => eRw (T i)) true])) ∨
   (E F (d + 51 + r)).hv 32 [.int .i64 (t : Int), .osl 0 0 (dayB s low rest wm last).press.len, sl eStt 6 l, .int .i64 last, .optr 1 0 0, .optr 2 0 0, .optr 3 0 0, .optr 4 0 0, .optr 5 0 0, .optr 6 0 0, .optr 7 0 0] (HB s low rest wm nd (dayB s low rest wm last).press (.osl 13 0 t) es [.arr 29 1 mm (fun i => eRw (T i)) true]) =
    some (.ret (.bool (go s low rest wm S r t (some (dayB s low rest wm last).press) l).isSome), HB s low rest wm nd (dayB s low rest wm last).press (.osl 14 0 m') es' [.dead, .arr 29 1 mm' (fun i => eRw (T' i)) true])) ∧
   DeadOk s low rest wm S nd.len es' ∧ es'.length ≤ es.length + cnt r ∧ Res lst (go s low rest wm S r t (some (dayB s low rest wm last).press) l) t T m' T'
variable {F d s low rest wm nd S lst}
noncomputable abbrev fB (s : Site) (low rest : Sl Int) (wm : Span) (S : Nat → List Int) (r t : Nat) (b : Option (Sl Span)) (l : Sl Stt) (m : Int) : Option (List Int) := bif okDay s (dayB s low rest wm m) b l then (go s low rest wm S r (t + 1) (some (dayB s low rest wm m).press) (moved s l (dayB s low rest wm m))).map (m :: ·) else none
theorem find_drop {f : Int → Option (List Int)} {L : List Int} {k : Nat} (h : (L.take k).findSome? f = none) : L.findSome? f = (L.drop k).findSome? f := by
 conv => lhs; rw [← List.take_append_drop k L]
 rw [List.findSome?_append, h]; rfl
theorem take_none {f : Int → Option (List Int)} {L : List Int} {k : Nat} (h : (L.take k).findSome? f = none) (hk : k < L.length) (hf : f (L.getD k 0) = none) : (L.take (k + 1)).findSome? f = none := by
 rw [List.take_succ_eq_append_getElem hk, List.findSome?_append, h]
 rw [List.getD_eq_getElem?_getD, List.getElem?_eq_getElem hk] at hf
 simp only [List.findSome?_cons, List.findSome?_nil, Option.getD_some] at hf ⊢
 rw [hf]; rfl
theorem drop_find {f : Int → Option (List Int)} {L : List Int} {k : Nat} (hk : k < L.length) : (L.drop k).findSome? f = (match f (L.getD k 0) with | some x => some x | none => (L.drop (k + 1)).findSome? f) := by
 rw [List.drop_eq_getElem_cons hk, List.findSome?_cons, List.getD_eq_getElem?_getD, List.getElem?_eq_getElem hk, Option.getD_some]
 cases f L[k] <;> rfl
end
end Go.Sim.Cr


set_option maxRecDepth 100000
namespace Go.Sim.Cr
open Go.Proofs
section
variable {F d : Nat} {s : Site} {low rest : Sl Int} {wm : Span} {nd : Sl Int} {S : Nat → List Int} {lst : Int → List Int}
set_option maxHeartbeats 4000000
theorem l9132x1 (A : Ask F d s low rest wm nd S lst) {r t : Nat} (ht : t + (r + 1) = nd.len) (h1t : 1 ≤ t) (ih : SB F d s low rest wm nd S lst r) {last : Int} {l : Sl Stt} (hL : StatesOk s l) (hnl : l.nl = false) (hlast : -9223372036854775808 ≤ last ∧ last ≤ 9223372036854775807) (R0 : Rw) (hR : RIs R0 (S t)) (T : Nat → Rw) (es0 : List (V × V)) (mq mmq : Nat) (gq : Nat → List V) : ∀ (n k fu : Nat) (es : List (V × V)) (mm1 : Nat) (T1 : Nat → Rw), (S t).length = k + n → n < fu → DeadOk s low rest wm S nd.len es → es.length + n * cnt r + 1 ≤ 100000000000 → (∀ i, i < t → T1 i = T i) → ((S t).take k).findSome? (fB s low rest wm S r t (some (dayB s low rest wm last).press) l) = none →
  ∃ es' m' mm' T', L9132x1 (E F (d + 51 + r)) F s low rest wm nd es0 (t : Int) last l (dayB s low rest wm last).press mq mmq gq fu R0.nl R0.len R0.wd R0.get ((R0.len : Nat) : Int) (k : Int) es mm1 (fun i => eRw (T1 i)) = some (.ret (.bool (((S t).drop k).findSome? (fB s low rest wm S r t (some (dayB s low rest wm last).press) l)).isSome), HB s low rest wm nd (dayB s low rest wm last).press (.osl 14 0 m') es' [.dead, .arr 29 1 mm' (fun i => eRw (T' i)) true]) ∧
   DeadOk s low rest wm S nd.len es' ∧ es'.length ≤ es.length + n * cnt r + 1 ∧ Res lst (((S t).drop k).findSome? (fB s low rest wm S r t (some (dayB s low rest wm last).press) l)) t T m' T' := by
 have hS := A.site
 have h1 := hS.cavs1
 have h5 := hS.cavs5
 have hF := A.fuel
 have hdays := A.days
 have hrg := rgB_ok (n := (t : Int)) (last := last) (l := l) (by omega) hlast (by have := hL.2; exact this)
 unfold rgB at hrg
 have hbef : befOf s low rest wm t last = (some (dayB s low rest wm last).press) := by unfold befOf; rw [if_neg (by omega)]
 have hsubr : nd.len - t = r + 1 := by omega
 intro n
 induction n with
 | zero =>
  intro k fu es mm1 T1 h hf hD hle hT hno
  obtain ⟨fu, rfl⟩ : ∃ q, fu = q + 1 := ⟨fu - 1, by omega⟩
  have hdk : (S t).drop k = [] := List.drop_eq_nil_of_le (by omega)
  have hgo : go s low rest wm S (nd.len - t) t (befOf s low rest wm t last) l = none := by
   rw [hsubr, hbef]
   show (S t).findSome? (fB s low rest wm S r t (some (dayB s low rest wm last).press) l) = none
   rw [find_drop hno, hdk]; rfl
  rw [L9132x1s, decide_eq_false (show ¬ (k : Int) < ((R0.len : Nat) : Int) by have := hR.1; omega), cond_false, hrg, cond_true, decide_eq_true (show es.length < 1000000000000 by omega), cond_true, hdk]
  refine ⟨mput es (.agg (keyL (t : Int) last l)) (.bool true), t, mm1, T1, ?_, dead_put hD (by omega) hL.1 hgo, ?_, Nat.le_refl _, hT, fun ms hms => by cases hms⟩
  ·rw [Int.toNat_natCast]; rfl
  ·have := mput_len es (.agg (keyL (t : Int) last l)) (.bool true); omega
 | succ n hin =>
  intro k fu es mm1 T1 h hf hD hle hT hno
  obtain ⟨fu, rfl⟩ : ∃ q, fu = q + 1 := ⟨fu - 1, by omega⟩
  have hk : k < (S t).length := by omega
  have hmem : (S t).getD k 0 ∈ S t := by rw [List.getD_eq_getElem?_getD, List.getElem?_eq_getElem hk]; exact List.getElem_mem hk
  have hmul : (n + 1) * cnt r = n * cnt r + cnt r := by rw [Nat.add_mul, Nat.one_mul]
  have hwd : (R0.wd == 1) = true := by rw [hR.2.1 (fun he => by rw [he] at hk; cases hk)]; rfl
  have hget := hR.2.2 k hk
  have hDay := dayQ_ok A.low_ A.rest_ A.wm_ (bitB ((S t).getD k 0))
  have hDay0 := dayQ_ok A.low_ A.rest_ A.wm_ (bitB last)
  have e31 : (E F (d + 51 + r)).hv 31 [.int .i64 ((S t).getD k 0), .optr 0 0 0, .optr 1 0 0, .optr 2 0 0, .optr 3 0 0] [(.box 28 (eSite s) true), (.box 29 [sl eInt 1 rest] true), (.box 29 [sl eInt 1 low] true), (.box 31 (eSpan wm) true)] =
    some (.ret (.agg [.osl 4 0 s.cavs.len, .osl 5 0 s.cavs.len]), [(.box 28 (eSite s) true), (.box 29 [sl eInt 1 rest] true), (.box 29 [sl eInt 1 low] true), (.box 31 (eSpan wm) true), .arr 31 2 s.cavs.len (fun j => eSpan ((dayB s low rest wm ((S t).getD k 0)).press.el j)) true, .arr 31 2 s.cavs.len (fun _ => eSpan wm) true]) := by
   have := s9031 F (d + 50 + r) s low rest wm ((S t).getD k 0) A.low_.1 A.rest_.1 h5 h1 (by omega)
   rw [show d + 50 + r + 1 = d + 51 + r by omega] at this
   exact this
  have e34 : (E F (d + 51 + r)).pf 34 [pSite s, sl eStt 6 l, .agg [.row false s.cavs.len 2 (fun j => eSpan ((dayB s low rest wm ((S t).getD k 0)).press.el j)), .row false s.cavs.len 2 (fun _ => eSpan wm)]] = some (.ret (moveR s l (dayB s low rest wm ((S t).getD k 0)))) := by
   have := s51 F (d + 44 + r) s l (dayB s low rest wm ((S t).getD k 0)) hS hL hDay (by omega)
   rw [show d + 44 + r + 7 = d + 51 + r by omega] at this
   exact this
  rw [L9132x1s]
  simp only [decide_eq_true (show (k : Int) < ((R0.len : Nat) : Int) by have := hR.1; omega), hwd, Int.natCast_nonneg, decide_true, Int.toNat_natCast, hget, e31, e34, moveR, wrS (show k < 4611686018427387904 by have := A.six t; omega), qHv, qSC, qSN, qBox, qArr, qMp, qSlr, qSlo, qDead, qSame, qBool, qRow, pOut, pTup, pCons, pAgg, pInt, pNil, pT, pF, Nat.beq_refl, Bool.and_self, beq_self_eq_true, Bool.true_and, Bool.and_true]
  cases hfar : farDay s (dayB s low rest wm ((S t).getD k 0)) with
  | true =>
   have hfk : (fB s low rest wm S r t (some (dayB s low rest wm last).press) l) ((S t).getD k 0) = none := by simp only [fB, okDay, hfar, Bool.not_true, Bool.false_and, cond_false]
   obtain ⟨es', m', mm', T', g1, g2, g3, g4⟩ := hin (k + 1) fu es mm1 T1 (by omega) (by omega) hD (by omega) hT (take_none hno hk hfk)
   rw [drop_find hk, hfk]
   simp only [pT, pTup, pCons, pRow, qRow, qBool, pNil, Bool.not_false]
   exact ⟨es', m', mm', T', g1, g2, by omega, g4⟩
  | false =>
   have hML := moved_ok hS hL hDay hfar
   have e35 : (E F (d + 51 + r)).pf 35 [.rptr 1 5 (fun _ => [pSite s, .row false s.cavs.len 2 (fun j => eSpan ((dayB s low rest wm ((S t).getD k 0)).press.el j)), .row false s.cavs.len 2 (fun _ => eSpan wm), .row false (dayB s low rest wm last).press.len 2 (fun u => eSpan ((dayB s low rest wm last).press.el u)), .row (moved s l (dayB s low rest wm ((S t).getD k 0))).nl (moved s l (dayB s low rest wm ((S t).getD k 0))).len 6 (fun i => eStt ((moved s l (dayB s low rest wm ((S t).getD k 0))).el i))]) 0 0, .int .i64 (t : Int), .fn (.func 36) [] []] = some (.ret (eFaultB (faultR (t : Int) Mark.possible (marksOf s (dayB s low rest wm ((S t).getD k 0)) (some (dayB s low rest wm last).press) (some (moved s l (dayB s low rest wm ((S t).getD k 0)))))))) := by
    have := s9035 F (d + 44 + r) s (dayB s low rest wm ((S t).getD k 0)) (some (dayB s low rest wm last).press) (some (moved s l (dayB s low rest wm ((S t).getD k 0)))) (t : Int) hS hDay (by intro x hx; cases hx; exact ⟨rfl, hDay0.1.2⟩) (by intro x hx; cases hx; exact ⟨hML, rfl⟩) (by omega)
    rw [show d + 44 + r + 7 = d + 51 + r by omega] at this
    exact this
   simp only [pF, pTup, pCons, pRow, qRow, qBool, pNil, Bool.not_true, e35, pOut]
   cases hfr : faultR (t : Int) Mark.possible (marksOf s (dayB s low rest wm ((S t).getD k 0)) (some (dayB s low rest wm last).press) (some (moved s l (dayB s low rest wm ((S t).getD k 0))))) with
   | some ff =>
    have hfk : (fB s low rest wm S r t (some (dayB s low rest wm last).press) l) ((S t).getD k 0) = none := by
     have := faultR_n 0 (t : Int) Mark.possible (marksOf s (dayB s low rest wm ((S t).getD k 0)) (some (dayB s low rest wm last).press) (some (moved s l (dayB s low rest wm ((S t).getD k 0)))))
     rw [hfr] at this
     simp only [fB, okDay, this, Option.isNone_some, Bool.and_false, cond_false]
    obtain ⟨es', m', mm', T', g1, g2, g3, g4⟩ := hin (k + 1) fu es mm1 T1 (by omega) (by omega) hD (by omega) hT (take_none hno hk hfk)
    rw [drop_find hk, hfk]
    simp only [eFaultB, pTup, pCons, pAgg, pInt, pNil, qBool, pT]
    exact ⟨es', m', mm', T', g1, g2, by omega, g4⟩
   | none =>
    have hfk : (fB s low rest wm S r t (some (dayB s low rest wm last).press) l) ((S t).getD k 0) = (go s low rest wm S r (t + 1) (some (dayB s low rest wm ((S t).getD k 0)).press) (moved s l (dayB s low rest wm ((S t).getD k 0)))).map ((S t).getD k 0 :: ·) := by
     have := faultR_n 0 (t : Int) Mark.possible (marksOf s (dayB s low rest wm ((S t).getD k 0)) (some (dayB s low rest wm last).press) (some (moved s l (dayB s low rest wm ((S t).getD k 0)))))
     rw [hfr] at this
     simp only [fB, okDay, this, hfar, Option.isNone_none, Bool.not_false, Bool.and_self, cond_true]
    obtain ⟨rb, e37', hrb⟩ := A.h37 (1 + r) t ((S t).getD k 0) (by omega) hmem
    have e37 : (E F (d + 51 + r)).pf 37 [.int .i64 ((S t).getD k 0)] = some (.ret (.row rb.nl rb.len rb.wd rb.get)) := by
     rw [show d + 50 + (1 + r) = d + 51 + r by omega] at e37'
     exact e37'
    obtain ⟨es', m', mm', T', hcall, hD', hlen, hle', hT', hfound⟩ := ih (t + 1) ((S t).getD k 0) (moved s l (dayB s low rest wm ((S t).getD k 0))) es (t + 1) (fun i => if i < t then T1 i else rb) (by omega) (by omega) hML rfl (A.m64 t _ hmem) hD (by omega)
    have hTT : ∀ i, i < t → T' i = T i := fun i hi => by
     rw [hT' i (by omega)]
     show (if i < t then T1 i else rb) = T i
     rw [if_pos hi, hT i hi]
    simp only [eFaultB, pTup, pCons, pAgg, pInt, pNil, qBool, pF, e37, pOut, pRow, qRow, decide_eq_true (show (t + 1) * 24 ≤ 140737488355328 by omega), pT, wrS (show t < 4611686018427387904 by omega), app_rw]
    have fin : ∀ (mmx : Nat) (Tx : Nat → Rw), (∀ i, i < t → Tx i = T i) → (go s low rest wm S r (t + 1) (some (dayB s low rest wm ((S t).getD k 0)).press) (moved s l (dayB s low rest wm ((S t).getD k 0))) = none → ∃ es2 m2 mm2 T2, L9132x1 (E F (d + 51 + r)) F s low rest wm nd es0 (t : Int) last l (dayB s low rest wm last).press mq mmq gq fu R0.nl R0.len R0.wd R0.get ((R0.len : Nat) : Int) ((k + 1 : Nat) : Int) es' mmx (fun i => eRw (Tx i)) = some (.ret (.bool (((S t).drop k).findSome? (fB s low rest wm S r t (some (dayB s low rest wm last).press) l)).isSome), HB s low rest wm nd (dayB s low rest wm last).press (.osl 14 0 m2) es2 [.dead, .arr 29 1 mm2 (fun i => eRw (T2 i)) true]) ∧ DeadOk s low rest wm S nd.len es2 ∧ es2.length ≤ es.length + (n + 1) * cnt r + 1 ∧ Res lst (((S t).drop k).findSome? (fB s low rest wm S r t (some (dayB s low rest wm last).press) l)) t T m2 T2) := by
     intro mmx Tx hTx hgn
     rw [hgn] at hfk
     have hfk' : (fB s low rest wm S r t (some (dayB s low rest wm last).press) l) ((S t).getD k 0) = none := hfk
     obtain ⟨es2, m2, mm2, T2, g1, g2, g3, g4⟩ := hin (k + 1) fu es' mmx Tx (by omega) (by omega) hD' (by omega) hTx (take_none hno hk hfk')
     rw [drop_find hk, hfk']
     exact ⟨es2, m2, mm2, T2, g1, g2, by omega, g4⟩
    have found : ∀ ms, go s low rest wm S r (t + 1) (some (dayB s low rest wm ((S t).getD k 0)).press) (moved s l (dayB s low rest wm ((S t).getD k 0))) = some ms → (((S t).drop k).findSome? (fB s low rest wm S r t (some (dayB s low rest wm last).press) l) = some ((S t).getD k 0 :: ms)) ∧ Res lst (some ((S t).getD k 0 :: ms)) t T m' T' := by
     intro ms hgs
     obtain ⟨q1, q2⟩ := hfound ms hgs
     rw [drop_find hk, hfk, hgs]
     refine ⟨rfl, by omega, hTT, fun ms' hms => ?_⟩
     cases hms
     refine ⟨by simp only [List.length_cons]; omega, fun j hj => ?_⟩
     cases j with
     | zero =>
      have : T' (t + 0) = rb := by
       rw [hT' (t + 0) (by omega)]
       show (if t + 0 < t then T1 (t + 0) else rb) = rb
       rw [if_neg (by omega)]
      rw [this]
      exact hrb
     | succ j =>
      have := q2 j (by simpa using hj)
      rw [show t + 1 + j = t + (j + 1) by omega] at this
      exact this
    rcases hcall with ⟨rfl, rfl, hcall⟩ | hcall
    ·have e32 : (E F (d + 51 + r)).hv 32 [.int .i64 ((t + 1 : Nat) : Int), .osl 0 0 s.cavs.len, .row (moved s l (dayB s low rest wm ((S t).getD k 0))).nl (moved s l (dayB s low rest wm ((S t).getD k 0))).len 6 (fun i => eStt ((moved s l (dayB s low rest wm ((S t).getD k 0))).el i)), .int .i64 ((S t).getD k 0), .optr 1 0 0, .optr 2 0 0, .optr 3 0 0, .optr 4 0 0, .optr 5 0 0, .optr 6 0 0, .optr 7 0 0] [(.arr 31 2 s.cavs.len (fun j => eSpan ((dayB s low rest wm ((S t).getD k 0)).press.el j)) false), (.box 29 [(sl eInt 1 nd)] true), (.box 77 [(.mapr 8)] true), (.box 28 (eSite s) true), (.box 76 [(.fn (.func 31) [] [(.optr 3 0 0), (.optr 9 0 0), (.optr 10 0 0), (.optr 11 0 0)])] true), (.box 73 [(.optr 12 0 0)] true), (.box 35 [(.osl 13 0 (t + 1))] true), (.box 78 [(.fn (.func 32) [] [(.optr 1 0 0), (.optr 2 0 0), (.optr 3 0 0), (.optr 4 0 0), (.optr 5 0 0), (.optr 6 0 0), (.optr 7 0 0)])] true), (.mp true K32 es true), (.box 29 [(sl eInt 1 rest)] true), (.box 29 [(sl eInt 1 low)] true), (.box 31 (eSpan wm) true), (.box 75 (eSite s) false), (.arr 29 1 (t + 1) (fun i => eRw (if i < t then T1 i else rb)) true)] = some (.ret (.bool (go s low rest wm S r (t + 1) (some (dayB s low rest wm ((S t).getD k 0)).press) (moved s l (dayB s low rest wm ((S t).getD k 0)))).isSome), [(.arr 31 2 s.cavs.len (fun j => eSpan ((dayB s low rest wm ((S t).getD k 0)).press.el j)) false), (.box 29 [(sl eInt 1 nd)] true), (.box 77 [(.mapr 8)] true), (.box 28 (eSite s) true), (.box 76 [(.fn (.func 31) [] [(.optr 3 0 0), (.optr 9 0 0), (.optr 10 0 0), (.optr 11 0 0)])] true), (.box 73 [(.optr 12 0 0)] true), (.box 35 [(.osl 13 0 m')] true), (.box 78 [(.fn (.func 32) [] [(.optr 1 0 0), (.optr 2 0 0), (.optr 3 0 0), (.optr 4 0 0), (.optr 5 0 0), (.optr 6 0 0), (.optr 7 0 0)])] true), (.mp true K32 es' true), (.box 29 [(sl eInt 1 rest)] true), (.box 29 [(sl eInt 1 low)] true), (.box 31 (eSpan wm) true), (.box 75 (eSite s) false), (.arr 29 1 (t + 1) (fun i => eRw (if i < t then T1 i else rb)) true)]) := hcall
     simp only [e32, qHv, qSC, qSN, qBox, qArr, qMp, qSlr, qSlo, qDead, qSame, qBool, qRow, pOut, pTup, pCons, pAgg, pInt, pNil, pT, pF, Nat.beq_refl, Bool.and_self, beq_self_eq_true, Bool.true_and, Bool.and_true, kK32]
     cases hg : go s low rest wm S r (t + 1) (some (dayB s low rest wm ((S t).getD k 0)).press) (moved s l (dayB s low rest wm ((S t).getD k 0))) with
     | some ms =>
      obtain ⟨q1, q2⟩ := found ms hg
      rw [q1]
      simp only [Option.isSome_some, pT]
      exact ⟨es', m', (t + 1), _, rfl, hD', by omega, q2⟩
     | none =>
      simp only [Option.isSome_none, pF, Int.natCast_nonneg, decide_true, pT, decide_eq_true (show t ≤ m' by omega)]
      exact fin _ _ hTT hg
    ·have e32 : (E F (d + 51 + r)).hv 32 [.int .i64 ((t + 1 : Nat) : Int), .osl 0 0 s.cavs.len, .row (moved s l (dayB s low rest wm ((S t).getD k 0))).nl (moved s l (dayB s low rest wm ((S t).getD k 0))).len 6 (fun i => eStt ((moved s l (dayB s low rest wm ((S t).getD k 0))).el i)), .int .i64 ((S t).getD k 0), .optr 1 0 0, .optr 2 0 0, .optr 3 0 0, .optr 4 0 0, .optr 5 0 0, .optr 6 0 0, .optr 7 0 0] [(.arr 31 2 s.cavs.len (fun j => eSpan ((dayB s low rest wm ((S t).getD k 0)).press.el j)) false), (.box 29 [(sl eInt 1 nd)] true), (.box 77 [(.mapr 8)] true), (.box 28 (eSite s) true), (.box 76 [(.fn (.func 31) [] [(.optr 3 0 0), (.optr 9 0 0), (.optr 10 0 0), (.optr 11 0 0)])] true), (.box 73 [(.optr 12 0 0)] true), (.box 35 [(.osl 13 0 (t + 1))] true), (.box 78 [(.fn (.func 32) [] [(.optr 1 0 0), (.optr 2 0 0), (.optr 3 0 0), (.optr 4 0 0), (.optr 5 0 0), (.optr 6 0 0), (.optr 7 0 0)])] true), (.mp true K32 es true), (.box 29 [(sl eInt 1 rest)] true), (.box 29 [(sl eInt 1 low)] true), (.box 31 (eSpan wm) true), (.box 75 (eSite s) false), (.arr 29 1 (t + 1) (fun i => eRw (if i < t then T1 i else rb)) true)] = some (.ret (.bool (go s low rest wm S r (t + 1) (some (dayB s low rest wm ((S t).getD k 0)).press) (moved s l (dayB s low rest wm ((S t).getD k 0)))).isSome), [(.arr 31 2 s.cavs.len (fun j => eSpan ((dayB s low rest wm ((S t).getD k 0)).press.el j)) false), (.box 29 [(sl eInt 1 nd)] true), (.box 77 [(.mapr 8)] true), (.box 28 (eSite s) true), (.box 76 [(.fn (.func 31) [] [(.optr 3 0 0), (.optr 9 0 0), (.optr 10 0 0), (.optr 11 0 0)])] true), (.box 73 [(.optr 12 0 0)] true), (.box 35 [(.osl 14 0 m')] true), (.box 78 [(.fn (.func 32) [] [(.optr 1 0 0), (.optr 2 0 0), (.optr 3 0 0), (.optr 4 0 0), (.optr 5 0 0), (.optr 6 0 0), (.optr 7 0 0)])] true), (.mp true K32 es' true), (.box 29 [(sl eInt 1 rest)] true), (.box 29 [(sl eInt 1 low)] true), (.box 31 (eSpan wm) true), (.box 75 (eSite s) false), .dead, (.arr 29 1 mm' (fun i => eRw (T' i)) true)]) := hcall
     simp only [e32, qHv, qSC, qSN, qBox, qArr, qMp, qSlr, qSlo, qDead, qSame, qBool, qRow, pOut, pTup, pCons, pAgg, pInt, pNil, pT, pF, Nat.beq_refl, Bool.and_self, beq_self_eq_true, Bool.true_and, Bool.and_true, kK32, n1413]
     cases hg : go s low rest wm S r (t + 1) (some (dayB s low rest wm ((S t).getD k 0)).press) (moved s l (dayB s low rest wm ((S t).getD k 0))) with
     | some ms =>
      obtain ⟨q1, q2⟩ := found ms hg
      rw [q1]
      simp only [Option.isSome_some, pT]
      exact ⟨es', m', mm', T', rfl, hD', by omega, q2⟩
     | none =>
      simp only [Option.isSome_none, pF, Int.natCast_nonneg, decide_true, pT, decide_eq_true (show t ≤ m' by omega)]
      exact fin _ _ hTT hg
theorem l9032x1 (A : Ask F d s low rest wm nd S lst) {r t : Nat} (ht : t + (r + 1) = nd.len) (h0t : t = 0) (ih : SB F d s low rest wm nd S lst r) {last : Int} {l : Sl Stt} (hL : StatesOk s l) (hnl : l.nl = false) (hlast : -9223372036854775808 ≤ last ∧ last ≤ 9223372036854775807) (R0 : Rw) (hR : RIs R0 (S t)) (T : Nat → Rw) (es0 : List (V × V))  : ∀ (n k fu : Nat) (es : List (V × V)) (mm1 : Nat) (T1 : Nat → Rw), (S t).length = k + n → n < fu → DeadOk s low rest wm S nd.len es → es.length + n * cnt r + 1 ≤ 100000000000 → (∀ i, i < t → T1 i = T i) → ((S t).take k).findSome? (fB s low rest wm S r t none l) = none →
  ∃ es' m' mm' T', L9032x1 (E F (d + 51 + r)) F s low rest wm nd es0 (t : Int) last l fu R0.nl R0.len R0.wd R0.get ((R0.len : Nat) : Int) (k : Int) es mm1 (fun i => eRw (T1 i)) = some (.ret (.bool (((S t).drop k).findSome? (fB s low rest wm S r t none l)).isSome), HA s low rest wm nd (.osl 12 0 m') es' [.arr 29 1 mm' (fun i => eRw (T' i)) true]) ∧
   DeadOk s low rest wm S nd.len es' ∧ es'.length ≤ es.length + n * cnt r + 1 ∧ Res lst (((S t).drop k).findSome? (fB s low rest wm S r t none l)) t T m' T' := by
 have hS := A.site
 have h1 := hS.cavs1
 have h5 := hS.cavs5
 have hF := A.fuel
 have hdays := A.days
 have hrg := rgB_ok (n := (t : Int)) (last := last) (l := l) (by omega) hlast (by have := hL.2; exact this)
 unfold rgB at hrg
 have hbef : befOf s low rest wm t last = none := by unfold befOf; rw [if_pos h0t]
 have hsubr : nd.len - t = r + 1 := by omega
 intro n
 induction n with
 | zero =>
  intro k fu es mm1 T1 h hf hD hle hT hno
  obtain ⟨fu, rfl⟩ : ∃ q, fu = q + 1 := ⟨fu - 1, by omega⟩
  have hdk : (S t).drop k = [] := List.drop_eq_nil_of_le (by omega)
  have hgo : go s low rest wm S (nd.len - t) t (befOf s low rest wm t last) l = none := by
   rw [hsubr, hbef]
   show (S t).findSome? (fB s low rest wm S r t none l) = none
   rw [find_drop hno, hdk]; rfl
  rw [L9032x1s, decide_eq_false (show ¬ (k : Int) < ((R0.len : Nat) : Int) by have := hR.1; omega), cond_false, hrg, cond_true, decide_eq_true (show es.length < 1000000000000 by omega), cond_true, hdk]
  refine ⟨mput es (.agg (keyL (t : Int) last l)) (.bool true), t, mm1, T1, ?_, dead_put hD (by omega) hL.1 hgo, ?_, Nat.le_refl _, hT, fun ms hms => by cases hms⟩
  ·rw [Int.toNat_natCast]; rfl
  ·have := mput_len es (.agg (keyL (t : Int) last l)) (.bool true); omega
 | succ n hin =>
  intro k fu es mm1 T1 h hf hD hle hT hno
  obtain ⟨fu, rfl⟩ : ∃ q, fu = q + 1 := ⟨fu - 1, by omega⟩
  have hk : k < (S t).length := by omega
  have hmem : (S t).getD k 0 ∈ S t := by rw [List.getD_eq_getElem?_getD, List.getElem?_eq_getElem hk]; exact List.getElem_mem hk
  have hmul : (n + 1) * cnt r = n * cnt r + cnt r := by rw [Nat.add_mul, Nat.one_mul]
  have hwd : (R0.wd == 1) = true := by rw [hR.2.1 (fun he => by rw [he] at hk; cases hk)]; rfl
  have hget := hR.2.2 k hk
  have hDay := dayQ_ok A.low_ A.rest_ A.wm_ (bitB ((S t).getD k 0))
  have hDay0 := dayQ_ok A.low_ A.rest_ A.wm_ (bitB last)
  have e31 : (E F (d + 51 + r)).hv 31 [.int .i64 ((S t).getD k 0), .optr 0 0 0, .optr 1 0 0, .optr 2 0 0, .optr 3 0 0] [(.box 28 (eSite s) true), (.box 29 [sl eInt 1 rest] true), (.box 29 [sl eInt 1 low] true), (.box 31 (eSpan wm) true)] =
    some (.ret (.agg [.osl 4 0 s.cavs.len, .osl 5 0 s.cavs.len]), [(.box 28 (eSite s) true), (.box 29 [sl eInt 1 rest] true), (.box 29 [sl eInt 1 low] true), (.box 31 (eSpan wm) true), .arr 31 2 s.cavs.len (fun j => eSpan ((dayB s low rest wm ((S t).getD k 0)).press.el j)) true, .arr 31 2 s.cavs.len (fun _ => eSpan wm) true]) := by
   have := s9031 F (d + 50 + r) s low rest wm ((S t).getD k 0) A.low_.1 A.rest_.1 h5 h1 (by omega)
   rw [show d + 50 + r + 1 = d + 51 + r by omega] at this
   exact this
  have e34 : (E F (d + 51 + r)).pf 34 [pSite s, sl eStt 6 l, .agg [.row false s.cavs.len 2 (fun j => eSpan ((dayB s low rest wm ((S t).getD k 0)).press.el j)), .row false s.cavs.len 2 (fun _ => eSpan wm)]] = some (.ret (moveR s l (dayB s low rest wm ((S t).getD k 0)))) := by
   have := s51 F (d + 44 + r) s l (dayB s low rest wm ((S t).getD k 0)) hS hL hDay (by omega)
   rw [show d + 44 + r + 7 = d + 51 + r by omega] at this
   exact this
  rw [L9032x1s]
  simp only [decide_eq_true (show (k : Int) < ((R0.len : Nat) : Int) by have := hR.1; omega), hwd, Int.natCast_nonneg, decide_true, Int.toNat_natCast, hget, e31, e34, moveR, wrS (show k < 4611686018427387904 by have := A.six t; omega), qHv, qSC, qSN, qBox, qArr, qMp, qSlr, qSlo, qDead, qSame, qBool, qRow, pOut, pTup, pCons, pAgg, pInt, pNil, pT, pF, Nat.beq_refl, Bool.and_self, beq_self_eq_true, Bool.true_and, Bool.and_true]
  cases hfar : farDay s (dayB s low rest wm ((S t).getD k 0)) with
  | true =>
   have hfk : (fB s low rest wm S r t none l) ((S t).getD k 0) = none := by simp only [fB, okDay, hfar, Bool.not_true, Bool.false_and, cond_false]
   obtain ⟨es', m', mm', T', g1, g2, g3, g4⟩ := hin (k + 1) fu es mm1 T1 (by omega) (by omega) hD (by omega) hT (take_none hno hk hfk)
   rw [drop_find hk, hfk]
   simp only [pT, pTup, pCons, pRow, qRow, qBool, pNil, Bool.not_false]
   exact ⟨es', m', mm', T', g1, g2, by omega, g4⟩
  | false =>
   have hML := moved_ok hS hL hDay hfar
   have e35 : (E F (d + 51 + r)).pf 35 [.rptr 1 5 (fun _ => [pSite s, .row false s.cavs.len 2 (fun j => eSpan ((dayB s low rest wm ((S t).getD k 0)).press.el j)), .row false s.cavs.len 2 (fun _ => eSpan wm), .row true 0 0 (fun _ => []), .row (moved s l (dayB s low rest wm ((S t).getD k 0))).nl (moved s l (dayB s low rest wm ((S t).getD k 0))).len 6 (fun i => eStt ((moved s l (dayB s low rest wm ((S t).getD k 0))).el i))]) 0 0, .int .i64 (t : Int), .fn (.func 36) [] []] = some (.ret (eFaultB (faultR (t : Int) Mark.possible (marksOf s (dayB s low rest wm ((S t).getD k 0)) none (some (moved s l (dayB s low rest wm ((S t).getD k 0)))))))) := by
    have := s9035 F (d + 44 + r) s (dayB s low rest wm ((S t).getD k 0)) none (some (moved s l (dayB s low rest wm ((S t).getD k 0)))) (t : Int) hS hDay (by intro x hx; cases hx) (by intro x hx; cases hx; exact ⟨hML, rfl⟩) (by omega)
    rw [show d + 44 + r + 7 = d + 51 + r by omega] at this
    exact this
   simp only [pF, pTup, pCons, pRow, qRow, qBool, pNil, Bool.not_true, e35, pOut]
   cases hfr : faultR (t : Int) Mark.possible (marksOf s (dayB s low rest wm ((S t).getD k 0)) none (some (moved s l (dayB s low rest wm ((S t).getD k 0))))) with
   | some ff =>
    have hfk : (fB s low rest wm S r t none l) ((S t).getD k 0) = none := by
     have := faultR_n 0 (t : Int) Mark.possible (marksOf s (dayB s low rest wm ((S t).getD k 0)) none (some (moved s l (dayB s low rest wm ((S t).getD k 0)))))
     rw [hfr] at this
     simp only [fB, okDay, this, Option.isNone_some, Bool.and_false, cond_false]
    obtain ⟨es', m', mm', T', g1, g2, g3, g4⟩ := hin (k + 1) fu es mm1 T1 (by omega) (by omega) hD (by omega) hT (take_none hno hk hfk)
    rw [drop_find hk, hfk]
    simp only [eFaultB, pTup, pCons, pAgg, pInt, pNil, qBool, pT]
    exact ⟨es', m', mm', T', g1, g2, by omega, g4⟩
   | none =>
    have hfk : (fB s low rest wm S r t none l) ((S t).getD k 0) = (go s low rest wm S r (t + 1) (some (dayB s low rest wm ((S t).getD k 0)).press) (moved s l (dayB s low rest wm ((S t).getD k 0)))).map ((S t).getD k 0 :: ·) := by
     have := faultR_n 0 (t : Int) Mark.possible (marksOf s (dayB s low rest wm ((S t).getD k 0)) none (some (moved s l (dayB s low rest wm ((S t).getD k 0)))))
     rw [hfr] at this
     simp only [fB, okDay, this, hfar, Option.isNone_none, Bool.not_false, Bool.and_self, cond_true]
    obtain ⟨rb, e37', hrb⟩ := A.h37 (1 + r) t ((S t).getD k 0) (by omega) hmem
    have e37 : (E F (d + 51 + r)).pf 37 [.int .i64 ((S t).getD k 0)] = some (.ret (.row rb.nl rb.len rb.wd rb.get)) := by
     rw [show d + 50 + (1 + r) = d + 51 + r by omega] at e37'
     exact e37'
    obtain ⟨es', m', mm', T', hcall, hD', hlen, hle', hT', hfound⟩ := ih (t + 1) ((S t).getD k 0) (moved s l (dayB s low rest wm ((S t).getD k 0))) es (t + 1) (fun i => if i < t then T1 i else rb) (by omega) (by omega) hML rfl (A.m64 t _ hmem) hD (by omega)
    have hTT : ∀ i, i < t → T' i = T i := fun i hi => by
     rw [hT' i (by omega)]
     show (if i < t then T1 i else rb) = T i
     rw [if_pos hi, hT i hi]
    simp only [eFaultB, pTup, pCons, pAgg, pInt, pNil, qBool, pF, e37, pOut, pRow, qRow, decide_eq_true (show (t + 1) * 24 ≤ 140737488355328 by omega), pT, wrS (show t < 4611686018427387904 by omega), app_rw]
    have fin : ∀ (mmx : Nat) (Tx : Nat → Rw), (∀ i, i < t → Tx i = T i) → (go s low rest wm S r (t + 1) (some (dayB s low rest wm ((S t).getD k 0)).press) (moved s l (dayB s low rest wm ((S t).getD k 0))) = none → ∃ es2 m2 mm2 T2, L9032x1 (E F (d + 51 + r)) F s low rest wm nd es0 (t : Int) last l fu R0.nl R0.len R0.wd R0.get ((R0.len : Nat) : Int) ((k + 1 : Nat) : Int) es' mmx (fun i => eRw (Tx i)) = some (.ret (.bool (((S t).drop k).findSome? (fB s low rest wm S r t none l)).isSome), HA s low rest wm nd (.osl 12 0 m2) es2 [.arr 29 1 mm2 (fun i => eRw (T2 i)) true]) ∧ DeadOk s low rest wm S nd.len es2 ∧ es2.length ≤ es.length + (n + 1) * cnt r + 1 ∧ Res lst (((S t).drop k).findSome? (fB s low rest wm S r t none l)) t T m2 T2) := by
     intro mmx Tx hTx hgn
     rw [hgn] at hfk
     have hfk' : (fB s low rest wm S r t none l) ((S t).getD k 0) = none := hfk
     obtain ⟨es2, m2, mm2, T2, g1, g2, g3, g4⟩ := hin (k + 1) fu es' mmx Tx (by omega) (by omega) hD' (by omega) hTx (take_none hno hk hfk')
     rw [drop_find hk, hfk']
     exact ⟨es2, m2, mm2, T2, g1, g2, by omega, g4⟩
    have found : ∀ ms, go s low rest wm S r (t + 1) (some (dayB s low rest wm ((S t).getD k 0)).press) (moved s l (dayB s low rest wm ((S t).getD k 0))) = some ms → (((S t).drop k).findSome? (fB s low rest wm S r t none l) = some ((S t).getD k 0 :: ms)) ∧ Res lst (some ((S t).getD k 0 :: ms)) t T m' T' := by
     intro ms hgs
     obtain ⟨q1, q2⟩ := hfound ms hgs
     rw [drop_find hk, hfk, hgs]
     refine ⟨rfl, by omega, hTT, fun ms' hms => ?_⟩
     cases hms
     refine ⟨by simp only [List.length_cons]; omega, fun j hj => ?_⟩
     cases j with
     | zero =>
      have : T' (t + 0) = rb := by
       rw [hT' (t + 0) (by omega)]
       show (if t + 0 < t then T1 (t + 0) else rb) = rb
       rw [if_neg (by omega)]
      rw [this]
      exact hrb
     | succ j =>
      have := q2 j (by simpa using hj)
      rw [show t + 1 + j = t + (j + 1) by omega] at this
      exact this
    rcases hcall with ⟨rfl, rfl, hcall⟩ | hcall
    ·have e32 : (E F (d + 51 + r)).hv 32 [.int .i64 ((t + 1 : Nat) : Int), .osl 0 0 s.cavs.len, .row (moved s l (dayB s low rest wm ((S t).getD k 0))).nl (moved s l (dayB s low rest wm ((S t).getD k 0))).len 6 (fun i => eStt ((moved s l (dayB s low rest wm ((S t).getD k 0))).el i)), .int .i64 ((S t).getD k 0), .optr 1 0 0, .optr 2 0 0, .optr 3 0 0, .optr 4 0 0, .optr 5 0 0, .optr 6 0 0, .optr 7 0 0] [(.arr 31 2 s.cavs.len (fun j => eSpan ((dayB s low rest wm ((S t).getD k 0)).press.el j)) false), (.box 29 [(sl eInt 1 nd)] true), (.box 77 [(.mapr 8)] true), (.box 28 (eSite s) true), (.box 76 [(.fn (.func 31) [] [(.optr 3 0 0), (.optr 9 0 0), (.optr 10 0 0), (.optr 11 0 0)])] true), (.box 73 [(.optr 12 0 0)] true), (.box 35 [(.osl 13 0 (t + 1))] true), (.box 78 [(.fn (.func 32) [] [(.optr 1 0 0), (.optr 2 0 0), (.optr 3 0 0), (.optr 4 0 0), (.optr 5 0 0), (.optr 6 0 0), (.optr 7 0 0)])] true), (.mp true K32 es true), (.box 29 [(sl eInt 1 rest)] true), (.box 29 [(sl eInt 1 low)] true), (.box 31 (eSpan wm) true), (.box 75 (eSite s) false), (.arr 29 1 (t + 1) (fun i => eRw (if i < t then T1 i else rb)) true)] = some (.ret (.bool (go s low rest wm S r (t + 1) (some (dayB s low rest wm ((S t).getD k 0)).press) (moved s l (dayB s low rest wm ((S t).getD k 0)))).isSome), [(.arr 31 2 s.cavs.len (fun j => eSpan ((dayB s low rest wm ((S t).getD k 0)).press.el j)) false), (.box 29 [(sl eInt 1 nd)] true), (.box 77 [(.mapr 8)] true), (.box 28 (eSite s) true), (.box 76 [(.fn (.func 31) [] [(.optr 3 0 0), (.optr 9 0 0), (.optr 10 0 0), (.optr 11 0 0)])] true), (.box 73 [(.optr 12 0 0)] true), (.box 35 [(.osl 13 0 m')] true), (.box 78 [(.fn (.func 32) [] [(.optr 1 0 0), (.optr 2 0 0), (.optr 3 0 0), (.optr 4 0 0), (.optr 5 0 0), (.optr 6 0 0), (.optr 7 0 0)])] true), (.mp true K32 es' true), (.box 29 [(sl eInt 1 rest)] true), (.box 29 [(sl eInt 1 low)] true), (.box 31 (eSpan wm) true), (.box 75 (eSite s) false), (.arr 29 1 (t + 1) (fun i => eRw (if i < t then T1 i else rb)) true)]) := hcall
     simp only [e32, qHv, qSC, qSN, qBox, qArr, qMp, qSlr, qSlo, qDead, qSame, qBool, qRow, pOut, pTup, pCons, pAgg, pInt, pNil, pT, pF, Nat.beq_refl, Bool.and_self, beq_self_eq_true, Bool.true_and, Bool.and_true, kK32]
     cases hg : go s low rest wm S r (t + 1) (some (dayB s low rest wm ((S t).getD k 0)).press) (moved s l (dayB s low rest wm ((S t).getD k 0))) with
     | some ms =>
      obtain ⟨q1, q2⟩ := found ms hg
      rw [q1]
      simp only [Option.isSome_some, pT]
      exact ⟨es', m', (t + 1), _, rfl, hD', by omega, q2⟩
     | none =>
      simp only [Option.isSome_none, pF, Int.natCast_nonneg, decide_true, pT, decide_eq_true (show t ≤ m' by omega)]
      exact fin _ _ hTT hg
    ·have e32 : (E F (d + 51 + r)).hv 32 [.int .i64 ((t + 1 : Nat) : Int), .osl 0 0 s.cavs.len, .row (moved s l (dayB s low rest wm ((S t).getD k 0))).nl (moved s l (dayB s low rest wm ((S t).getD k 0))).len 6 (fun i => eStt ((moved s l (dayB s low rest wm ((S t).getD k 0))).el i)), .int .i64 ((S t).getD k 0), .optr 1 0 0, .optr 2 0 0, .optr 3 0 0, .optr 4 0 0, .optr 5 0 0, .optr 6 0 0, .optr 7 0 0] [(.arr 31 2 s.cavs.len (fun j => eSpan ((dayB s low rest wm ((S t).getD k 0)).press.el j)) false), (.box 29 [(sl eInt 1 nd)] true), (.box 77 [(.mapr 8)] true), (.box 28 (eSite s) true), (.box 76 [(.fn (.func 31) [] [(.optr 3 0 0), (.optr 9 0 0), (.optr 10 0 0), (.optr 11 0 0)])] true), (.box 73 [(.optr 12 0 0)] true), (.box 35 [(.osl 13 0 (t + 1))] true), (.box 78 [(.fn (.func 32) [] [(.optr 1 0 0), (.optr 2 0 0), (.optr 3 0 0), (.optr 4 0 0), (.optr 5 0 0), (.optr 6 0 0), (.optr 7 0 0)])] true), (.mp true K32 es true), (.box 29 [(sl eInt 1 rest)] true), (.box 29 [(sl eInt 1 low)] true), (.box 31 (eSpan wm) true), (.box 75 (eSite s) false), (.arr 29 1 (t + 1) (fun i => eRw (if i < t then T1 i else rb)) true)] = some (.ret (.bool (go s low rest wm S r (t + 1) (some (dayB s low rest wm ((S t).getD k 0)).press) (moved s l (dayB s low rest wm ((S t).getD k 0)))).isSome), [(.arr 31 2 s.cavs.len (fun j => eSpan ((dayB s low rest wm ((S t).getD k 0)).press.el j)) false), (.box 29 [(sl eInt 1 nd)] true), (.box 77 [(.mapr 8)] true), (.box 28 (eSite s) true), (.box 76 [(.fn (.func 31) [] [(.optr 3 0 0), (.optr 9 0 0), (.optr 10 0 0), (.optr 11 0 0)])] true), (.box 73 [(.optr 12 0 0)] true), (.box 35 [(.osl 14 0 m')] true), (.box 78 [(.fn (.func 32) [] [(.optr 1 0 0), (.optr 2 0 0), (.optr 3 0 0), (.optr 4 0 0), (.optr 5 0 0), (.optr 6 0 0), (.optr 7 0 0)])] true), (.mp true K32 es' true), (.box 29 [(sl eInt 1 rest)] true), (.box 29 [(sl eInt 1 low)] true), (.box 31 (eSpan wm) true), (.box 75 (eSite s) false), .dead, (.arr 29 1 mm' (fun i => eRw (T' i)) true)]) := hcall
     simp only [e32, qHv, qSC, qSN, qBox, qArr, qMp, qSlr, qSlo, qDead, qSame, qBool, qRow, pOut, pTup, pCons, pAgg, pInt, pNil, pT, pF, Nat.beq_refl, Bool.and_self, beq_self_eq_true, Bool.true_and, Bool.and_true, kK32, n1413]
     cases hg : go s low rest wm S r (t + 1) (some (dayB s low rest wm ((S t).getD k 0)).press) (moved s l (dayB s low rest wm ((S t).getD k 0))) with
     | some ms =>
      obtain ⟨q1, q2⟩ := found ms hg
      rw [q1]
      simp only [Option.isSome_some, pT]
      exact ⟨es', m', mm', T', rfl, hD', by omega, q2⟩
     | none =>
      simp only [Option.isSome_none, pF, Int.natCast_nonneg, decide_true, pT, decide_eq_true (show t ≤ m' by omega)]
      exact fin _ _ hTT hg
end
end Go.Sim.Cr


set_option maxRecDepth 100000
namespace Go.Sim.Cr
open Go.Proofs
section
variable {F d : Nat} {s : Site} {low rest : Sl Int} {wm : Span} {nd : Sl Int} {S : Nat → List Int} {lst : Int → List Int}
set_option maxHeartbeats 4000000
theorem l9132x0 (A : Ask F d s low rest wm nd S lst) {r t : Nat} (ht : t + (r + 1) = nd.len) (h1t : 1 ≤ t) (ih : SB F d s low rest wm nd S lst r) {last : Int} {l : Sl Stt} (hL : StatesOk s l) (hnl : l.nl = false) (hlast : -9223372036854775808 ≤ last ∧ last ≤ 9223372036854775807) (R0 : Rw) (hR : RIs R0 (S t)) (T : Nat → Rw) (es : List (V × V)) (mm : Nat) (hD : DeadOk s low rest wm S nd.len es) : ∀ (n k fu : Nat), (S t).length = k + n → n < fu → es.length + n * cnt r + 1 ≤ 100000000000 → ((S t).take k).findSome? (fB s low rest wm S r t (some (dayB s low rest wm last).press) l) = none →
  ∃ es' m' mm' T', ((mm' = mm ∧ T' = T ∧ L9132x0 (E F (d + 51 + r)) F s low rest wm nd es (t : Int) last l (dayB s low rest wm last).press t mm (fun i => eRw (T i)) fu R0.nl R0.len R0.wd R0.get ((R0.len : Nat) : Int) (k : Int) = some (.ret (.bool (((S t).drop k).findSome? (fB s low rest wm S r t (some (dayB s low rest wm last).press) l)).isSome), HB s low rest wm nd (dayB s low rest wm last).press (.osl 13 0 m') es' [.arr 29 1 mm (fun i => eRw (T i)) true])) ∨ L9132x0 (E F (d + 51 + r)) F s low rest wm nd es (t : Int) last l (dayB s low rest wm last).press t mm (fun i => eRw (T i)) fu R0.nl R0.len R0.wd R0.get ((R0.len : Nat) : Int) (k : Int) = some (.ret (.bool (((S t).drop k).findSome? (fB s low rest wm S r t (some (dayB s low rest wm last).press) l)).isSome), HB s low rest wm nd (dayB s low rest wm last).press (.osl 14 0 m') es' [.dead, .arr 29 1 mm' (fun i => eRw (T' i)) true])) ∧
   DeadOk s low rest wm S nd.len es' ∧ es'.length ≤ es.length + n * cnt r + 1 ∧ Res lst (((S t).drop k).findSome? (fB s low rest wm S r t (some (dayB s low rest wm last).press) l)) t T m' T' := by
 have hS := A.site
 have h1 := hS.cavs1
 have h5 := hS.cavs5
 have hF := A.fuel
 have hdays := A.days
 have hrg := rgB_ok (n := (t : Int)) (last := last) (l := l) (by omega) hlast (by have := hL.2; exact this)
 unfold rgB at hrg
 have hbef : befOf s low rest wm t last = (some (dayB s low rest wm last).press) := by unfold befOf; rw [if_neg (by omega)]
 have hsubr : nd.len - t = r + 1 := by omega
 intro n
 induction n with
 | zero =>
  intro k fu h hf hle hno
  obtain ⟨fu, rfl⟩ : ∃ q, fu = q + 1 := ⟨fu - 1, by omega⟩
  have hdk : (S t).drop k = [] := List.drop_eq_nil_of_le (by omega)
  have hgo : go s low rest wm S (nd.len - t) t (befOf s low rest wm t last) l = none := by
   rw [hsubr, hbef]
   show (S t).findSome? (fB s low rest wm S r t (some (dayB s low rest wm last).press) l) = none
   rw [find_drop hno, hdk]; rfl
  rw [L9132x0s, decide_eq_false (show ¬ (k : Int) < ((R0.len : Nat) : Int) by have := hR.1; omega), cond_false, hrg, cond_true, decide_eq_true (show es.length < 1000000000000 by omega), cond_true, hdk]
  refine ⟨mput es (.agg (keyL (t : Int) last l)) (.bool true), t, mm, T, .inl ⟨rfl, rfl, rfl⟩, dead_put hD (by omega) hL.1 hgo, ?_, Nat.le_refl _, fun _ _ => rfl, fun ms hms => by cases hms⟩
  have := mput_len es (.agg (keyL (t : Int) last l)) (.bool true)
  omega
 | succ n hin =>
  intro k fu h hf hle hno
  obtain ⟨fu, rfl⟩ : ∃ q, fu = q + 1 := ⟨fu - 1, by omega⟩
  have hk : k < (S t).length := by omega
  have hmem : (S t).getD k 0 ∈ S t := by rw [List.getD_eq_getElem?_getD, List.getElem?_eq_getElem hk]; exact List.getElem_mem hk
  have hmul : (n + 1) * cnt r = n * cnt r + cnt r := by rw [Nat.add_mul, Nat.one_mul]
  have hwd : (R0.wd == 1) = true := by rw [hR.2.1 (fun he => by rw [he] at hk; cases hk)]; rfl
  have hget := hR.2.2 k hk
  have hDay := dayQ_ok A.low_ A.rest_ A.wm_ (bitB ((S t).getD k 0))
  have hDay0 := dayQ_ok A.low_ A.rest_ A.wm_ (bitB last)
  have e31 : (E F (d + 51 + r)).hv 31 [.int .i64 ((S t).getD k 0), .optr 0 0 0, .optr 1 0 0, .optr 2 0 0, .optr 3 0 0] [(.box 28 (eSite s) true), (.box 29 [sl eInt 1 rest] true), (.box 29 [sl eInt 1 low] true), (.box 31 (eSpan wm) true)] =
    some (.ret (.agg [.osl 4 0 s.cavs.len, .osl 5 0 s.cavs.len]), [(.box 28 (eSite s) true), (.box 29 [sl eInt 1 rest] true), (.box 29 [sl eInt 1 low] true), (.box 31 (eSpan wm) true), .arr 31 2 s.cavs.len (fun j => eSpan ((dayB s low rest wm ((S t).getD k 0)).press.el j)) true, .arr 31 2 s.cavs.len (fun _ => eSpan wm) true]) := by
   have := s9031 F (d + 50 + r) s low rest wm ((S t).getD k 0) A.low_.1 A.rest_.1 h5 h1 (by omega)
   rw [show d + 50 + r + 1 = d + 51 + r by omega] at this
   exact this
  have e34 : (E F (d + 51 + r)).pf 34 [pSite s, sl eStt 6 l, .agg [.row false s.cavs.len 2 (fun j => eSpan ((dayB s low rest wm ((S t).getD k 0)).press.el j)), .row false s.cavs.len 2 (fun _ => eSpan wm)]] = some (.ret (moveR s l (dayB s low rest wm ((S t).getD k 0)))) := by
   have := s51 F (d + 44 + r) s l (dayB s low rest wm ((S t).getD k 0)) hS hL hDay (by omega)
   rw [show d + 44 + r + 7 = d + 51 + r by omega] at this
   exact this
  rw [L9132x0s]
  simp only [decide_eq_true (show (k : Int) < ((R0.len : Nat) : Int) by have := hR.1; omega), hwd, Int.natCast_nonneg, decide_true, Int.toNat_natCast, hget, e31, e34, moveR, wrS (show k < 4611686018427387904 by have := A.six t; omega), qHv, qSC, qSN, qBox, qArr, qMp, qSlr, qSlo, qDead, qSame, qBool, qRow, pOut, pTup, pCons, pAgg, pInt, pNil, pT, pF, Nat.beq_refl, Bool.and_self, beq_self_eq_true, Bool.true_and, Bool.and_true]
  cases hfar : farDay s (dayB s low rest wm ((S t).getD k 0)) with
  | true =>
   have hfk : (fB s low rest wm S r t (some (dayB s low rest wm last).press) l) ((S t).getD k 0) = none := by simp only [fB, okDay, hfar, Bool.not_true, Bool.false_and, cond_false]
   obtain ⟨es', m', mm', T', g1, g2, g3, g4⟩ := hin (k + 1) fu (by omega) (by omega) (by omega) (take_none hno hk hfk)
   rw [drop_find hk, hfk]
   simp only [pT, pTup, pCons, pRow, qRow, qBool, pNil, Bool.not_false]
   exact ⟨es', m', mm', T', g1, g2, by omega, g4⟩
  | false =>
   have hML := moved_ok hS hL hDay hfar
   have e35 : (E F (d + 51 + r)).pf 35 [.rptr 1 5 (fun _ => [pSite s, .row false s.cavs.len 2 (fun j => eSpan ((dayB s low rest wm ((S t).getD k 0)).press.el j)), .row false s.cavs.len 2 (fun _ => eSpan wm), .row false (dayB s low rest wm last).press.len 2 (fun u => eSpan ((dayB s low rest wm last).press.el u)), .row (moved s l (dayB s low rest wm ((S t).getD k 0))).nl (moved s l (dayB s low rest wm ((S t).getD k 0))).len 6 (fun i => eStt ((moved s l (dayB s low rest wm ((S t).getD k 0))).el i))]) 0 0, .int .i64 (t : Int), .fn (.func 36) [] []] = some (.ret (eFaultB (faultR (t : Int) Mark.possible (marksOf s (dayB s low rest wm ((S t).getD k 0)) (some (dayB s low rest wm last).press) (some (moved s l (dayB s low rest wm ((S t).getD k 0)))))))) := by
    have := s9035 F (d + 44 + r) s (dayB s low rest wm ((S t).getD k 0)) (some (dayB s low rest wm last).press) (some (moved s l (dayB s low rest wm ((S t).getD k 0)))) (t : Int) hS hDay (by intro x hx; cases hx; exact ⟨rfl, hDay0.1.2⟩) (by intro x hx; cases hx; exact ⟨hML, rfl⟩) (by omega)
    rw [show d + 44 + r + 7 = d + 51 + r by omega] at this
    exact this
   simp only [pF, pTup, pCons, pRow, qRow, qBool, pNil, Bool.not_true, e35, pOut]
   cases hfr : faultR (t : Int) Mark.possible (marksOf s (dayB s low rest wm ((S t).getD k 0)) (some (dayB s low rest wm last).press) (some (moved s l (dayB s low rest wm ((S t).getD k 0))))) with
   | some ff =>
    have hfk : (fB s low rest wm S r t (some (dayB s low rest wm last).press) l) ((S t).getD k 0) = none := by
     have := faultR_n 0 (t : Int) Mark.possible (marksOf s (dayB s low rest wm ((S t).getD k 0)) (some (dayB s low rest wm last).press) (some (moved s l (dayB s low rest wm ((S t).getD k 0)))))
     rw [hfr] at this
     simp only [fB, okDay, this, Option.isNone_some, Bool.and_false, cond_false]
    obtain ⟨es', m', mm', T', g1, g2, g3, g4⟩ := hin (k + 1) fu (by omega) (by omega) (by omega) (take_none hno hk hfk)
    rw [drop_find hk, hfk]
    simp only [eFaultB, pTup, pCons, pAgg, pInt, pNil, qBool, pT]
    exact ⟨es', m', mm', T', g1, g2, by omega, g4⟩
   | none =>
    have hfk : (fB s low rest wm S r t (some (dayB s low rest wm last).press) l) ((S t).getD k 0) = (go s low rest wm S r (t + 1) (some (dayB s low rest wm ((S t).getD k 0)).press) (moved s l (dayB s low rest wm ((S t).getD k 0)))).map ((S t).getD k 0 :: ·) := by
     have := faultR_n 0 (t : Int) Mark.possible (marksOf s (dayB s low rest wm ((S t).getD k 0)) (some (dayB s low rest wm last).press) (some (moved s l (dayB s low rest wm ((S t).getD k 0)))))
     rw [hfr] at this
     simp only [fB, okDay, this, hfar, Option.isNone_none, Bool.not_false, Bool.and_self, cond_true]
    obtain ⟨rb, e37', hrb⟩ := A.h37 (1 + r) t ((S t).getD k 0) (by omega) hmem
    have e37 : (E F (d + 51 + r)).pf 37 [.int .i64 ((S t).getD k 0)] = some (.ret (.row rb.nl rb.len rb.wd rb.get)) := by
     rw [show d + 50 + (1 + r) = d + 51 + r by omega] at e37'
     exact e37'
    obtain ⟨es', m', mm', T', hcall, hD', hlen, hle', hT', hfound⟩ := ih (t + 1) ((S t).getD k 0) (moved s l (dayB s low rest wm ((S t).getD k 0))) es (t + 1) (fun i => if i < t then T i else rb) (by omega) (by omega) hML rfl (A.m64 t _ hmem) hD (by omega)
    have hTT : ∀ i, i < t → T' i = T i := fun i hi => by
     rw [hT' i (by omega)]
     show (if i < t then T i else rb) = T i
     rw [if_pos hi]
    simp only [eFaultB, pTup, pCons, pAgg, pInt, pNil, qBool, pF, e37, pOut, pRow, qRow, decide_eq_true (show (t + 1) * 24 ≤ 140737488355328 by omega), pT, wrS (show t < 4611686018427387904 by omega), app_rw]
    have fin : ∀ (mmx : Nat) (Tx : Nat → Rw), (∀ i, i < t → Tx i = T i) → (go s low rest wm S r (t + 1) (some (dayB s low rest wm ((S t).getD k 0)).press) (moved s l (dayB s low rest wm ((S t).getD k 0))) = none → ∃ es2 m2 mm2 T2, L9132x1 (E F (d + 51 + r)) F s low rest wm nd es (t : Int) last l (dayB s low rest wm last).press t mm (fun i => eRw (T i)) fu R0.nl R0.len R0.wd R0.get ((R0.len : Nat) : Int) ((k + 1 : Nat) : Int) es' mmx (fun i => eRw (Tx i)) = some (.ret (.bool (((S t).drop k).findSome? (fB s low rest wm S r t (some (dayB s low rest wm last).press) l)).isSome), HB s low rest wm nd (dayB s low rest wm last).press (.osl 14 0 m2) es2 [.dead, .arr 29 1 mm2 (fun i => eRw (T2 i)) true]) ∧ DeadOk s low rest wm S nd.len es2 ∧ es2.length ≤ es.length + (n + 1) * cnt r + 1 ∧ Res lst (((S t).drop k).findSome? (fB s low rest wm S r t (some (dayB s low rest wm last).press) l)) t T m2 T2) := by
     intro mmx Tx hTx hgn
     rw [hgn] at hfk
     have hfk' : (fB s low rest wm S r t (some (dayB s low rest wm last).press) l) ((S t).getD k 0) = none := hfk
     obtain ⟨es2, m2, mm2, T2, g1, g2, g3, g4⟩ := l9132x1 A ht h1t ih hL hnl hlast R0 hR T es t mm (fun i => eRw (T i)) n (k + 1) fu es' mmx Tx (by omega) (by omega) hD' (by omega) hTx (take_none hno hk hfk')
     rw [drop_find hk, hfk']
     exact ⟨es2, m2, mm2, T2, g1, g2, by omega, g4⟩
    have found : ∀ ms, go s low rest wm S r (t + 1) (some (dayB s low rest wm ((S t).getD k 0)).press) (moved s l (dayB s low rest wm ((S t).getD k 0))) = some ms → (((S t).drop k).findSome? (fB s low rest wm S r t (some (dayB s low rest wm last).press) l) = some ((S t).getD k 0 :: ms)) ∧ Res lst (some ((S t).getD k 0 :: ms)) t T m' T' := by
     intro ms hgs
     obtain ⟨q1, q2⟩ := hfound ms hgs
     rw [drop_find hk, hfk, hgs]
     refine ⟨rfl, by omega, hTT, fun ms' hms => ?_⟩
     cases hms
     refine ⟨by simp only [List.length_cons]; omega, fun j hj => ?_⟩
     cases j with
     | zero =>
      have : T' (t + 0) = rb := by
       rw [hT' (t + 0) (by omega)]
       show (if t + 0 < t then T (t + 0) else rb) = rb
       rw [if_neg (by omega)]
      rw [this]
      exact hrb
     | succ j =>
      have := q2 j (by simpa using hj)
      rw [show t + 1 + j = t + (j + 1) by omega] at this
      exact this
    rcases hcall with ⟨rfl, rfl, hcall⟩ | hcall
    ·have e32 : (E F (d + 51 + r)).hv 32 [.int .i64 ((t + 1 : Nat) : Int), .osl 0 0 s.cavs.len, .row (moved s l (dayB s low rest wm ((S t).getD k 0))).nl (moved s l (dayB s low rest wm ((S t).getD k 0))).len 6 (fun i => eStt ((moved s l (dayB s low rest wm ((S t).getD k 0))).el i)), .int .i64 ((S t).getD k 0), .optr 1 0 0, .optr 2 0 0, .optr 3 0 0, .optr 4 0 0, .optr 5 0 0, .optr 6 0 0, .optr 7 0 0] [(.arr 31 2 s.cavs.len (fun j => eSpan ((dayB s low rest wm ((S t).getD k 0)).press.el j)) false), (.box 29 [(sl eInt 1 nd)] true), (.box 77 [(.mapr 8)] true), (.box 28 (eSite s) true), (.box 76 [(.fn (.func 31) [] [(.optr 3 0 0), (.optr 9 0 0), (.optr 10 0 0), (.optr 11 0 0)])] true), (.box 73 [(.optr 12 0 0)] true), (.box 35 [(.osl 13 0 (t + 1))] true), (.box 78 [(.fn (.func 32) [] [(.optr 1 0 0), (.optr 2 0 0), (.optr 3 0 0), (.optr 4 0 0), (.optr 5 0 0), (.optr 6 0 0), (.optr 7 0 0)])] true), (.mp true K32 es true), (.box 29 [(sl eInt 1 rest)] true), (.box 29 [(sl eInt 1 low)] true), (.box 31 (eSpan wm) true), (.box 75 (eSite s) false), (.arr 29 1 (t + 1) (fun i => eRw (if i < t then T i else rb)) true)] = some (.ret (.bool (go s low rest wm S r (t + 1) (some (dayB s low rest wm ((S t).getD k 0)).press) (moved s l (dayB s low rest wm ((S t).getD k 0)))).isSome), [(.arr 31 2 s.cavs.len (fun j => eSpan ((dayB s low rest wm ((S t).getD k 0)).press.el j)) false), (.box 29 [(sl eInt 1 nd)] true), (.box 77 [(.mapr 8)] true), (.box 28 (eSite s) true), (.box 76 [(.fn (.func 31) [] [(.optr 3 0 0), (.optr 9 0 0), (.optr 10 0 0), (.optr 11 0 0)])] true), (.box 73 [(.optr 12 0 0)] true), (.box 35 [(.osl 13 0 m')] true), (.box 78 [(.fn (.func 32) [] [(.optr 1 0 0), (.optr 2 0 0), (.optr 3 0 0), (.optr 4 0 0), (.optr 5 0 0), (.optr 6 0 0), (.optr 7 0 0)])] true), (.mp true K32 es' true), (.box 29 [(sl eInt 1 rest)] true), (.box 29 [(sl eInt 1 low)] true), (.box 31 (eSpan wm) true), (.box 75 (eSite s) false), (.arr 29 1 (t + 1) (fun i => eRw (if i < t then T i else rb)) true)]) := hcall
     simp only [e32, qHv, qSC, qSN, qBox, qArr, qMp, qSlr, qSlo, qDead, qSame, qBool, qRow, pOut, pTup, pCons, pAgg, pInt, pNil, pT, pF, Nat.beq_refl, Bool.and_self, beq_self_eq_true, Bool.true_and, Bool.and_true, kK32]
     cases hg : go s low rest wm S r (t + 1) (some (dayB s low rest wm ((S t).getD k 0)).press) (moved s l (dayB s low rest wm ((S t).getD k 0))) with
     | some ms =>
      obtain ⟨q1, q2⟩ := found ms hg
      rw [q1]
      simp only [Option.isSome_some, pT]
      exact ⟨es', m', (t + 1), _, .inr rfl, hD', by omega, q2⟩
     | none =>
      simp only [Option.isSome_none, pF, Int.natCast_nonneg, decide_true, pT, decide_eq_true (show t ≤ m' by omega)]
      obtain ⟨es2, m2, mm2, T2, g1, g2, g3, g4⟩ := fin _ _ hTT hg
      exact ⟨es2, m2, mm2, T2, .inr g1, g2, g3, g4⟩
    ·have e32 : (E F (d + 51 + r)).hv 32 [.int .i64 ((t + 1 : Nat) : Int), .osl 0 0 s.cavs.len, .row (moved s l (dayB s low rest wm ((S t).getD k 0))).nl (moved s l (dayB s low rest wm ((S t).getD k 0))).len 6 (fun i => eStt ((moved s l (dayB s low rest wm ((S t).getD k 0))).el i)), .int .i64 ((S t).getD k 0), .optr 1 0 0, .optr 2 0 0, .optr 3 0 0, .optr 4 0 0, .optr 5 0 0, .optr 6 0 0, .optr 7 0 0] [(.arr 31 2 s.cavs.len (fun j => eSpan ((dayB s low rest wm ((S t).getD k 0)).press.el j)) false), (.box 29 [(sl eInt 1 nd)] true), (.box 77 [(.mapr 8)] true), (.box 28 (eSite s) true), (.box 76 [(.fn (.func 31) [] [(.optr 3 0 0), (.optr 9 0 0), (.optr 10 0 0), (.optr 11 0 0)])] true), (.box 73 [(.optr 12 0 0)] true), (.box 35 [(.osl 13 0 (t + 1))] true), (.box 78 [(.fn (.func 32) [] [(.optr 1 0 0), (.optr 2 0 0), (.optr 3 0 0), (.optr 4 0 0), (.optr 5 0 0), (.optr 6 0 0), (.optr 7 0 0)])] true), (.mp true K32 es true), (.box 29 [(sl eInt 1 rest)] true), (.box 29 [(sl eInt 1 low)] true), (.box 31 (eSpan wm) true), (.box 75 (eSite s) false), (.arr 29 1 (t + 1) (fun i => eRw (if i < t then T i else rb)) true)] = some (.ret (.bool (go s low rest wm S r (t + 1) (some (dayB s low rest wm ((S t).getD k 0)).press) (moved s l (dayB s low rest wm ((S t).getD k 0)))).isSome), [(.arr 31 2 s.cavs.len (fun j => eSpan ((dayB s low rest wm ((S t).getD k 0)).press.el j)) false), (.box 29 [(sl eInt 1 nd)] true), (.box 77 [(.mapr 8)] true), (.box 28 (eSite s) true), (.box 76 [(.fn (.func 31) [] [(.optr 3 0 0), (.optr 9 0 0), (.optr 10 0 0), (.optr 11 0 0)])] true), (.box 73 [(.optr 12 0 0)] true), (.box 35 [(.osl 14 0 m')] true), (.box 78 [(.fn (.func 32) [] [(.optr 1 0 0), (.optr 2 0 0), (.optr 3 0 0), (.optr 4 0 0), (.optr 5 0 0), (.optr 6 0 0), (.optr 7 0 0)])] true), (.mp true K32 es' true), (.box 29 [(sl eInt 1 rest)] true), (.box 29 [(sl eInt 1 low)] true), (.box 31 (eSpan wm) true), (.box 75 (eSite s) false), .dead, (.arr 29 1 mm' (fun i => eRw (T' i)) true)]) := hcall
     simp only [e32, qHv, qSC, qSN, qBox, qArr, qMp, qSlr, qSlo, qDead, qSame, qBool, qRow, pOut, pTup, pCons, pAgg, pInt, pNil, pT, pF, Nat.beq_refl, Bool.and_self, beq_self_eq_true, Bool.true_and, Bool.and_true, kK32, n1413]
     cases hg : go s low rest wm S r (t + 1) (some (dayB s low rest wm ((S t).getD k 0)).press) (moved s l (dayB s low rest wm ((S t).getD k 0))) with
     | some ms =>
      obtain ⟨q1, q2⟩ := found ms hg
      rw [q1]
      simp only [Option.isSome_some, pT]
      exact ⟨es', m', mm', T', .inr rfl, hD', by omega, q2⟩
     | none =>
      simp only [Option.isSome_none, pF, Int.natCast_nonneg, decide_true, pT, decide_eq_true (show t ≤ m' by omega)]
      obtain ⟨es2, m2, mm2, T2, g1, g2, g3, g4⟩ := fin _ _ hTT hg
      exact ⟨es2, m2, mm2, T2, .inr g1, g2, g3, g4⟩
theorem l9032x0 (A : Ask F d s low rest wm nd S lst) {r t : Nat} (ht : t + (r + 1) = nd.len) (h0t : t = 0) (ih : SB F d s low rest wm nd S lst r) {last : Int} {l : Sl Stt} (hL : StatesOk s l) (hnl : l.nl = false) (hlast : -9223372036854775808 ≤ last ∧ last ≤ 9223372036854775807) (R0 : Rw) (hR : RIs R0 (S t)) (T : Nat → Rw) (es : List (V × V)) (hD : DeadOk s low rest wm S nd.len es) : ∀ (n k fu : Nat), (S t).length = k + n → n < fu → es.length + n * cnt r + 1 ≤ 100000000000 → ((S t).take k).findSome? (fB s low rest wm S r t none l) = none →
  ∃ es' m' mm' T', ((((S t).drop k).findSome? (fB s low rest wm S r t none l) = none ∧ L9032x0 (E F (d + 51 + r)) F s low rest wm nd es (t : Int) last l fu R0.nl R0.len R0.wd R0.get ((R0.len : Nat) : Int) (k : Int) = some (.ret (.bool (((S t).drop k).findSome? (fB s low rest wm S r t none l)).isSome), HA s low rest wm nd (.row true 0 0 (fun _ => [])) es' [])) ∨ L9032x0 (E F (d + 51 + r)) F s low rest wm nd es (t : Int) last l fu R0.nl R0.len R0.wd R0.get ((R0.len : Nat) : Int) (k : Int) = some (.ret (.bool (((S t).drop k).findSome? (fB s low rest wm S r t none l)).isSome), HA s low rest wm nd (.osl 12 0 m') es' [.arr 29 1 mm' (fun i => eRw (T' i)) true])) ∧
   DeadOk s low rest wm S nd.len es' ∧ es'.length ≤ es.length + n * cnt r + 1 ∧ Res lst (((S t).drop k).findSome? (fB s low rest wm S r t none l)) t T m' T' := by
 have hS := A.site
 have h1 := hS.cavs1
 have h5 := hS.cavs5
 have hF := A.fuel
 have hdays := A.days
 have hrg := rgB_ok (n := (t : Int)) (last := last) (l := l) (by omega) hlast (by have := hL.2; exact this)
 unfold rgB at hrg
 have hbef : befOf s low rest wm t last = none := by unfold befOf; rw [if_pos h0t]
 have hsubr : nd.len - t = r + 1 := by omega
 intro n
 induction n with
 | zero =>
  intro k fu h hf hle hno
  obtain ⟨fu, rfl⟩ : ∃ q, fu = q + 1 := ⟨fu - 1, by omega⟩
  have hdk : (S t).drop k = [] := List.drop_eq_nil_of_le (by omega)
  have hgo : go s low rest wm S (nd.len - t) t (befOf s low rest wm t last) l = none := by
   rw [hsubr, hbef]
   show (S t).findSome? (fB s low rest wm S r t none l) = none
   rw [find_drop hno, hdk]; rfl
  rw [L9032x0s, decide_eq_false (show ¬ (k : Int) < ((R0.len : Nat) : Int) by have := hR.1; omega), cond_false, hrg, cond_true, decide_eq_true (show es.length < 1000000000000 by omega), cond_true, hdk]
  refine ⟨mput es (.agg (keyL (t : Int) last l)) (.bool true), t, 0, T, .inl ⟨rfl, rfl⟩, dead_put hD (by omega) hL.1 hgo, ?_, Nat.le_refl _, fun _ _ => rfl, fun ms hms => by cases hms⟩
  have := mput_len es (.agg (keyL (t : Int) last l)) (.bool true)
  omega
 | succ n hin =>
  intro k fu h hf hle hno
  obtain ⟨fu, rfl⟩ : ∃ q, fu = q + 1 := ⟨fu - 1, by omega⟩
  have hk : k < (S t).length := by omega
  have hmem : (S t).getD k 0 ∈ S t := by rw [List.getD_eq_getElem?_getD, List.getElem?_eq_getElem hk]; exact List.getElem_mem hk
  have hmul : (n + 1) * cnt r = n * cnt r + cnt r := by rw [Nat.add_mul, Nat.one_mul]
  have hwd : (R0.wd == 1) = true := by rw [hR.2.1 (fun he => by rw [he] at hk; cases hk)]; rfl
  have hget := hR.2.2 k hk
  have hDay := dayQ_ok A.low_ A.rest_ A.wm_ (bitB ((S t).getD k 0))
  have hDay0 := dayQ_ok A.low_ A.rest_ A.wm_ (bitB last)
  have e31 : (E F (d + 51 + r)).hv 31 [.int .i64 ((S t).getD k 0), .optr 0 0 0, .optr 1 0 0, .optr 2 0 0, .optr 3 0 0] [(.box 28 (eSite s) true), (.box 29 [sl eInt 1 rest] true), (.box 29 [sl eInt 1 low] true), (.box 31 (eSpan wm) true)] =
    some (.ret (.agg [.osl 4 0 s.cavs.len, .osl 5 0 s.cavs.len]), [(.box 28 (eSite s) true), (.box 29 [sl eInt 1 rest] true), (.box 29 [sl eInt 1 low] true), (.box 31 (eSpan wm) true), .arr 31 2 s.cavs.len (fun j => eSpan ((dayB s low rest wm ((S t).getD k 0)).press.el j)) true, .arr 31 2 s.cavs.len (fun _ => eSpan wm) true]) := by
   have := s9031 F (d + 50 + r) s low rest wm ((S t).getD k 0) A.low_.1 A.rest_.1 h5 h1 (by omega)
   rw [show d + 50 + r + 1 = d + 51 + r by omega] at this
   exact this
  have e34 : (E F (d + 51 + r)).pf 34 [pSite s, sl eStt 6 l, .agg [.row false s.cavs.len 2 (fun j => eSpan ((dayB s low rest wm ((S t).getD k 0)).press.el j)), .row false s.cavs.len 2 (fun _ => eSpan wm)]] = some (.ret (moveR s l (dayB s low rest wm ((S t).getD k 0)))) := by
   have := s51 F (d + 44 + r) s l (dayB s low rest wm ((S t).getD k 0)) hS hL hDay (by omega)
   rw [show d + 44 + r + 7 = d + 51 + r by omega] at this
   exact this
  rw [L9032x0s]
  simp only [decide_eq_true (show (k : Int) < ((R0.len : Nat) : Int) by have := hR.1; omega), hwd, Int.natCast_nonneg, decide_true, Int.toNat_natCast, hget, e31, e34, moveR, wrS (show k < 4611686018427387904 by have := A.six t; omega), qHv, qSC, qSN, qBox, qArr, qMp, qSlr, qSlo, qDead, qSame, qBool, qRow, pOut, pTup, pCons, pAgg, pInt, pNil, pT, pF, Nat.beq_refl, Bool.and_self, beq_self_eq_true, Bool.true_and, Bool.and_true]
  cases hfar : farDay s (dayB s low rest wm ((S t).getD k 0)) with
  | true =>
   have hfk : (fB s low rest wm S r t none l) ((S t).getD k 0) = none := by simp only [fB, okDay, hfar, Bool.not_true, Bool.false_and, cond_false]
   obtain ⟨es', m', mm', T', g1, g2, g3, g4⟩ := hin (k + 1) fu (by omega) (by omega) (by omega) (take_none hno hk hfk)
   rw [drop_find hk, hfk]
   simp only [pT, pTup, pCons, pRow, qRow, qBool, pNil, Bool.not_false]
   exact ⟨es', m', mm', T', g1, g2, by omega, g4⟩
  | false =>
   have hML := moved_ok hS hL hDay hfar
   have e35 : (E F (d + 51 + r)).pf 35 [.rptr 1 5 (fun _ => [pSite s, .row false s.cavs.len 2 (fun j => eSpan ((dayB s low rest wm ((S t).getD k 0)).press.el j)), .row false s.cavs.len 2 (fun _ => eSpan wm), .row true 0 0 (fun _ => []), .row (moved s l (dayB s low rest wm ((S t).getD k 0))).nl (moved s l (dayB s low rest wm ((S t).getD k 0))).len 6 (fun i => eStt ((moved s l (dayB s low rest wm ((S t).getD k 0))).el i))]) 0 0, .int .i64 (t : Int), .fn (.func 36) [] []] = some (.ret (eFaultB (faultR (t : Int) Mark.possible (marksOf s (dayB s low rest wm ((S t).getD k 0)) none (some (moved s l (dayB s low rest wm ((S t).getD k 0)))))))) := by
    have := s9035 F (d + 44 + r) s (dayB s low rest wm ((S t).getD k 0)) none (some (moved s l (dayB s low rest wm ((S t).getD k 0)))) (t : Int) hS hDay (by intro x hx; cases hx) (by intro x hx; cases hx; exact ⟨hML, rfl⟩) (by omega)
    rw [show d + 44 + r + 7 = d + 51 + r by omega] at this
    exact this
   simp only [pF, pTup, pCons, pRow, qRow, qBool, pNil, Bool.not_true, e35, pOut]
   cases hfr : faultR (t : Int) Mark.possible (marksOf s (dayB s low rest wm ((S t).getD k 0)) none (some (moved s l (dayB s low rest wm ((S t).getD k 0))))) with
   | some ff =>
    have hfk : (fB s low rest wm S r t none l) ((S t).getD k 0) = none := by
     have := faultR_n 0 (t : Int) Mark.possible (marksOf s (dayB s low rest wm ((S t).getD k 0)) none (some (moved s l (dayB s low rest wm ((S t).getD k 0)))))
     rw [hfr] at this
     simp only [fB, okDay, this, Option.isNone_some, Bool.and_false, cond_false]
    obtain ⟨es', m', mm', T', g1, g2, g3, g4⟩ := hin (k + 1) fu (by omega) (by omega) (by omega) (take_none hno hk hfk)
    rw [drop_find hk, hfk]
    simp only [eFaultB, pTup, pCons, pAgg, pInt, pNil, qBool, pT]
    exact ⟨es', m', mm', T', g1, g2, by omega, g4⟩
   | none =>
    have hfk : (fB s low rest wm S r t none l) ((S t).getD k 0) = (go s low rest wm S r (t + 1) (some (dayB s low rest wm ((S t).getD k 0)).press) (moved s l (dayB s low rest wm ((S t).getD k 0)))).map ((S t).getD k 0 :: ·) := by
     have := faultR_n 0 (t : Int) Mark.possible (marksOf s (dayB s low rest wm ((S t).getD k 0)) none (some (moved s l (dayB s low rest wm ((S t).getD k 0)))))
     rw [hfr] at this
     simp only [fB, okDay, this, hfar, Option.isNone_none, Bool.not_false, Bool.and_self, cond_true]
    obtain ⟨rb, e37', hrb⟩ := A.h37 (1 + r) t ((S t).getD k 0) (by omega) hmem
    have e37 : (E F (d + 51 + r)).pf 37 [.int .i64 ((S t).getD k 0)] = some (.ret (.row rb.nl rb.len rb.wd rb.get)) := by
     rw [show d + 50 + (1 + r) = d + 51 + r by omega] at e37'
     exact e37'
    obtain ⟨es', m', mm', T', hcall, hD', hlen, hle', hT', hfound⟩ := ih (t + 1) ((S t).getD k 0) (moved s l (dayB s low rest wm ((S t).getD k 0))) es (t + 1) (fun _ => rb) (by omega) (by omega) hML rfl (A.m64 t _ hmem) hD (by omega)
    have hTT : ∀ i, i < t → T' i = T i := fun i hi => by omega
    simp only [eFaultB, pTup, pCons, pAgg, pInt, pNil, qBool, pF, e37, pOut, pRow, qRow, pT, wrS (show t < 4611686018427387904 by omega)]
    have fin : ∀ (mmx : Nat) (Tx : Nat → Rw), (∀ i, i < t → Tx i = T i) → (go s low rest wm S r (t + 1) (some (dayB s low rest wm ((S t).getD k 0)).press) (moved s l (dayB s low rest wm ((S t).getD k 0))) = none → ∃ es2 m2 mm2 T2, L9032x1 (E F (d + 51 + r)) F s low rest wm nd es (t : Int) last l fu R0.nl R0.len R0.wd R0.get ((R0.len : Nat) : Int) ((k + 1 : Nat) : Int) es' mmx (fun i => eRw (Tx i)) = some (.ret (.bool (((S t).drop k).findSome? (fB s low rest wm S r t none l)).isSome), HA s low rest wm nd (.osl 12 0 m2) es2 [.arr 29 1 mm2 (fun i => eRw (T2 i)) true]) ∧ DeadOk s low rest wm S nd.len es2 ∧ es2.length ≤ es.length + (n + 1) * cnt r + 1 ∧ Res lst (((S t).drop k).findSome? (fB s low rest wm S r t none l)) t T m2 T2) := by
     intro mmx Tx hTx hgn
     rw [hgn] at hfk
     have hfk' : (fB s low rest wm S r t none l) ((S t).getD k 0) = none := hfk
     obtain ⟨es2, m2, mm2, T2, g1, g2, g3, g4⟩ := l9032x1 A ht h0t ih hL hnl hlast R0 hR T es n (k + 1) fu es' mmx Tx (by omega) (by omega) hD' (by omega) hTx (take_none hno hk hfk')
     rw [drop_find hk, hfk']
     exact ⟨es2, m2, mm2, T2, g1, g2, by omega, g4⟩
    have found : ∀ ms, go s low rest wm S r (t + 1) (some (dayB s low rest wm ((S t).getD k 0)).press) (moved s l (dayB s low rest wm ((S t).getD k 0))) = some ms → (((S t).drop k).findSome? (fB s low rest wm S r t none l) = some ((S t).getD k 0 :: ms)) ∧ Res lst (some ((S t).getD k 0 :: ms)) t T m' T' := by
     intro ms hgs
     obtain ⟨q1, q2⟩ := hfound ms hgs
     rw [drop_find hk, hfk, hgs]
     refine ⟨rfl, by omega, hTT, fun ms' hms => ?_⟩
     cases hms
     refine ⟨by simp only [List.length_cons]; omega, fun j hj => ?_⟩
     cases j with
     | zero =>
      have : T' (t + 0) = rb := by
       rw [hT' (t + 0) (by omega)]
      rw [this]
      exact hrb
     | succ j =>
      have := q2 j (by simpa using hj)
      rw [show t + 1 + j = t + (j + 1) by omega] at this
      exact this
    rcases hcall with ⟨rfl, rfl, hcall⟩ | hcall
    ·have e32 : (E F (d + 51 + r)).hv 32 [.int .i64 ((t + 1 : Nat) : Int), .osl 0 0 s.cavs.len, .row (moved s l (dayB s low rest wm ((S t).getD k 0))).nl (moved s l (dayB s low rest wm ((S t).getD k 0))).len 6 (fun i => eStt ((moved s l (dayB s low rest wm ((S t).getD k 0))).el i)), .int .i64 ((S t).getD k 0), .optr 1 0 0, .optr 2 0 0, .optr 3 0 0, .optr 4 0 0, .optr 5 0 0, .optr 6 0 0, .optr 7 0 0] [(.arr 31 2 s.cavs.len (fun j => eSpan ((dayB s low rest wm ((S t).getD k 0)).press.el j)) false), (.box 29 [(sl eInt 1 nd)] true), (.box 77 [(.mapr 8)] true), (.box 28 (eSite s) true), (.box 76 [(.fn (.func 31) [] [(.optr 3 0 0), (.optr 9 0 0), (.optr 10 0 0), (.optr 11 0 0)])] true), (.box 73 [(.optr 12 0 0)] true), (.box 35 [(.osl 13 0 1)] true), (.box 78 [(.fn (.func 32) [] [(.optr 1 0 0), (.optr 2 0 0), (.optr 3 0 0), (.optr 4 0 0), (.optr 5 0 0), (.optr 6 0 0), (.optr 7 0 0)])] true), (.mp true K32 es true), (.box 29 [(sl eInt 1 rest)] true), (.box 29 [(sl eInt 1 low)] true), (.box 31 (eSpan wm) true), (.box 75 (eSite s) false), (.arr 29 1 1 (fun _ => eRw rb) true)] = some (.ret (.bool (go s low rest wm S r (t + 1) (some (dayB s low rest wm ((S t).getD k 0)).press) (moved s l (dayB s low rest wm ((S t).getD k 0)))).isSome), [(.arr 31 2 s.cavs.len (fun j => eSpan ((dayB s low rest wm ((S t).getD k 0)).press.el j)) false), (.box 29 [(sl eInt 1 nd)] true), (.box 77 [(.mapr 8)] true), (.box 28 (eSite s) true), (.box 76 [(.fn (.func 31) [] [(.optr 3 0 0), (.optr 9 0 0), (.optr 10 0 0), (.optr 11 0 0)])] true), (.box 73 [(.optr 12 0 0)] true), (.box 35 [(.osl 13 0 m')] true), (.box 78 [(.fn (.func 32) [] [(.optr 1 0 0), (.optr 2 0 0), (.optr 3 0 0), (.optr 4 0 0), (.optr 5 0 0), (.optr 6 0 0), (.optr 7 0 0)])] true), (.mp true K32 es' true), (.box 29 [(sl eInt 1 rest)] true), (.box 29 [(sl eInt 1 low)] true), (.box 31 (eSpan wm) true), (.box 75 (eSite s) false), (.arr 29 1 1 (fun _ => eRw rb) true)]) := by subst h0t; exact hcall
     simp only [e32, qHv, qSC, qSN, qBox, qArr, qMp, qSlr, qSlo, qDead, qSame, qBool, qRow, pOut, pTup, pCons, pAgg, pInt, pNil, pT, pF, Nat.beq_refl, Bool.and_self, beq_self_eq_true, Bool.true_and, Bool.and_true, kK32]
     cases hg : go s low rest wm S r (t + 1) (some (dayB s low rest wm ((S t).getD k 0)).press) (moved s l (dayB s low rest wm ((S t).getD k 0))) with
     | some ms =>
      obtain ⟨q1, q2⟩ := found ms hg
      rw [q1]
      simp only [Option.isSome_some, pT]
      exact ⟨es', m', 1, _, .inr rfl, hD', by omega, q2⟩
     | none =>
      simp only [Option.isSome_none, pF, Int.natCast_nonneg, decide_true, pT, decide_eq_true (show t ≤ m' by omega)]
      obtain ⟨es2, m2, mm2, T2, g1, g2, g3, g4⟩ := fin _ _ hTT hg
      exact ⟨es2, m2, mm2, T2, .inr g1, g2, g3, g4⟩
    ·have e32 : (E F (d + 51 + r)).hv 32 [.int .i64 ((t + 1 : Nat) : Int), .osl 0 0 s.cavs.len, .row (moved s l (dayB s low rest wm ((S t).getD k 0))).nl (moved s l (dayB s low rest wm ((S t).getD k 0))).len 6 (fun i => eStt ((moved s l (dayB s low rest wm ((S t).getD k 0))).el i)), .int .i64 ((S t).getD k 0), .optr 1 0 0, .optr 2 0 0, .optr 3 0 0, .optr 4 0 0, .optr 5 0 0, .optr 6 0 0, .optr 7 0 0] [(.arr 31 2 s.cavs.len (fun j => eSpan ((dayB s low rest wm ((S t).getD k 0)).press.el j)) false), (.box 29 [(sl eInt 1 nd)] true), (.box 77 [(.mapr 8)] true), (.box 28 (eSite s) true), (.box 76 [(.fn (.func 31) [] [(.optr 3 0 0), (.optr 9 0 0), (.optr 10 0 0), (.optr 11 0 0)])] true), (.box 73 [(.optr 12 0 0)] true), (.box 35 [(.osl 13 0 1)] true), (.box 78 [(.fn (.func 32) [] [(.optr 1 0 0), (.optr 2 0 0), (.optr 3 0 0), (.optr 4 0 0), (.optr 5 0 0), (.optr 6 0 0), (.optr 7 0 0)])] true), (.mp true K32 es true), (.box 29 [(sl eInt 1 rest)] true), (.box 29 [(sl eInt 1 low)] true), (.box 31 (eSpan wm) true), (.box 75 (eSite s) false), (.arr 29 1 1 (fun _ => eRw rb) true)] = some (.ret (.bool (go s low rest wm S r (t + 1) (some (dayB s low rest wm ((S t).getD k 0)).press) (moved s l (dayB s low rest wm ((S t).getD k 0)))).isSome), [(.arr 31 2 s.cavs.len (fun j => eSpan ((dayB s low rest wm ((S t).getD k 0)).press.el j)) false), (.box 29 [(sl eInt 1 nd)] true), (.box 77 [(.mapr 8)] true), (.box 28 (eSite s) true), (.box 76 [(.fn (.func 31) [] [(.optr 3 0 0), (.optr 9 0 0), (.optr 10 0 0), (.optr 11 0 0)])] true), (.box 73 [(.optr 12 0 0)] true), (.box 35 [(.osl 14 0 m')] true), (.box 78 [(.fn (.func 32) [] [(.optr 1 0 0), (.optr 2 0 0), (.optr 3 0 0), (.optr 4 0 0), (.optr 5 0 0), (.optr 6 0 0), (.optr 7 0 0)])] true), (.mp true K32 es' true), (.box 29 [(sl eInt 1 rest)] true), (.box 29 [(sl eInt 1 low)] true), (.box 31 (eSpan wm) true), (.box 75 (eSite s) false), .dead, (.arr 29 1 mm' (fun i => eRw (T' i)) true)]) := by subst h0t; exact hcall
     simp only [e32, qHv, qSC, qSN, qBox, qArr, qMp, qSlr, qSlo, qDead, qSame, qBool, qRow, pOut, pTup, pCons, pAgg, pInt, pNil, pT, pF, Nat.beq_refl, Bool.and_self, beq_self_eq_true, Bool.true_and, Bool.and_true, kK32, n1413]
     cases hg : go s low rest wm S r (t + 1) (some (dayB s low rest wm ((S t).getD k 0)).press) (moved s l (dayB s low rest wm ((S t).getD k 0))) with
     | some ms =>
      obtain ⟨q1, q2⟩ := found ms hg
      rw [q1]
      simp only [Option.isSome_some, pT]
      exact ⟨es', m', mm', T', .inr rfl, hD', by omega, q2⟩
     | none =>
      simp only [Option.isSome_none, pF, Int.natCast_nonneg, decide_true, pT, decide_eq_true (show t ≤ m' by omega)]
      obtain ⟨es2, m2, mm2, T2, g1, g2, g3, g4⟩ := fin _ _ hTT hg
      exact ⟨es2, m2, mm2, T2, .inr g1, g2, g3, g4⟩
end
end Go.Sim.Cr


set_option maxRecDepth 100000
namespace Go.Sim.Cr
open Go.Proofs
section
variable {F d : Nat} {s : Site} {low rest : Sl Int} {wm : Span} {nd : Sl Int} {S : Nat → List Int} {lst : Int → List Int}
theorem six_mul {a c : Nat} (h : a ≤ 6) : a * c ≤ 6 * c := Nat.mul_le_mul_right _ h
set_option maxHeartbeats 4000000
theorem sB (A : Ask F d s low rest wm nd S lst) : ∀ r, SB F d s low rest wm nd S lst r := by
 have hS := A.site
 have h1 := hS.cavs1
 have h5 := hS.cavs5
 have hF := A.fuel
 have hdays := A.days
 intro r
 induction r with
 | zero =>
  intro t last l es mm T ht h1t hL hnl hlast hD hle
  have hcall : (E F (d + 51 + 0)).hv 32 [.int .i64 (t : Int), .osl 0 0 (dayB s low rest wm last).press.len, sl eStt 6 l, .int .i64 last, .optr 1 0 0, .optr 2 0 0, .optr 3 0 0, .optr 4 0 0, .optr 5 0 0, .optr 6 0 0, .optr 7 0 0] (HB s low rest wm nd (dayB s low rest wm last).press (.osl 13 0 t) es [.arr 29 1 mm (fun i => eRw (T i)) true]) =
    some (.ret (.bool true), HB s low rest wm nd (dayB s low rest wm last).press (.osl 13 0 t) es [.arr 29 1 mm (fun i => eRw (T i)) true]) := by
   rw [show d + 51 + 0 = (d + 50) + 1 by omega, E_hv]
   refine (t9132 (E F (d + 50)) F s low rest wm nd es (t : Int) last l (dayB s low rest wm last).press t mm (fun i => eRw (T i))).trans ?_
   rw [show ((t : Int) == (nd.len : Int)) = true by simp; omega, cond_true]
  exact ⟨es, t, mm, T, .inl ⟨rfl, rfl, hcall⟩, hD, by omega, Nat.le_refl _, fun _ _ => rfl, fun ms hms => by cases hms; exact ⟨rfl, fun j hj => by simp at hj⟩⟩
 | succ r ih =>
  intro t last l es mm T ht h1t hL hnl hlast hD hle
  have hrg := rgB_ok (n := (t : Int)) (last := last) (l := l) (by omega) hlast (by have := hL.2; exact this)
  unfold rgB at hrg
  have hbef : befOf s low rest wm t last = (some (dayB s low rest wm last).press) := by unfold befOf; rw [if_neg (by omega)]
  have h6 := six_mul (c := cnt r) (A.six t)
  have hcnt : cnt (r + 1) = 1 + 6 * cnt r := rfl
  obtain ⟨R0, e33', hR⟩ := A.h33 (1 + r) t (by omega)
  have e33 : (E F (d + 51 + r)).pf 33 [.int .i64 (s.cavs.len : Int), .int .i64 (nd.el t)] = some (.ret (.row R0.nl R0.len R0.wd R0.get)) := by
   rw [show d + 50 + (1 + r) = d + 51 + r by omega] at e33'
   exact e33'
  have hgo : go s low rest wm S (r + 1) t (some (dayB s low rest wm last).press) l = ((S t).drop 0).findSome? (fB s low rest wm S r t (some (dayB s low rest wm last).press) l) := rfl
  obtain ⟨es', m', mm', T', g1, g2, g3, g4⟩ := l9132x0 A ht h1t ih hL hnl hlast R0 hR T es mm hD (S t).length 0 F (by omega) (by have := A.six t; omega) (by omega) rfl
  rw [← hgo] at g1 g4
  have hen : (E F (d + 51 + (r + 1))).hv 32 [.int .i64 (t : Int), .osl 0 0 (dayB s low rest wm last).press.len, sl eStt 6 l, .int .i64 last, .optr 1 0 0, .optr 2 0 0, .optr 3 0 0, .optr 4 0 0, .optr 5 0 0, .optr 6 0 0, .optr 7 0 0] (HB s low rest wm nd (dayB s low rest wm last).press (.osl 13 0 t) es [.arr 29 1 mm (fun i => eRw (T i)) true]) = _ :=
   t9132 (E F (d + 51 + r)) F s low rest wm nd es (t : Int) last l (dayB s low rest wm last).press t mm (fun i => eRw (T i))
  rw [show ((t : Int) == (nd.len : Int)) = false by simp; omega, cond_false, hnl, cond_false, hrg, cond_true] at hen
  cases hm : mget es (.agg (keyL (t : Int) last l)) with
  | some v =>
   obtain ⟨rfl, hno⟩ := dead_get h1 h5 hD hL.1 hm
   rw [show nd.len - t = r + 1 by omega, hbef] at hno
   rw [hm, qOs, qBool, cond_true] at hen
   exact ⟨es, t, mm, T, .inl ⟨rfl, rfl, by rw [hno]; exact hen⟩, hD, by omega, Nat.le_refl _, fun _ _ => rfl, fun ms hms => by rw [hno] at hms; cases hms⟩
  | none =>
   rw [hm, qOn, decide_eq_true (Int.natCast_nonneg t), cond_true, decide_eq_true (show (t : Int) < (nd.len : Int) by omega), cond_true, Int.toNat_natCast, e33, pOut, qRow] at hen
   rcases g1 with ⟨q1, q2, g1⟩ | g1
   ·exact ⟨es', m', mm', T', .inl ⟨q1, q2, hen.trans g1⟩, g2, by omega, g4⟩
   ·exact ⟨es', m', mm', T', .inr (hen.trans g1), g2, by omega, g4⟩
theorem cnt_le : ∀ r, r ≤ 12 → cnt r + 1 ≤ 6 ^ (r + 1)
 | 0, _ => by decide
 | r + 1, h => by
  have := cnt_le r (by omega)
  rw [cnt, Nat.pow_succ]
  omega
theorem sA (A : Ask F d s low rest wm nd S lst) (h12 : nd.len ≤ 12) {l : Sl Stt} (hL : StatesOk s l) (hnl : l.nl = false) : ∃ (es' : List (V × V)) (m' mm' : Nat) (T' : Nat → Rw),
  (((go s low rest wm S nd.len 0 none l = none ∨ nd.len = 0) ∧ (E F (d + 51 + nd.len)).hv 32 [.int .i64 0, (.row true 0 0 (fun _ => [])), sl eStt 6 l, .int .i64 0, .optr 0 0 0, .optr 1 0 0, .optr 2 0 0, .optr 3 0 0, .optr 4 0 0, .optr 5 0 0, .optr 6 0 0] (HA s low rest wm nd (.row true 0 0 (fun _ => [])) [] []) =
    some (.ret (.bool (go s low rest wm S nd.len 0 none l).isSome), HA s low rest wm nd (.row true 0 0 (fun _ => [])) es' [])) ∨
   nd.len ≠ 0 ∧ (E F (d + 51 + nd.len)).hv 32 [.int .i64 0, (.row true 0 0 (fun _ => [])), sl eStt 6 l, .int .i64 0, .optr 0 0 0, .optr 1 0 0, .optr 2 0 0, .optr 3 0 0, .optr 4 0 0, .optr 5 0 0, .optr 6 0 0] (HA s low rest wm nd (.row true 0 0 (fun _ => [])) [] []) =
    some (.ret (.bool (go s low rest wm S nd.len 0 none l).isSome), HA s low rest wm nd (.osl 12 0 m') es' [.arr 29 1 mm' (fun i => eRw (T' i)) true])) ∧
   ∀ ms, go s low rest wm S nd.len 0 none l = some ms → m' = ms.length ∧ ∀ j, j < ms.length → RIs (T' j) (lst (ms.getD j 0)) := by
 have hS := A.site
 have h1 := hS.cavs1
 have h5 := hS.cavs5
 have hF := A.fuel
 have hD : DeadOk s low rest wm S nd.len [] := fun p hp => by cases hp
 cases hN : nd.len with
 | zero =>
  have hcall : (E F (d + 51 + 0)).hv 32 [.int .i64 0, (.row true 0 0 (fun _ => [])), sl eStt 6 l, .int .i64 0, .optr 0 0 0, .optr 1 0 0, .optr 2 0 0, .optr 3 0 0, .optr 4 0 0, .optr 5 0 0, .optr 6 0 0] (HA s low rest wm nd (.row true 0 0 (fun _ => [])) [] []) = some (.ret (.bool true), HA s low rest wm nd (.row true 0 0 (fun _ => [])) [] []) := by
   rw [show d + 51 + 0 = (d + 50) + 1 by omega, E_hv]
   refine (t9032 (E F (d + 50)) F s low rest wm nd [] 0 0 l).trans ?_
   rw [hN]
   rfl
  exact ⟨[], 0, 0, fun _ => ⟨true, 0, 0, fun _ => []⟩, .inl ⟨.inr rfl, hcall⟩, fun ms hms => by cases hms; exact ⟨rfl, fun j hj => by simp at hj⟩⟩
 | succ r =>
  have ht : 0 + (r + 1) = nd.len := by omega
  have hrg := rgB_ok (n := ((0 : Nat) : Int)) (last := 0) (l := l) (by omega) (by omega) (by have := hL.2; exact this)
  unfold rgB at hrg
  have h6 := six_mul (c := cnt r) (A.six 0)
  have hc12 := cnt_le r (by omega)
  have hp12 : 6 ^ (r + 1) ≤ 6 ^ 12 := Nat.pow_le_pow_right (by omega) (by omega)
  have h612 : 6 ^ 12 = 2176782336 := by decide
  obtain ⟨R0, e33', hR⟩ := A.h33 (1 + r) 0 (by omega)
  have e33 : (E F (d + 51 + r)).pf 33 [.int .i64 (s.cavs.len : Int), .int .i64 (nd.el 0)] = some (.ret (.row R0.nl R0.len R0.wd R0.get)) := by
   rw [show d + 50 + (1 + r) = d + 51 + r by omega] at e33'
   exact e33'
  have hgo : go s low rest wm S (r + 1) 0 none l = ((S 0).drop 0).findSome? (fB s low rest wm S r 0 none l) := rfl
  obtain ⟨es', m', mm', T', g1, g2, g3, g4⟩ := l9032x0 (last := 0) A ht rfl (sB A r) hL hnl (by omega) R0 hR (fun _ => ⟨true, 0, 0, fun _ => []⟩) [] hD (S 0).length 0 F (by omega) (by have := A.six 0; omega) (by simp only [List.length_nil]; omega) rfl
  rw [← hgo] at g1 g4
  have hen : (E F (d + 51 + (r + 1))).hv 32 [.int .i64 0, (.row true 0 0 (fun _ => [])), sl eStt 6 l, .int .i64 0, .optr 0 0 0, .optr 1 0 0, .optr 2 0 0, .optr 3 0 0, .optr 4 0 0, .optr 5 0 0, .optr 6 0 0] (HA s low rest wm nd (.row true 0 0 (fun _ => [])) [] []) = _ :=
   t9032 (E F (d + 51 + r)) F s low rest wm nd [] ((0 : Nat) : Int) 0 l
  rw [show (((0 : Nat) : Int) == (nd.len : Int)) = false by simp; omega, cond_false, hnl, cond_false, hrg, cond_true, show mget [] (.agg (keyL ((0 : Nat) : Int) 0 l)) = none from rfl, qOn, decide_eq_true (Int.natCast_nonneg 0), cond_true, decide_eq_true (show ((0 : Nat) : Int) < (nd.len : Int) by omega), cond_true, Int.toNat_natCast, e33, pOut, qRow] at hen
  have hres : ∀ ms, go s low rest wm S (r + 1) 0 none l = some ms → m' = ms.length ∧ ∀ j, j < ms.length → RIs (T' j) (lst (ms.getD j 0)) := fun ms hms => by
   obtain ⟨q1, q2⟩ := g4.2.2 ms hms
   refine ⟨by omega, fun j hj => ?_⟩
   have := q2 j hj
   rw [Nat.zero_add] at this
   exact this
  rcases g1 with ⟨q1, g1⟩ | g1
  ·exact ⟨es', m', mm', T', .inl ⟨.inl q1, hen.trans g1⟩, hres⟩
  ·exact ⟨es', m', mm', T', .inr ⟨by omega, hen.trans g1⟩, hres⟩
theorem go_len : ∀ (r t : Nat) (b : Option (Sl Span)) (l : Sl Stt) (ms : List Int), go s low rest wm S r t b l = some ms → ms.length = r
 | 0, _, _, _, ms, h => by cases h; rfl
 | r + 1, t, b, l, ms, h => by
  unfold go at h
  obtain ⟨m, hm, hf⟩ := List.exists_of_findSome?_eq_some h
  cases ho : okDay s (dayB s low rest wm m) b l with
  | false => rw [ho, cond_false] at hf; cases hf
  | true =>
   rw [ho, cond_true] at hf
   cases hg : go s low rest wm S r (t + 1) (some (dayB s low rest wm m).press) (moved s l (dayB s low rest wm m)) with
   | none => rw [hg] at hf; cases hf
   | some q =>
    rw [hg] at hf
    cases hf
    rw [List.length_cons, go_len r _ _ _ q hg]
end
end Go.Sim.Cr


set_option maxRecDepth 100000
namespace Go.Sim.Cr
open Go.Proofs
section
variable {F : Nat} {s : Site} {low rest : Sl Int} {wm : Span} {nd : Sl Int}
variable {d : Nat} {S : Nat → List Int} {lst : Int → List Int}
theorem plan_ok (A : Ask F d s low rest wm nd S lst) (hs : Small s F) (h12 : nd.len ≤ 12) (hn : NeedOk s nd) :
  ((go s low rest wm S nd.len 0 none (begin s)) = none ∧ (E F (d + 52 + nd.len)).pf 8 [.agg (eSite s), sl eInt 1 low, sl eInt 1 rest, .agg (eSpan wm), sl eInt 1 nd] = some (.ret (.tup [noneRow, .int .i64 5]))) ∨
  ((go s low rest wm S nd.len 0 none (begin s)) = some [] ∧ nd.len = 0 ∧ ∃ wd g, (E F (d + 52 + nd.len)).pf 8 [.agg (eSite s), sl eInt 1 low, sl eInt 1 rest, .agg (eSpan wm), sl eInt 1 nd] = some (.ret (.tup [.row true 0 wd g, .int .i64 0]))) ∨
  (∃ ms T, (go s low rest wm S nd.len 0 none (begin s)) = some ms ∧ ms.length = nd.len ∧ nd.len ≠ 0 ∧ (E F (d + 52 + nd.len)).pf 8 [.agg (eSite s), sl eInt 1 low, sl eInt 1 rest, .agg (eSpan wm), sl eInt 1 nd] = some (.ret (.tup [sl eRw 1 ⟨false, nd.len, T⟩, .int .i64 0])) ∧ ∀ j, j < ms.length → RIs (T j) (lst (ms.getD j 0))) := by
 have hS := A.site
 have h1 := hS.cavs1
 have h5 := hS.cavs5
 have hF := A.fuel
 have hl := A.low_
 have hr := A.rest_
 have e28 : (E F (d + 51 + nd.len)).pf 28 [.agg (eSite s)] = some (.ret (.bool (siteB s))) := by
  have := s48 F (d + 45 + nd.len) s hs
  rw [show d + 45 + nd.len + 6 = d + 51 + nd.len by omega] at this
  exact this
 have e24 : (E F (d + 51 + nd.len)).pf 24 [sl eInt 1 low, pSite s] = some (.ret (.bool (decide (PresOk s low)))) := by
  have := s9024 F (d + 46 + nd.len) low s (by have := hl.1; omega) (by have := hl.1; omega)
  rw [show d + 46 + nd.len + 5 = d + 51 + nd.len by omega] at this
  exact this
 have e24' : (E F (d + 51 + nd.len)).pf 24 [sl eInt 1 rest, pSite s] = some (.ret (.bool (decide (PresOk s rest)))) := by
  have := s9024 F (d + 46 + nd.len) rest s (by have := hr.1; omega) (by have := hr.1; omega)
  rw [show d + 46 + nd.len + 5 = d + 51 + nd.len by omega] at this
  exact this
 have e29 : (E F (d + 51 + nd.len)).pf 29 [.agg (eSpan wm), .int .i64 10000] = some (.ret (.bool (decide (SpanIn wm 0 10000)))) := by
  have := s74 F (d + 50 + nd.len) wm 10000
  rw [show d + 50 + nd.len + 1 = d + 51 + nd.len by omega] at this
  exact this
 have e25 : (E F (d + 51 + nd.len)).pf 25 [sl eInt 1 nd, .fn (.func 30) [] [pSite s]] = some (.ret (.bool (!decide (NeedOk s nd)))) := by
  have := s9025 F (d + 47 + nd.len) nd s (by omega) (by omega)
  rw [show d + 47 + nd.len + 4 = d + 51 + nd.len by omega] at this
  exact this
 have e38 : (E F (d + 51 + nd.len)).pf 38 [pSite s] = some (.ret (sl eStt 6 (begin s))) := by
  have := s57 F (d + 50 + nd.len) s h1 h5 (by omega)
  rw [show d + 50 + nd.len + 1 = d + 51 + nd.len by omega] at this
  exact this
 obtain ⟨es', m', mm', T', hcall, hres⟩ := sA A h12 (begin_ok hS) rfl
 have hen : (E F (d + 52 + nd.len)).pf 8 [.agg (eSite s), sl eInt 1 low, sl eInt 1 rest, .agg (eSpan wm), sl eInt 1 nd] = evFun Tryz.prog (cfg F) (E F (d + 51 + nd.len)) 8 [.agg (eSite s), sl eInt 1 low, sl eInt 1 rest, .agg (eSpan wm), sl eInt 1 nd] := by
  rw [show d + 52 + nd.len = (d + 51 + nd.len) + 1 by omega, E_pf]
 rw [hen, t9008, decide_eq_false (show ¬ (nd.len : Int) > 60 by omega), cond_false]
 simp only [e28, e24, e24', e29, e25, e38, (siteB_iff s).2 hS, decide_eq_true hl, decide_eq_true hr, decide_eq_true A.wm_, decide_eq_true hn, Bool.not_true, pOut, qBool, qRow, pF]
 rcases hcall with ⟨hc, hcall⟩ | ⟨hne, hcall⟩
 ·have e32 : (E F (d + 51 + nd.len)).hv 32 [.int .i64 0, (.row true 0 0 (fun _ => [])), .row (begin s).nl (begin s).len 6 (fun i => eStt ((begin s).el i)), .int .i64 0, .optr 0 0 0, .optr 1 0 0, .optr 2 0 0, .optr 3 0 0, .optr 4 0 0, .optr 5 0 0, .optr 6 0 0] [(.box 29 [(sl eInt 1 nd)] true), (.box 77 [(.mapr 7)] true), (.box 28 (eSite s) true), (.box 76 [(.fn (.func 31) [] [(.optr 2 0 0), (.optr 8 0 0), (.optr 9 0 0), (.optr 10 0 0)])] true), (.box 73 [(.optr 11 0 0)] true), (.box 35 [(.row true 0 0 (fun _ => []))] true), (.box 78 [(.fn (.func 32) [] [(.optr 0 0 0), (.optr 1 0 0), (.optr 2 0 0), (.optr 3 0 0), (.optr 4 0 0), (.optr 5 0 0), (.optr 6 0 0)])] true), (.mp true K32 [] true), (.box 29 [(sl eInt 1 rest)] true), (.box 29 [(sl eInt 1 low)] true), (.box 31 (eSpan wm) true), (.box 75 (eSite s) false)] = some (.ret (.bool (go s low rest wm S nd.len 0 none (begin s)).isSome), [(.box 29 [(sl eInt 1 nd)] true), (.box 77 [(.mapr 7)] true), (.box 28 (eSite s) true), (.box 76 [(.fn (.func 31) [] [(.optr 2 0 0), (.optr 8 0 0), (.optr 9 0 0), (.optr 10 0 0)])] true), (.box 73 [(.optr 11 0 0)] true), (.box 35 [(.row true 0 0 (fun _ => []))] true), (.box 78 [(.fn (.func 32) [] [(.optr 0 0 0), (.optr 1 0 0), (.optr 2 0 0), (.optr 3 0 0), (.optr 4 0 0), (.optr 5 0 0), (.optr 6 0 0)])] true), (.mp true K32 es' true), (.box 29 [(sl eInt 1 rest)] true), (.box 29 [(sl eInt 1 low)] true), (.box 31 (eSpan wm) true), (.box 75 (eSite s) false)]) := hcall
  simp only [e32, qHv, qSC, qSN, qBox, qArr, qMp, qSlr, qSlo, qDead, qSame, qBool, qRow, pOut, pTup, pCons, pAgg, pInt, pNil, pT, pF, Nat.beq_refl, Bool.and_self, beq_self_eq_true, Bool.true_and, Bool.and_true, kK32, n1213]
  cases hg : (go s low rest wm S nd.len 0 none (begin s)) with
  | none =>
   left
   simp only [Option.isSome_none, Bool.not_false, pT]
   exact ⟨trivial, trivial⟩
  | some ms =>
   rcases hc with hc | hc
   ·rw [hg] at hc; cases hc
   ·right; left
    have := go_len _ _ _ _ _ hg
    have hms : ms = [] := List.eq_nil_of_length_eq_zero (by omega)
    simp only [Option.isSome_some, Bool.not_true, pF]
    exact ⟨by rw [hms], hc, _, _, rfl⟩
 ·have e32 : (E F (d + 51 + nd.len)).hv 32 [.int .i64 0, (.row true 0 0 (fun _ => [])), .row (begin s).nl (begin s).len 6 (fun i => eStt ((begin s).el i)), .int .i64 0, .optr 0 0 0, .optr 1 0 0, .optr 2 0 0, .optr 3 0 0, .optr 4 0 0, .optr 5 0 0, .optr 6 0 0] [(.box 29 [(sl eInt 1 nd)] true), (.box 77 [(.mapr 7)] true), (.box 28 (eSite s) true), (.box 76 [(.fn (.func 31) [] [(.optr 2 0 0), (.optr 8 0 0), (.optr 9 0 0), (.optr 10 0 0)])] true), (.box 73 [(.optr 11 0 0)] true), (.box 35 [(.row true 0 0 (fun _ => []))] true), (.box 78 [(.fn (.func 32) [] [(.optr 0 0 0), (.optr 1 0 0), (.optr 2 0 0), (.optr 3 0 0), (.optr 4 0 0), (.optr 5 0 0), (.optr 6 0 0)])] true), (.mp true K32 [] true), (.box 29 [(sl eInt 1 rest)] true), (.box 29 [(sl eInt 1 low)] true), (.box 31 (eSpan wm) true), (.box 75 (eSite s) false)] = some (.ret (.bool (go s low rest wm S nd.len 0 none (begin s)).isSome), [(.box 29 [(sl eInt 1 nd)] true), (.box 77 [(.mapr 7)] true), (.box 28 (eSite s) true), (.box 76 [(.fn (.func 31) [] [(.optr 2 0 0), (.optr 8 0 0), (.optr 9 0 0), (.optr 10 0 0)])] true), (.box 73 [(.optr 11 0 0)] true), (.box 35 [(.osl 12 0 m')] true), (.box 78 [(.fn (.func 32) [] [(.optr 0 0 0), (.optr 1 0 0), (.optr 2 0 0), (.optr 3 0 0), (.optr 4 0 0), (.optr 5 0 0), (.optr 6 0 0)])] true), (.mp true K32 es' true), (.box 29 [(sl eInt 1 rest)] true), (.box 29 [(sl eInt 1 low)] true), (.box 31 (eSpan wm) true), (.box 75 (eSite s) false), (.arr 29 1 mm' (fun i => eRw (T' i)) true)]) := hcall
  simp only [e32, qHv, qSC, qSN, qBox, qArr, qMp, qSlr, qSlo, qDead, qSame, qBool, qRow, pOut, pTup, pCons, pAgg, pInt, pNil, pT, pF, Nat.beq_refl, Bool.and_self, beq_self_eq_true, Bool.true_and, Bool.and_true, kK32, n1213]
  cases hg : (go s low rest wm S nd.len 0 none (begin s)) with
  | none =>
   left
   simp only [Option.isSome_none, Bool.not_false, pT]
   exact ⟨trivial, trivial⟩
  | some ms =>
   right; right
   obtain ⟨q1, q2⟩ := hres ms hg
   have := go_len _ _ _ _ _ hg
   simp only [Option.isSome_some, Bool.not_true, pF]
   refine ⟨ms, T', rfl, this, hne, ?_, q2⟩
   rw [show m' = nd.len by omega]
end
end Go.Sim.Cr


set_option maxRecDepth 100000
namespace Go.Sim.Cr
open Go.Proofs
section
variable {s : Site} {low rest : Sl Int} {wm : Span}
noncomputable abbrev dayR (s : Site) (low rest : Sl Int) (wm : Span) (r : Rw) : Day := dayQ s low rest wm (fun i => hasR r (i : Int))
theorem dayQ_same {q q' : Nat → Bool} (h1 : 1 ≤ s.cavs.len) (h : ∀ i, i < s.cavs.len → q i = q' i) : dayQ s low rest wm q = dayQ s low rest wm q' := by
 unfold dayQ outL
 have : (fun i => pickQ low rest q (min i (s.cavs.len - 1))) = fun i => pickQ low rest q' (min i (s.cavs.len - 1)) := by
  funext i
  unfold pickQ
  rw [h _ (by omega)]
 rw [this]
end
section
variable (F d : Nat) (s : Site) (low rest : Sl Int) (wm : Span)
theorem pickR (q : Nat → Bool) (i : Nat) : (bif q i then [V.int .i64 (low.el i), V.int .i64 (low.el i)] else [V.int .i64 (rest.el i), V.int .i64 (rest.el i)]) = eSpan (pickQ low rest q i) := by
 cases h : q i
 ·rw [cond_false, pick_f h]
 ·rw [cond_true, pick_t h]
theorem l9015x2 (a : Sl Rw) (m0 : Nat) (hl : low.len = s.cavs.len) (hr : rest.len = s.cavs.len) (h5 : s.cavs.len ≤ 5) (h0 : 0 < a.len) (hok : RwOk (a.el 0)) (hB : (a.el 0).len < 4611686018427387904) (hBF : (a.el 0).len < F) : ∀ n i fu, s.cavs.len = i + n → n < fu → 1 ≤ i →
  L9015x2 (E F (d + 1)) F s low rest wm a m0 fu (i : Int) i i i (fun j => eSpan (pickQ low rest (fun i => hasR (a.el 0) (i : Int)) (min j (i - 1)))) i (fun _ => eSpan wm) = L9015x3 (E F (d + 1)) F s low rest wm a m0 1 ((1 : Nat) : Int) 1 (fun _ => eDay (dayR s low rest wm (a.el 0))) := by
 intro n
 induction n with
 | zero =>
  intro i fu h hf h1
  obtain ⟨fu, rfl⟩ : ∃ q, fu = q + 1 := ⟨fu - 1, by omega⟩
  obtain rfl : i = s.cavs.len := by omega
  rw [L9015x2s, decide_eq_false (show ¬ ((s.cavs.len : Nat) : Int) < ((s.cavs.len : Nat) : Int) by omega), cond_false]
  rw [show IntKind.wrap .i64 ((0 : Int) + 1) = ((1 : Nat) : Int) from wr1]
  rfl
 | succ n ih =>
  intro i fu h hf h1
  obtain ⟨fu, rfl⟩ : ∃ q, fu = q + 1 := ⟨fu - 1, by omega⟩
  have hi : i < s.cavs.len := by omega
  have e50 := s9050 F d (a.el 0) (i : Int) hok hB hBF
  rw [L9015x2s]
  simp only [Int.ofNat_lt, hi, show i < rest.len by omega, show i < low.len by omega, zlt h0, decide_true, pT, Int.natCast_nonneg, Int.toNat_natCast, e50, pOut, qBool, show (i + 1) * 16 ≤ 140737488355328 by omega, wrS (show i < 4611686018427387904 by omega), app_same]
  have g := ih (i + 1) fu (by omega) (by omega) (by omega)
  rw [show i + 1 - 1 = i from rfl, ← app_enc eSpan (pickQ low rest (fun i => hasR (a.el 0) (i : Int))) h1] at g
  have e1 := pickR low rest (fun i => hasR (a.el 0) (i : Int)) i
  cases hq : hasR (a.el 0) (i : Int) with
  | true =>
   rw [hq, cond_true] at e1
   rw [cond_true, e1]; exact g
  | false =>
   rw [hq, cond_false] at e1
   rw [cond_false, e1]; exact g
theorem l9015x5 (a : Sl Rw) (m0 : Nat) (t kd : Nat) (g4 : Nat → List V) (htl : t < a.len) (ht100 : t ≤ 100) (hkd : kd ≤ 100) (hl : low.len = s.cavs.len) (hr : rest.len = s.cavs.len) (h5 : s.cavs.len ≤ 5) (h0 : 0 < a.len) (hok : RwOk (a.el t)) (hB : (a.el t).len < 4611686018427387904) (hBF : (a.el t).len < F) : ∀ n i fu, s.cavs.len = i + n → n < fu → 1 ≤ i →
  L9015x5 (E F (d + 1)) F s low rest wm a m0 fu kd (t : Int) (i : Int) kd g4 i i i (fun j => eSpan (pickQ low rest (fun i => hasR (a.el t) (i : Int)) (min j (i - 1)))) i (fun _ => eSpan wm) = L9015x3 (E F (d + 1)) F s low rest wm a m0 (kd + 1) ((t + 1 : Nat) : Int) (kd + 1) (appGet kd g4 (fun _ => eDay (dayR s low rest wm (a.el t)))) := by
 intro n
 induction n with
 | zero =>
  intro i fu h hf h1
  obtain ⟨fu, rfl⟩ : ∃ q, fu = q + 1 := ⟨fu - 1, by omega⟩
  obtain rfl : i = s.cavs.len := by omega
  rw [L9015x5s, decide_eq_false (show ¬ ((s.cavs.len : Nat) : Int) < ((s.cavs.len : Nat) : Int) by omega), cond_false]
  rw [decide_eq_true (show (kd + 1) * 48 ≤ 140737488355328 by omega), cond_true, wrS (show t < 4611686018427387904 by omega)]
  rfl
 | succ n ih =>
  intro i fu h hf h1
  obtain ⟨fu, rfl⟩ : ∃ q, fu = q + 1 := ⟨fu - 1, by omega⟩
  have hi : i < s.cavs.len := by omega
  have e50 := s9050 F d (a.el t) (i : Int) hok hB hBF
  rw [L9015x5s]
  simp only [Int.ofNat_lt, hi, show i < rest.len by omega, show i < low.len by omega, htl, decide_true, pT, Int.natCast_nonneg, Int.toNat_natCast, e50, pOut, qBool, show (i + 1) * 16 ≤ 140737488355328 by omega, wrS (show i < 4611686018427387904 by omega), app_same]
  have g := ih (i + 1) fu (by omega) (by omega) (by omega)
  rw [show i + 1 - 1 = i from rfl, ← app_enc eSpan (pickQ low rest (fun i => hasR (a.el t) (i : Int))) h1] at g
  have e1 := pickR low rest (fun i => hasR (a.el t) (i : Int)) i
  cases hq : hasR (a.el t) (i : Int) with
  | true =>
   rw [hq, cond_true] at e1
   rw [cond_true, e1]; exact g
  | false =>
   rw [hq, cond_false] at e1
   rw [cond_false, e1]; exact g
theorem start_pick (q : Nat → Bool) : (fun j => eSpan (pickQ low rest q (min j (1 - 1)))) = fun _ => eSpan (pickQ low rest q 0) := by funext j; rw [show min j (1 - 1) = 0 from Nat.min_zero j]
theorem l9015x3 (a : Sl Rw) (hl : low.len = s.cavs.len) (hr : rest.len = s.cavs.len) (h1 : 1 ≤ s.cavs.len) (h5 : s.cavs.len ≤ 5) (h0 : 0 < a.len) (h100 : a.len ≤ 100) (hok : ∀ i, i < a.len → RwOk (a.el i) ∧ (a.el i).len < 4611686018427387904 ∧ (a.el i).len < F) (hF : 8 < F) : ∀ n t fu, a.len = t + n → n < fu → 1 ≤ t →
  L9015x3 (E F (d + 1)) F s low rest wm a fu t (t : Int) t (fun j => eDay (dayR s low rest wm (a.el (min j (t - 1))))) = some (.ret (sl eDay 2 (outL a.len (fun i => dayR s low rest wm (a.el i))))) := by
 intro n
 induction n with
 | zero =>
  intro t fu h hf ht
  obtain ⟨fu, rfl⟩ : ∃ q, fu = q + 1 := ⟨fu - 1, by omega⟩
  obtain rfl : t = a.len := by omega
  rw [L9015x3s, decide_eq_false (show ¬ ((a.len : Nat) : Int) < ((a.len : Nat) : Int) by omega), cond_false]
  rfl
 | succ n ih =>
  intro t fu h hf ht
  obtain ⟨fu, rfl⟩ : ∃ q, fu = q + 1 := ⟨fu - 1, by omega⟩
  have htl : t < a.len := by omega
  obtain ⟨k1, k2, k3⟩ := hok t htl
  obtain ⟨fu', hfu'⟩ : ∃ q, F = q + 1 := ⟨F - 1, by omega⟩
  have e50 := s9050 F d (a.el t) ((0 : Nat) : Int) k1 k2 k3
  have e1 := pickR low rest (fun i => hasR (a.el t) (i : Int)) 0
  rw [L9015x3s, decide_eq_true (show (t : Int) < (a.len : Int) by omega), cond_true]
  have gst := L9015x4s (E F (d + 1)) F s low rest wm a fu fu' t (t : Int) t (fun j => eDay (dayR s low rest wm (a.el (min j (t - 1)))))
  rw [← hfu'] at gst
  rw [gst]
  have e50' : (E F (d + 1)).pf 50 [.row (a.el t).nl (a.el t).len (a.el t).wd (a.el t).get, .int .i64 0] = some (.ret (.bool (hasR (a.el t) ((0 : Nat) : Int)))) := e50
  simp only [zlt (show 0 < s.cavs.len by omega), zlt (show 0 < rest.len by omega), zlt (show 0 < low.len by omega), pT, Int.natCast_nonneg, decide_true, Int.ofNat_lt, htl, Int.toNat_natCast, e50', pOut, qBool, wr1]
  have g := l9015x5 F d s low rest wm a fu t t (fun j => eDay (dayR s low rest wm (a.el (min j (t - 1))))) htl (by omega) (by omega) hl hr h5 h0 k1 k2 k3 (s.cavs.len - 1) 1 fu' (by omega) (by omega) (Nat.le_refl _)
  rw [start_pick, app_enc (fun y => eDay y) (fun i => dayR s low rest wm (a.el i)) ht] at g
  have ihh := ih (t + 1) fu (by omega) (by omega) (by omega)
  rw [show t + 1 - 1 = t from rfl] at ihh
  have g2 := g.trans ihh
  cases hq : hasR (a.el t) ((0 : Nat) : Int) with
  | true =>
   rw [hq, cond_true] at e1
   rw [cond_true, e1]; exact g2
  | false =>
   rw [hq, cond_false] at e1
   rw [cond_false, e1]; exact g2
theorem s9015 (a : Sl Rw) (hl : low.len = s.cavs.len) (hr : rest.len = s.cavs.len) (h1 : 1 ≤ s.cavs.len) (h5 : s.cavs.len ≤ 5) (h0 : 0 < a.len) (h100 : a.len ≤ 100) (hok : ∀ i, i < a.len → RwOk (a.el i) ∧ (a.el i).len < 4611686018427387904 ∧ (a.el i).len < F) (hF : 200 < F) :
  (E F (d + 2)).pf 15 [.agg (eSite s), sl eInt 1 low, sl eInt 1 rest, .agg (eSpan wm), sl eRw 1 a] = some (.ret (sl eDay 2 (outL a.len (fun i => dayR s low rest wm (a.el i))))) := by
 obtain ⟨k1, k2, k3⟩ := hok 0 h0
 obtain ⟨fu, hfu⟩ : ∃ q, F = q + 1 := ⟨F - 1, by omega⟩
 have e50 := s9050 F d (a.el 0) ((0 : Nat) : Int) k1 k2 k3
 have e50' : (E F (d + 1)).pf 50 [.row (a.el 0).nl (a.el 0).len (a.el 0).wd (a.el 0).get, .int .i64 0] = some (.ret (.bool (hasR (a.el 0) ((0 : Nat) : Int)))) := e50
 have e1 := pickR low rest (fun i => hasR (a.el 0) (i : Int)) 0
 have g0 := L9015x0s (E F (d + 1)) F s low rest wm a fu
 rw [← hfu] at g0
 have g1 := L9015x1s (E F (d + 1)) F s low rest wm a fu fu
 rw [← hfu] at g1
 rw [E_pf, t9015, g0, zlt h0, cond_true, g1]
 simp only [zlt (show 0 < s.cavs.len by omega), zlt (show 0 < rest.len by omega), zlt (show 0 < low.len by omega), zlt h0, pT, e50', pOut, qBool, wr1]
 have g := l9015x2 F d s low rest wm a fu hl hr h5 h0 k1 k2 k3 (s.cavs.len - 1) 1 fu (by omega) (by omega) (Nat.le_refl _)
 rw [start_pick] at g
 have g3 := l9015x3 F d s low rest wm a hl hr h1 h5 h0 h100 hok (by omega) (a.len - 1) 1 fu (by omega) (by omega) (Nat.le_refl _)
 have e3 : (fun j => eDay (dayR s low rest wm (a.el (min j (1 - 1))))) = fun _ => eDay (dayR s low rest wm (a.el 0)) := by funext j; rw [show min j (1 - 1) = 0 from Nat.min_zero j]
 rw [e3] at g3
 have g2 := g.trans g3
 cases hq : hasR (a.el 0) ((0 : Nat) : Int) with
 | true =>
  rw [hq, cond_true] at e1
  rw [cond_true, e1]; exact g2
 | false =>
  rw [hq, cond_false] at e1
  rw [cond_false, e1]; exact g2
noncomputable def holdsR (a : Sl Rw) : Bool := (refFrom s (outL a.len (fun i => dayR s low rest wm (a.el i))) false a.len 0 (begin s)).rule == 1
end
noncomputable def okFrom (s : Site) (l : Sl Day) : Nat → Nat → Sl Stt → Bool
 | 0, _, _ => true
 | r + 1, i, now => okDay s (l.el i) (prevOf l i) now && okFrom s l r (i + 1) (moved s now (l.el i))
theorem fR_rule {n : Int} {is : Mark → Bool} : ∀ {l : List (Int × List Mark)} {f : Fault}, (∀ p ∈ l, p.1 ≠ 1) → faultR n is l = some f → f.rule ≠ 1
 | [], f, _, h => by cases h
 | (k, ms) :: a, f, hp, h => by
  unfold faultR at h
  cases hm : ms.find? is with
  | some m => rw [hm] at h; cases h; exact hp (k, ms) (by simp)
  | none => rw [hm] at h; exact fR_rule (fun p hq => hp p (by simp [hq])) h
theorem ref_ok {s : Site} {l : Sl Day} : ∀ r i now, ((refFrom s l false r i now).rule == 1) = okFrom s l r i now
 | 0, _, _ => rfl
 | r + 1, i, now => by
  unfold refFrom okFrom okDay
  rw [Bool.and_false, cond_false]
  have he : ∀ p ∈ earlyMs s (l.el i) (prevOf l i), p.1 ≠ 1 := by intro p hp; simp only [earlyMs, List.mem_cons, List.not_mem_nil, or_false] at hp; rcases hp with rfl | rfl | rfl <;> simp
  have hl : ∀ p ∈ lateMs s (some (moved s now (l.el i))), p.1 ≠ 1 := by intro p hp; simp only [lateMs, List.mem_cons, List.not_mem_nil, or_false] at hp; rcases hp with rfl | rfl | rfl <;> simp
  cases hfar : farDay s (l.el i) with
  | true =>
   obtain ⟨f, e⟩ := far_early hfar (i : Int) (prevOf l i)
   rw [e]
   have := fR_rule he e
   simp only [Bool.not_true, Bool.false_and, beq_eq_false_iff_ne, ne_eq]
   exact this
  | false =>
   rw [marks_parts, faultR_n 0 (i : Int), faultR_append, ← isM_f]
   cases e1 : faultR (i : Int) (isM false) (earlyMs s (l.el i) (prevOf l i)) with
   | some f =>
    have := fR_rule he e1
    simp only [Option.isNone_some, Bool.and_false, Bool.false_and, beq_eq_false_iff_ne, ne_eq]
    exact this
   | none =>
    cases e2 : faultR (i : Int) (isM false) (lateMs s (some (moved s now (l.el i)))) with
    | some f =>
     have := fR_rule hl e2
     simp only [Option.isNone_some, Bool.and_false, Bool.false_and, beq_eq_false_iff_ne, ne_eq]
     exact this
    | none =>
     simp only [Option.isNone_none, Bool.not_false, Bool.and_self, Bool.true_and]
     exact ref_ok r (i + 1) (moved s now (l.el i))
end Go.Sim.Cr


set_option maxRecDepth 100000
namespace Go.Sim.Cr
open Go.Proofs
def isIs : Nat → (Nat → List V) → List Int → Bool
 | _, _, [] => true
 | i, g, x :: r => (match g i with | [.int .i64 n] => n == x | _ => false) && isIs (i + 1) g r
def rowIs (o : Option Out) (l : List Int) : Bool := match o with
 | some (.ret (.row _ n w g)) => (n == l.length && (l.isEmpty || w == 1)) && isIs 0 g l
 | _ => false
theorem isIs_at : ∀ (l : List Int) (i : Nat) (g : Nat → List V), isIs i g l = true → ∀ j, j < l.length → g (i + j) = [.int .i64 (l.getD j 0)]
 | [], _, _, _, j, hj => by simp at hj
 | x :: r, i, g, h, j, hj => by
  simp only [isIs, Bool.and_eq_true] at h
  obtain ⟨h1, h2⟩ := h
  cases j with
  | zero =>
   split at h1
   ·rename_i n he
    rw [Nat.add_zero, he, eq_of_beq h1]; rfl
   ·cases h1
  | succ j =>
   have := isIs_at r (i + 1) g h2 j (by simpa using hj)
   rw [show i + 1 + j = i + (j + 1) by omega] at this
   exact this
theorem row_of {o : Option Out} {l : List Int} (h : rowIs o l = true) : ∃ r : Rw, o = some (.ret (.row r.nl r.len r.wd r.get)) ∧ RIs r l := by
 unfold rowIs at h
 split at h
 ·rename_i nl n w g
  simp only [Bool.and_eq_true, Bool.or_eq_true, beq_iff_eq] at h
  obtain ⟨⟨h1, h2⟩, h3⟩ := h
  refine ⟨⟨nl, n, w, g⟩, rfl, h1, fun hl => ?_, fun i hi => ?_⟩
  ·rcases h2 with h2 | h2
   ·cases l with | nil => exact absurd rfl hl | cons => cases h2
   ·exact h2
  ·have := isIs_at l 0 g h3 i hi
   rw [Nat.zero_add] at this
   exact this
 ·cases h
def rwsIs : Nat → (Nat → List V) → List (List Int) → Bool
 | _, _, [] => true
 | i, g, x :: r => (match g i with | [v] => rowIs (some (.ret v)) x | _ => false) && rwsIs (i + 1) g r
def rowsIs (o : Option Out) (l : List (List Int)) : Bool := match o with
 | some (.ret (.row _ n w g)) => (n == l.length && w == 1) && rwsIs 0 g l
 | _ => false
def setsOf (c m : Nat) : List Int := match c, m with
 | 1, 0 => [0]
 | 1, 1 => [1]
 | 2, 0 => [0]
 | 2, 1 => [1, 2]
 | 2, 2 => [3]
 | 3, 0 => [0]
 | 3, 1 => [1, 2, 4]
 | 3, 2 => [3, 5, 6]
 | 3, 3 => [7]
 | 4, 0 => [0]
 | 4, 1 => [1, 2, 4, 8]
 | 4, 2 => [3, 5, 9, 6, 10, 12]
 | 4, 3 => [7, 11, 13, 14]
 | 4, 4 => [15]
 | _, _ => []
def lstN (b : Nat) : List Int := match b with
 | 0 => []
 | 1 => [0]
 | 2 => [1]
 | 3 => [0, 1]
 | 4 => [2]
 | 5 => [0, 2]
 | 6 => [1, 2]
 | 7 => [0, 1, 2]
 | 8 => [3]
 | 9 => [0, 3]
 | 10 => [1, 3]
 | 11 => [0, 1, 3]
 | 12 => [2, 3]
 | 13 => [0, 2, 3]
 | 14 => [1, 2, 3]
 | 15 => [0, 1, 2, 3]
 | _ => []
def lstOf (b : Int) : List Int := lstN b.toNat
theorem k37x0 (F d : Nat) : rowIs ((E (F + 3000) (d + 40)).pf 37 [.int .i64 0]) (lstOf 0) = true := by kernel_rfl
theorem k37x1 (F d : Nat) : rowIs ((E (F + 3000) (d + 40)).pf 37 [.int .i64 1]) (lstOf 1) = true := by kernel_rfl
theorem k37x2 (F d : Nat) : rowIs ((E (F + 3000) (d + 40)).pf 37 [.int .i64 2]) (lstOf 2) = true := by kernel_rfl
theorem k37x3 (F d : Nat) : rowIs ((E (F + 3000) (d + 40)).pf 37 [.int .i64 3]) (lstOf 3) = true := by kernel_rfl
theorem k37x4 (F d : Nat) : rowIs ((E (F + 3000) (d + 40)).pf 37 [.int .i64 4]) (lstOf 4) = true := by kernel_rfl
theorem k37x5 (F d : Nat) : rowIs ((E (F + 3000) (d + 40)).pf 37 [.int .i64 5]) (lstOf 5) = true := by kernel_rfl
theorem k37x6 (F d : Nat) : rowIs ((E (F + 3000) (d + 40)).pf 37 [.int .i64 6]) (lstOf 6) = true := by kernel_rfl
theorem k37x7 (F d : Nat) : rowIs ((E (F + 3000) (d + 40)).pf 37 [.int .i64 7]) (lstOf 7) = true := by kernel_rfl
theorem k37x8 (F d : Nat) : rowIs ((E (F + 3000) (d + 40)).pf 37 [.int .i64 8]) (lstOf 8) = true := by kernel_rfl
theorem k37x9 (F d : Nat) : rowIs ((E (F + 3000) (d + 40)).pf 37 [.int .i64 9]) (lstOf 9) = true := by kernel_rfl
theorem k37x10 (F d : Nat) : rowIs ((E (F + 3000) (d + 40)).pf 37 [.int .i64 10]) (lstOf 10) = true := by kernel_rfl
theorem k37x11 (F d : Nat) : rowIs ((E (F + 3000) (d + 40)).pf 37 [.int .i64 11]) (lstOf 11) = true := by kernel_rfl
theorem k37x12 (F d : Nat) : rowIs ((E (F + 3000) (d + 40)).pf 37 [.int .i64 12]) (lstOf 12) = true := by kernel_rfl
theorem k37x13 (F d : Nat) : rowIs ((E (F + 3000) (d + 40)).pf 37 [.int .i64 13]) (lstOf 13) = true := by kernel_rfl
theorem k37x14 (F d : Nat) : rowIs ((E (F + 3000) (d + 40)).pf 37 [.int .i64 14]) (lstOf 14) = true := by kernel_rfl
theorem k37x15 (F d : Nat) : rowIs ((E (F + 3000) (d + 40)).pf 37 [.int .i64 15]) (lstOf 15) = true := by kernel_rfl
theorem k33x10 (F d : Nat) : rowIs ((E (F + 3000) (d + 50)).pf 33 [.int .i64 1, .int .i64 0]) (setsOf 1 0) = true := by kernel_rfl
theorem k33x11 (F d : Nat) : rowIs ((E (F + 3000) (d + 50)).pf 33 [.int .i64 1, .int .i64 1]) (setsOf 1 1) = true := by kernel_rfl
theorem k33x20 (F d : Nat) : rowIs ((E (F + 3000) (d + 50)).pf 33 [.int .i64 2, .int .i64 0]) (setsOf 2 0) = true := by kernel_rfl
theorem k33x21 (F d : Nat) : rowIs ((E (F + 3000) (d + 50)).pf 33 [.int .i64 2, .int .i64 1]) (setsOf 2 1) = true := by kernel_rfl
theorem k33x22 (F d : Nat) : rowIs ((E (F + 3000) (d + 50)).pf 33 [.int .i64 2, .int .i64 2]) (setsOf 2 2) = true := by kernel_rfl
theorem k33x30 (F d : Nat) : rowIs ((E (F + 3000) (d + 50)).pf 33 [.int .i64 3, .int .i64 0]) (setsOf 3 0) = true := by kernel_rfl
theorem k33x31 (F d : Nat) : rowIs ((E (F + 3000) (d + 50)).pf 33 [.int .i64 3, .int .i64 1]) (setsOf 3 1) = true := by kernel_rfl
theorem k33x32 (F d : Nat) : rowIs ((E (F + 3000) (d + 50)).pf 33 [.int .i64 3, .int .i64 2]) (setsOf 3 2) = true := by kernel_rfl
theorem k33x33 (F d : Nat) : rowIs ((E (F + 3000) (d + 50)).pf 33 [.int .i64 3, .int .i64 3]) (setsOf 3 3) = true := by kernel_rfl
theorem k33x40 (F d : Nat) : rowIs ((E (F + 3000) (d + 50)).pf 33 [.int .i64 4, .int .i64 0]) (setsOf 4 0) = true := by kernel_rfl
theorem k33x41 (F d : Nat) : rowIs ((E (F + 3000) (d + 50)).pf 33 [.int .i64 4, .int .i64 1]) (setsOf 4 1) = true := by kernel_rfl
theorem k33x42 (F d : Nat) : rowIs ((E (F + 3000) (d + 50)).pf 33 [.int .i64 4, .int .i64 2]) (setsOf 4 2) = true := by kernel_rfl
theorem k33x43 (F d : Nat) : rowIs ((E (F + 3000) (d + 50)).pf 33 [.int .i64 4, .int .i64 3]) (setsOf 4 3) = true := by kernel_rfl
theorem k33x44 (F d : Nat) : rowIs ((E (F + 3000) (d + 50)).pf 33 [.int .i64 4, .int .i64 4]) (setsOf 4 4) = true := by kernel_rfl
theorem cases4 {p : Nat → Nat → Prop} (h : p 1 0 ∧ p 1 1 ∧ p 2 0 ∧ p 2 1 ∧ p 2 2 ∧ p 3 0 ∧ p 3 1 ∧ p 3 2 ∧ p 3 3 ∧ p 4 0 ∧ p 4 1 ∧ p 4 2 ∧ p 4 3 ∧ p 4 4) {c m : Nat} (h1 : 1 ≤ c) (h4 : c ≤ 4) (hm : m ≤ c) : p c m := by
 have hc : c = 1 ∨ c = 2 ∨ c = 3 ∨ c = 4 := by omega
 rcases hc with rfl | rfl | rfl | rfl
 ·have hm : m = 0 ∨ m = 1 := by omega
  rcases hm with rfl | rfl
  ·exact h.1
  ·exact h.2.1
 ·have hm : m = 0 ∨ m = 1 ∨ m = 2 := by omega
  rcases hm with rfl | rfl | rfl
  ·exact h.2.2.1
  ·exact h.2.2.2.1
  ·exact h.2.2.2.2.1
 ·have hm : m = 0 ∨ m = 1 ∨ m = 2 ∨ m = 3 := by omega
  rcases hm with rfl | rfl | rfl | rfl
  ·exact h.2.2.2.2.2.1
  ·exact h.2.2.2.2.2.2.1
  ·exact h.2.2.2.2.2.2.2.1
  ·exact h.2.2.2.2.2.2.2.2.1
 ·have hm : m = 0 ∨ m = 1 ∨ m = 2 ∨ m = 3 ∨ m = 4 := by omega
  rcases hm with rfl | rfl | rfl | rfl | rfl
  ·exact h.2.2.2.2.2.2.2.2.2.1
  ·exact h.2.2.2.2.2.2.2.2.2.2.1
  ·exact h.2.2.2.2.2.2.2.2.2.2.2.1
  ·exact h.2.2.2.2.2.2.2.2.2.2.2.2.1
  ·exact h.2.2.2.2.2.2.2.2.2.2.2.2.2
theorem all33 (F d : Nat) {c m : Nat} (h1 : 1 ≤ c) (h4 : c ≤ 4) (hm : m ≤ c) : rowIs ((E (F + 3000) (d + 50)).pf 33 [.int .i64 (c : Int), .int .i64 (m : Int)]) (setsOf c m) = true :=
 cases4 (p := fun c m => rowIs ((E (F + 3000) (d + 50)).pf 33 [.int .i64 (c : Int), .int .i64 (m : Int)]) (setsOf c m) = true) ⟨k33x10 F d, k33x11 F d, k33x20 F d, k33x21 F d, k33x22 F d, k33x30 F d, k33x31 F d, k33x32 F d, k33x33 F d, k33x40 F d, k33x41 F d, k33x42 F d, k33x43 F d, k33x44 F d⟩ h1 h4 hm
theorem all37 (F d : Nat) {b : Int} (h0 : 0 ≤ b) (h16 : b < 16) : rowIs ((E (F + 3000) (d + 40)).pf 37 [.int .i64 b]) (lstOf b) = true := by
 have hb : b = 0 ∨ b = 1 ∨ b = 2 ∨ b = 3 ∨ b = 4 ∨ b = 5 ∨ b = 6 ∨ b = 7 ∨ b = 8 ∨ b = 9 ∨ b = 10 ∨ b = 11 ∨ b = 12 ∨ b = 13 ∨ b = 14 ∨ b = 15 := by omega
 rcases hb with rfl | rfl | rfl | rfl | rfl | rfl | rfl | rfl | rfl | rfl | rfl | rfl | rfl | rfl | rfl | rfl
 ·exact k37x0 F d
 ·exact k37x1 F d
 ·exact k37x2 F d
 ·exact k37x3 F d
 ·exact k37x4 F d
 ·exact k37x5 F d
 ·exact k37x6 F d
 ·exact k37x7 F d
 ·exact k37x8 F d
 ·exact k37x9 F d
 ·exact k37x10 F d
 ·exact k37x11 F d
 ·exact k37x12 F d
 ·exact k37x13 F d
 ·exact k37x14 F d
 ·exact k37x15 F d
theorem sets_in {c m : Nat} (h1 : 1 ≤ c) (h4 : c ≤ 4) (hm : m ≤ c) : (setsOf c m).length ≤ 6 ∧ ∀ b ∈ setsOf c m, 0 ≤ b ∧ b < 16 :=
 cases4 (p := fun c m => (setsOf c m).length ≤ 6 ∧ ∀ b ∈ setsOf c m, 0 ≤ b ∧ b < 16) (by decide) h1 h4 hm
end Go.Sim.Cr


set_option maxRecDepth 100000
namespace Go.Sim.Cr
open Go.Proofs
abbrev RsIs (a : Sl Rw) (ms : List Int) : Prop := a.len = ms.length ∧ ∀ i, i < a.len → RIs (a.el i) (lstOf (ms.getD i 0))
theorem ris_rv {r : Rw} {l : List Int} (h : RIs r l) {i : Nat} (hi : i < l.length) : rv r i = l.getD i 0 := by
 unfold rv
 rw [h.2.2 i hi]
theorem ris_ok {r : Rw} {l : List Int} (h : RIs r l) : RwOk r := fun i hi => by
 have hi' : i < l.length := by have := h.1; omega
 refine ⟨h.2.1 (fun he => by rw [he] at hi'; simp at hi'), ?_⟩
 rw [h.2.2 i hi', ris_rv h hi']
theorem hasR_mem {r : Rw} {l : List Int} (h : RIs r l) (x : Int) : hasR r x = decide (x ∈ l) := by
 apply b2
 unfold hasR
 rw [anyF_eq, decide_eq_true_iff]
 have hl := h.1
 constructor
 ·rintro ⟨k, _, hk, he⟩
  rw [ris_rv h (by omega), beq_iff_eq] at he
  rw [← he, List.getD_eq_getElem?_getD, List.getElem?_eq_getElem (by omega)]
  exact List.getElem_mem _
 ·intro hx
  obtain ⟨k, hk, rfl⟩ := List.mem_iff_getElem.1 hx
  refine ⟨k, Nat.zero_le _, by omega, ?_⟩
  rw [ris_rv h hk, beq_iff_eq, List.getD_eq_getElem?_getD, List.getElem?_eq_getElem hk]
  rfl
theorem bits_all : ∀ m : Fin 16, ∀ i : Fin 4, bitB ((m.1 : Nat) : Int) i.1 = decide (((i.1 : Nat) : Int) ∈ lstOf ((m.1 : Nat) : Int)) := by decide +kernel
theorem bits_mem {m : Int} (h0 : 0 ≤ m) (h16 : m < 16) {i : Nat} (hi : i < 4) : bitB m i = decide ((i : Int) ∈ lstOf m) := by
 have := bits_all ⟨m.toNat, by omega⟩ ⟨i, hi⟩
 rw [show ((m.toNat : Nat) : Int) = m by omega] at this
 exact this
theorem lst_len : ∀ m : Fin 16, (lstOf ((m.1 : Nat) : Int)).length ≤ 4 := by decide
theorem lst_le {m : Int} (h0 : 0 ≤ m) (h16 : m < 16) : (lstOf m).length ≤ 4 := by
 have := lst_len ⟨m.toNat, by omega⟩
 rw [show ((m.toNat : Nat) : Int) = m by omega] at this
 exact this
section
variable {s : Site} {low rest : Sl Int} {wm : Span}
theorem dayR_mask (h1 : 1 ≤ s.cavs.len) (h4 : s.cavs.len ≤ 4) {r : Rw} {m : Int} (h0 : 0 ≤ m) (h16 : m < 16) (h : RIs r (lstOf m)) : dayR s low rest wm r = dayB s low rest wm m :=
 dayQ_same h1 fun i hi => by rw [hasR_mem h, bits_mem h0 h16 (by omega)]
variable (s low rest wm)
noncomputable def okL : List Int → Option (Sl Span) → Sl Stt → Bool
 | [], _, _ => true
 | m :: r, b, now => okDay s (dayB s low rest wm m) b now && okL r (some (dayB s low rest wm m).press) (moved s now (dayB s low rest wm m))
noncomputable def stL : List Int → Sl Stt → Sl Stt
 | [], now => now
 | m :: r, now => stL r (moved s now (dayB s low rest wm m))
noncomputable def befL : List Int → Option (Sl Span) → Option (Sl Span)
 | [], b => b
 | m :: r, _ => befL r (some (dayB s low rest wm m).press)
variable {s low rest wm}
theorem drop_cons_getD {ms : List Int} {i : Nat} (h : i < ms.length) : ms.drop i = ms.getD i 0 :: ms.drop (i + 1) := by
 rw [List.drop_eq_getElem_cons h, List.getD_eq_getElem?_getD, List.getElem?_eq_getElem h, Option.getD_some]
theorem okFrom_masks {L : Sl Day} {ms : List Int} (hL : ∀ i, i < ms.length → L.el i = dayB s low rest wm (ms.getD i 0)) : ∀ r i now, ms.length = i + r → okFrom s L r i now = okL s low rest wm (ms.drop i) (prevOf L i) now
 | 0, i, now, h => by rw [List.drop_eq_nil_of_le (by omega)]; rfl
 | r + 1, i, now, h => by
  have hi : i < ms.length := by omega
  rw [drop_cons_getD hi]
  unfold okFrom okL
  rw [okFrom_masks hL r (i + 1) _ (by omega), hL i hi]
  rw [show prevOf L (i + 1) = some (L.el i).press from rfl, hL i hi]
theorem holds_masks (h1 : 1 ≤ s.cavs.len) (h4 : s.cavs.len ≤ 4) {a : Sl Rw} {ms : List Int} (h : RsIs a ms) (hm : ∀ m ∈ ms, 0 ≤ m ∧ m < 16) : holdsR s low rest wm a = okL s low rest wm ms none (begin s) := by
 unfold holdsR
 rw [ref_ok]
 have := okFrom_masks (s := s) (low := low) (rest := rest) (wm := wm) (L := outL a.len (fun i => dayR s low rest wm (a.el i))) (ms := ms) (fun i hi => by
  have hi' : i < a.len := by have := h.1; omega
  rw [outL_el hi']
  have hmem : ms.getD i 0 ∈ ms := by rw [List.getD_eq_getElem?_getD, List.getElem?_eq_getElem hi]; exact List.getElem_mem hi
  exact dayR_mask h1 h4 (hm _ hmem).1 (hm _ hmem).2 (h.2 i hi')) a.len 0 (begin s) (by have := h.1; omega)
 exact this
theorem rs_rows {a : Sl Rw} {ms : List Int} (h : RsIs a ms) (hm : ∀ m ∈ ms, 0 ≤ m ∧ m < 16) {F : Nat} (hF : 8 < F) : ∀ i, i < a.len → RwOk (a.el i) ∧ (a.el i).len < 4611686018427387904 ∧ (a.el i).len < F := fun i hi => by
 have hi' : i < ms.length := by have := h.1; omega
 have hmem : ms.getD i 0 ∈ ms := by rw [List.getD_eq_getElem?_getD, List.getElem?_eq_getElem hi']; exact List.getElem_mem hi'
 have hr := h.2 i hi
 have := lst_le (hm _ hmem).1 (hm _ hmem).2
 exact ⟨ris_ok hr, by have := hr.1; omega, by have := hr.1; omega⟩
end
def snocR (a : Sl Rw) (r : Rw) : Sl Rw := ⟨false, a.len + 1, fun i => if i < a.len then a.el i else r⟩
end Go.Sim.Cr


set_option maxRecDepth 100000
namespace Go.Sim.Cr
open Go.Proofs
structure Pln (s : Site) (low rest : Sl Int) (wm : Span) (nd : Sl Int) : Prop where
 site : SiteF s
 c4 : s.cavs.len ≤ 4
 low_ : PresOk s low
 rest_ : PresOk s rest
 wm_ : SpanIn wm 0 10000
 need : NeedOk s nd
 n12 : nd.len ≤ 12
def setsN (s : Site) (nd : Sl Int) (t : Nat) : List Int := setsOf s.cavs.len (nd.el t).toNat
section
variable {s : Site} {low rest : Sl Int} {wm : Span} {nd : Sl Int}
theorem setsN_in (P : Pln s low rest wm nd) {t : Nat} (ht : t < nd.len) : (setsN s nd t).length ≤ 6 ∧ ∀ b ∈ setsN s nd t, 0 ≤ b ∧ b < 16 := by
 have := P.need t ht
 exact sets_in P.site.cavs1 P.c4 (by omega)
theorem ask_of (P : Pln s low rest wm nd) {F : Nat} (hF : 67108864 < F + 3000) (d : Nat) : Ask (F + 3000) d s low rest wm nd (fun t => if t < nd.len then setsN s nd t else []) lstOf where
 site := P.site
 low_ := P.low_
 rest_ := P.rest_
 wm_ := P.wm_
 fuel := hF
 days := by have := P.n12; omega
 six := fun t => by
  split
  ·rename_i h; exact (setsN_in P h).1
  ·simp
 m64 := fun t m hm => by
  split at hm
  ·rename_i h
   have := (setsN_in P h).2 m hm
   omega
  ·cases hm
 h33 := fun e t ht => by
  have hn := P.need t ht
  have := all33 F (d + e) (c := s.cavs.len) (m := (nd.el t).toNat) P.site.cavs1 P.c4 (by omega)
  rw [show (((nd.el t).toNat : Nat) : Int) = nd.el t by omega, show d + e + 50 = d + 50 + e by omega] at this
  rw [if_pos ht]
  exact row_of this
 h37 := fun e t m ht hm => by
  rw [if_pos ht] at hm
  have h := (setsN_in P ht).2 m hm
  have := all37 F (d + 10 + e) h.1 h.2
  rw [show d + 10 + e + 40 = d + 50 + e by omega] at this
  exact row_of this
noncomputable abbrev goN (s : Site) (low rest : Sl Int) (wm : Span) (nd : Sl Int) := go s low rest wm (fun t => if t < nd.len then setsN s nd t else [])
abbrev ARGS (s : Site) (low rest : Sl Int) (wm : Span) (nd : Sl Int) (a : V) : List V := [.agg (eSite s), sl eInt 1 low, sl eInt 1 rest, .agg (eSpan wm), sl eInt 1 nd, a]
def Ans (res : Option (List Int)) (ms : List Int) (o : Option Out) : Prop := (res = none ∧ o = some (.ret (.tup [noneRow, .bool false]))) ∨ ∃ q a', res = some q ∧ RsIs a' (ms ++ q) ∧ a'.nl = false ∧ 1 ≤ a'.len ∧ o = some (.ret (.tup [sl eRw 1 a', .bool true]))
abbrev InS (s : Site) (nd : Sl Int) (ms : List Int) : Prop := ∀ i, i < ms.length → ms.getD i 0 ∈ setsN s nd i
theorem ins_16 (P : Pln s low rest wm nd) {ms : List Int} (h : InS s nd ms) (hl : ms.length ≤ nd.len) : ∀ m ∈ ms, 0 ≤ m ∧ m < 16 := fun m hm => by
 obtain ⟨i, hi, rfl⟩ := List.mem_iff_getElem.1 hm
 have := h i hi
 rw [List.getD_eq_getElem?_getD, List.getElem?_eq_getElem hi, Option.getD_some] at this
 exact (setsN_in P (by omega)).2 _ this
variable (F d : Nat)
end
end Go.Sim.Cr


set_option maxRecDepth 100000
namespace Go.Sim.Cr
open Go.Proofs
def oneR (r : Rw) : Sl Rw := ⟨false, 1, fun _ => r⟩
section
variable {s : Site} {low rest : Sl Int} {wm : Span} {nd : Sl Int} (F d : Nat)
def Ans0 (nd : Sl Int) (res : Option (List Int)) (o : Option Out) : Prop := (res = none ∧ o = some (.ret (.tup [noneRow, .bool false]))) ∨ (res = some [] ∧ nd.len = 0 ∧ o = some (.ret (.tup [noneRow, .bool true]))) ∨
 ∃ q a', res = some q ∧ nd.len ≠ 0 ∧ RsIs a' q ∧ a'.nl = false ∧ 1 ≤ a'.len ∧ o = some (.ret (.tup [sl eRw 1 a', .bool true]))
end
section
variable (F d : Nat) {a b : Sl Rw} {ms : List Int}
end
end Go.Sim.Cr


set_option maxRecDepth 100000
namespace Go.Sim.Cr
open Go.Proofs
variable (F d : Nat) {s : Site} {low rest : Sl Int} {wm : Span} {nd : Sl Int}
abbrev ShortS (s : Site) : Prop := s.cavs.len ≤ 10 ∧ s.rows.len ≤ 12 ∧ s.heats.len ≤ 12 ∧ s.rings.len ≤ 12 ∧ s.houses.len ≤ 10
theorem small_of {s : Site} (h : ShortS s) (hF : 67108864 < F) : Small s F := by
 constructor
 ·show s.cavs.len < 4611686018427387904; omega
 ·show s.rows.len < 4611686018427387904; omega
 ·show s.heats.len < 4611686018427387904; omega
 ·show s.rings.len < 4611686018427387904; omega
 ·show s.houses.len < 4611686018427387904; omega
 all_goals omega
def LitOk (s : Site) (nd : Sl Int) (a b : Nat) : Prop := (60 < nd.len ∧ nd.len ≤ 65) ∨ (siteB s = false ∧ nd.len ≤ 10) ∨ (s.cavs.len ≤ a ∧ nd.len ≤ b)
instance (s : Site) (nd : Sl Int) (a b : Nat) : Decidable (LitOk s nd a b) := by unfold LitOk; infer_instance
theorem zz0 : ((0 : Int) == 0) = true := by decide
theorem ms_in (P : Pln s low rest wm nd) : ∀ (r t : Nat) (b : Option (Sl Span)) (now : Sl Stt) (ms : List Int), t + r = nd.len → goN s low rest wm nd r t b now = some ms → ∀ m ∈ ms, 0 ≤ m ∧ m < 16
 | 0, _, _, _, ms, _, h => by cases h; intro m hm; cases hm
 | r + 1, t, b, now, ms, ht, h => by
  unfold goN go at h
  rw [if_pos (by omega)] at h
  obtain ⟨x, hx, hf⟩ := List.exists_of_findSome?_eq_some h
  cases ho : okDay s (dayB s low rest wm x) b now with
  | false => rw [ho, cond_false] at hf; cases hf
  | true =>
   rw [ho, cond_true] at hf
   cases hg : goN s low rest wm nd r (t + 1) (some (dayB s low rest wm x).press) (moved s now (dayB s low rest wm x)) with
   | none => rw [show go s low rest wm (fun t => if t < nd.len then setsN s nd t else []) r (t + 1) _ _ = none from hg] at hf; cases hf
   | some q =>
    rw [show go s low rest wm (fun t => if t < nd.len then setsN s nd t else []) r (t + 1) _ _ = some q from hg] at hf
    cases hf
    intro m hm
    rcases List.mem_cons.1 hm with rfl | hm
    ·exact (setsN_in P (by omega)).2 _ hx
    ·exact ms_in P r (t + 1) _ _ q (by omega) hg m hm
end Go.Sim.Cr


set_option maxRecDepth 100000
namespace Go.Sim.Cr
open Go.Proofs
variable (F d : Nat) {s : Site} {low rest : Sl Int} {wm : Span} {nd : Sl Int}
theorem s9044 (h1 : 1 ≤ s.cavs.len) (h4 : s.cavs.len ≤ 4) (a : Int) : (E F (d + 2)).pf 44 [.agg (eSite s), .int .i64 a] = some (.ret (.bool (decide (0 ≤ a ∧ a < (s.cavs.len : Int))))) := by
 have e := s54 F d a 0 ((s.cavs.len - 1 : Nat) : Int)
 rw [E_pf, t9044, wrLen h1 (by omega), e, pOut, qBool, inLen h1]
abbrev Fit1 (c : Nat) (r : Rw) (j : Nat) : Prop := 0 ≤ rv r j ∧ rv r j < (c : Int) ∧ (0 < j → rv r (j - 1) < rv r j)
abbrev FitR (c : Nat) (k : Int) (r : Rw) : Prop := (∀ j, j < r.len → Fit1 c r j) ∧ (r.len : Int) = k
theorem l9013x1 (h1 : 1 ≤ s.cavs.len) (h4 : s.cavs.len ≤ 4) (a : Sl Rw) (m0 t : Nat) (ht : t < a.len) (htn : t < nd.len) (hr : RwOk (a.el t)) (hB : (a.el t).len ≤ 100) : ∀ n k fu, (a.el t).len = k + n → n < fu → (∀ j, j < k → Fit1 s.cavs.len (a.el t) j) →
  (FitR s.cavs.len (nd.el t) (a.el t) → L9013x1 (E F (d + 2)) F s nd a m0 fu (t : Int) (k : Int) = L9013x0 (E F (d + 2)) F s nd a m0 (IntKind.wrap .i64 ((t : Int) + 1))) ∧
  (¬ FitR s.cavs.len (nd.el t) (a.el t) → L9013x1 (E F (d + 2)) F s nd a m0 fu (t : Int) (k : Int) = some (.ret (.bool false))) := by
 intro n
 induction n with
 | zero =>
  intro k fu h hf hd
  obtain ⟨fu, rfl⟩ : ∃ q, fu = q + 1 := ⟨fu - 1, by omega⟩
  have hk : (a.el t).len = k := by omega
  rw [L9013x1s]
  simp only [Int.natCast_nonneg, decide_true, pT, Int.ofNat_lt, ht, htn, Int.toNat_natCast, show ¬ k < (a.el t).len by omega, decide_false, pF]
  by_cases he : ((a.el t).len : Int) = nd.el t
  ·refine ⟨fun _ => ?_, fun hn => absurd ⟨fun j hj => hd j (by omega), he⟩ hn⟩
   rw [he, bne_self_eq_false, cond_false]
  ·refine ⟨fun hn => absurd hn.2 he, fun _ => ?_⟩
   rw [show (((a.el t).len : Int) != nd.el t) = true by simpa using he, cond_true]
 | succ n ih =>
  intro k fu h hf hd
  obtain ⟨fu, rfl⟩ : ∃ q, fu = q + 1 := ⟨fu - 1, by omega⟩
  have hk : k < (a.el t).len := by omega
  obtain ⟨w1, g1⟩ := hr k hk
  have w : ((a.el t).wd == 1) = true := by rw [w1]; rfl
  have e44 := s9044 F d h1 h4 (rv (a.el t) k)
  rw [L9013x1s]
  simp only [Int.natCast_nonneg, decide_true, pT, Int.ofNat_lt, ht, Int.toNat_natCast, hk, w, g1, pCons, pInt, e44, pOut, qBool]
  by_cases hin : 0 ≤ rv (a.el t) k ∧ rv (a.el t) k < (s.cavs.len : Int)
  rotate_left
  ·refine ⟨fun hn => absurd ⟨(hn.1 k hk).1, (hn.1 k hk).2.1⟩ hin, fun _ => ?_⟩
   rw [decide_eq_false hin, Bool.not_false, cond_true]
  rw [decide_eq_true hin, Bool.not_true, cond_false, wrS (show k < 4611686018427387904 by omega)]
  have nx := ih (k + 1) fu (by omega) (by omega)
  cases k with
  | zero =>
   rw [decide_eq_false (show ¬ ((0 : Nat) : Int) > 0 by omega), cond_false]
   exact nx (fun j hj => by
    obtain rfl : j = 0 := by omega
    exact ⟨hin.1, hin.2, fun h => absurd h (by omega)⟩)
  | succ k =>
   obtain ⟨_, g2⟩ := hr k (by omega)
   have e1 : IntKind.i64.wrap (((k + 1 : Nat) : Int) - 1) = (k : Int) := by rw [wr (by omega)]; omega
   simp only [decide_eq_true (show ((k + 1 : Nat) : Int) > 0 by omega), pT, e1, Int.natCast_nonneg, decide_true, Int.ofNat_lt, Int.toNat_natCast, show k < (a.el t).len by omega, g2, pCons, pInt]
   by_cases hlt : rv (a.el t) (k + 1) ≤ rv (a.el t) k
   ·refine ⟨fun hn => ?_, fun _ => ?_⟩
    ·have := (hn.1 (k + 1) hk).2.2 (by omega)
     rw [show k + 1 - 1 = k from rfl] at this
     omega
    ·rw [decide_eq_true hlt, cond_true]
   ·rw [decide_eq_false hlt, cond_false]
    exact nx (fun j hj => by
     by_cases hj' : j < k + 1
     ·exact hd j hj'
     ·obtain rfl : j = k + 1 := by omega
      refine ⟨hin.1, hin.2, fun _ => ?_⟩
      rw [show k + 1 - 1 = k from rfl]
      omega)
abbrev FitsP (s : Site) (nd : Sl Int) (a : Sl Rw) : Prop := a.len = nd.len ∧ ∀ t, t < a.len → FitR s.cavs.len (nd.el t) (a.el t)
theorem s9013 (h1 : 1 ≤ s.cavs.len) (h4 : s.cavs.len ≤ 4) (a : Sl Rw) (hr : ∀ t, t < a.len → RwOk (a.el t) ∧ (a.el t).len ≤ 100) (h100 : a.len ≤ 100) (hF : 200 < F) : (E F (d + 3)).pf 13 [.agg (eSite s), sl eInt 1 nd, sl eRw 1 a] = some (.ret (.bool (decide (FitsP s nd a)))) := by
 rw [E_pf, t9013]
 by_cases hl : a.len = nd.len
 rotate_left
 ·rw [show ((a.len : Int) != (nd.len : Int)) = true by simp; omega, cond_true, decide_eq_false (fun h => hl h.1)]
 rw [show ((a.len : Int) != (nd.len : Int)) = false by simp; omega, cond_false]
 have loop : ∀ n t fu, a.len = t + n → n < fu → (∀ j, j < t → FitR s.cavs.len (nd.el j) (a.el j)) → L9013x0 (E F (d + 2)) F s nd a fu (t : Int) = some (.ret (.bool (decide (FitsP s nd a)))) := by
  intro n
  induction n with
  | zero =>
   intro t fu h hf hd
   obtain ⟨fu, rfl⟩ : ∃ q, fu = q + 1 := ⟨fu - 1, by omega⟩
   rw [L9013x0s, decide_eq_false (show ¬ (t : Int) < (a.len : Int) by omega), cond_false, decide_eq_true (show FitsP s nd a from ⟨hl, fun j hj => hd j (by omega)⟩)]
  | succ n ih =>
   intro t fu h hf hd
   obtain ⟨fu, rfl⟩ : ∃ q, fu = q + 1 := ⟨fu - 1, by omega⟩
   have ht : t < a.len := by omega
   rw [L9013x0s, decide_eq_true (show (t : Int) < (a.len : Int) by omega), cond_true]
   have g := l9013x1 F d (nd := nd) h1 h4 a fu t ht (by omega) (hr t ht).1 (hr t ht).2 (a.el t).len 0 F (by omega) (by have := (hr t ht).2; omega) (fun j hj => absurd hj (by omega))
   by_cases hfit : FitR s.cavs.len (nd.el t) (a.el t)
   ·have g1 := g.1 hfit
    rw [wrS (show t < 4611686018427387904 by omega)] at g1
    refine g1.trans (ih (t + 1) fu (by omega) (by omega) fun j hj => ?_)
    by_cases hj' : j < t
    ·exact hd j hj'
    ·obtain rfl : j = t := by omega
     exact hfit
   ·rw [decide_eq_false (show ¬ FitsP s nd a from fun h => hfit (h.2 t ht))]
    exact g.2 hfit
 exact loop a.len 0 F (by omega) (by omega) (fun j hj => absurd hj (by omega))
theorem s9113 (h0 : nd.len = 0) (hF : 200 < F) (wa : Nat) (ga : Nat → List V) : (E F (d + 1)).pf 13 [.agg (eSite s), sl eInt 1 nd, .row true 0 wa ga] = some (.ret (.bool true)) := by
 obtain ⟨fu, hfu⟩ : ∃ q, F = q + 1 := ⟨F - 1, by omega⟩
 have g := L9113x0s (E F d) F s nd wa ga fu
 rw [← hfu] at g
 rw [E_pf, t9113, h0, bne_self_eq_false, cond_false, g]
theorem s9115 (hF : 200 < F) (wa : Nat) (ga : Nat → List V) : (E F (d + 1)).pf 15 [.agg (eSite s), sl eInt 1 low, sl eInt 1 rest, .agg (eSpan wm), .row true 0 wa ga] = some (.ret noneRow) := by
 obtain ⟨fu, hfu⟩ : ∃ q, F = q + 1 := ⟨F - 1, by omega⟩
 have g := L9115x0s (E F d) F s low rest wm wa ga fu
 rw [← hfu] at g
 rw [E_pf, t9115, g]
theorem s9116 (hF : 200 < F) (a : Sl Rw) (wa : Nat) (ga : Nat → List V) : (E F (d + 1)).pf 16 [sl eRw 1 a, .row true 0 wa ga] = some (.ret (.bool false)) := by
 obtain ⟨fu, hfu⟩ : ∃ q, F = q + 1 := ⟨F - 1, by omega⟩
 have g := L9116x0s (E F d) F a wa ga fu
 rw [← hfu] at g
 rw [E_pf, t9116, g]
 cases decide ((0 : Int) < (a.len : Int)) <;> rfl
theorem s9215 (a : Sl Rw) (h0 : a.len = 0) (hF : 200 < F) : (E F (d + 1)).pf 15 [.agg (eSite s), sl eInt 1 low, sl eInt 1 rest, .agg (eSpan wm), sl eRw 1 a] = some (.ret noneRow) := by
 obtain ⟨fu, hfu⟩ : ∃ q, F = q + 1 := ⟨F - 1, by omega⟩
 have g := L9015x0s (E F d) F s low rest wm a fu
 rw [← hfu] at g
 rw [E_pf, t9015, g, h0]
 rfl
theorem s9114 (hs : Small s F) (hsb : siteB s = true) (hF : 200 < F) : (E F (d + 10)).pf 14 [.agg (eSite s), noneRow] = some (.ret (.tup [.agg (eFault fineF), .agg (eFault fineF), .int .i64 0])) := by
 obtain ⟨fu, hfu⟩ : ∃ q, F = q + 1 := ⟨F - 1, by omega⟩
 have hS := (siteB_iff s).1 hsb
 have e77 : (E F (d + 8)).pf 77 [noneRow, .fn (.func 46) [] [pSite s]] = some (.ret (.int .i64 (-1))) := by
  have g := L9077x0s (E F (d + 7)) F s fu
  rw [← hfu] at g
  rw [E_pf, t9077, g]
 have e45 : (E F (d + 9)).pf 45 [noneRow, .fn (.func 46) [] [pSite s]] = some (.ret (.bool false)) := by
  rw [E_pf, t9045, e77]
  rfl
 have e28 := s48 F (d + 3) s hs
 have e38 := s57 F (d + 8) s hS.cavs1 hS.cavs5 (by omega)
 have g := L9114x0s (E F (d + 9)) F s fu (begin s).nl (begin s).len 6 (fun i => eStt ((begin s).el i))
 rw [← hfu] at g
 rw [E_pf, t9114]
 simp only [e28, hsb, e45, e38, pOut, qBool, qRow, Bool.not_true, pF, g]
end Go.Sim.Cr


set_option maxRecDepth 100000
namespace Go.Sim.Cr
open Go.Proofs
def ltL : List Int → List Int → Option Bool
 | x :: a, y :: b => if x = y then ltL a b else some (decide (x < y))
 | _, _ => none
def ltM : List Int → List Int → Bool
 | m :: a, n :: b => match ltL (lstOf m) (lstOf n) with
  | some x => x
  | none => ltM a b
 | _, _ => false
section
variable (F d : Nat) {a b : Sl Rw}
theorem l9016x1 (env : Env) (m0 t : Nat) (ha : t < a.len) (hb : t < b.len) {la lb : List Int} (hra : RIs (a.el t) la) (hrb : RIs (b.el t) lb) (h100 : la.length ≤ 100) (hb100 : lb.length ≤ 100) : ∀ n k fu, la.length = k + n → k ≤ lb.length → n < fu →
  L9016x1 env F a b m0 fu (t : Int) (k : Int) = (match ltL (la.drop k) (lb.drop k) with | some x => some (.ret (.bool x)) | none => L9016x0 env F a b m0 (IntKind.wrap .i64 ((t : Int) + 1))) := by
 intro n
 induction n with
 | zero =>
  intro k fu h hkb hf
  obtain ⟨fu, rfl⟩ : ∃ q, fu = q + 1 := ⟨fu - 1, by omega⟩
  rw [L9016x1s, List.drop_eq_nil_of_le (show la.length ≤ k by omega)]
  simp only [Int.natCast_nonneg, decide_true, pT, Int.ofNat_lt, ha, Int.toNat_natCast, show ¬ k < (a.el t).len by have := hra.1; omega, decide_false, pF, ltL]
 | succ n ih =>
  intro k fu h hkb hf
  obtain ⟨fu, rfl⟩ : ∃ q, fu = q + 1 := ⟨fu - 1, by omega⟩
  have hk : k < la.length := by omega
  have hne : la ≠ [] := fun he => by rw [he] at hk; simp at hk
  have w1 : ((a.el t).wd == 1) = true := by rw [hra.2.1 hne]; rfl
  rw [L9016x1s, drop_cons_getD hk]
  by_cases hkl : k < lb.length
  ·have hneb : lb ≠ [] := fun he => by rw [he] at hkl; simp at hkl
   have w2 : ((b.el t).wd == 1) = true := by rw [hrb.2.1 hneb]; rfl
   rw [drop_cons_getD hkl]
   simp only [Int.natCast_nonneg, decide_true, pT, Int.ofNat_lt, ha, hb, Int.toNat_natCast, show k < (a.el t).len by have := hra.1; omega, show k < (b.el t).len by have := hrb.1; omega, w1, w2, hra.2.2 k hk, hrb.2.2 k hkl, pCons, pInt, wrS (show k < 4611686018427387904 by omega), ltL]
   by_cases he : la.getD k 0 = lb.getD k 0
   ·rw [he, bne_self_eq_false, cond_false, if_pos rfl]
    exact ih (k + 1) fu (by omega) (by omega) (by omega)
   ·rw [show (la.getD k 0 != lb.getD k 0) = true by simpa using he, cond_true, if_neg he]
  ·rw [List.drop_eq_nil_of_le (show lb.length ≤ k by omega)]
   simp only [Int.natCast_nonneg, decide_true, pT, Int.ofNat_lt, ha, hb, Int.toNat_natCast, show k < (a.el t).len by have := hra.1; omega, show ¬ k < (b.el t).len by have := hrb.1; omega, decide_false, pF, ltL]
theorem s9016 {ma mb : List Int} (ha : RsIs a ma) (hb : RsIs b mb) (h16 : ∀ m ∈ ma, 0 ≤ m ∧ m < 16) (hb16 : ∀ m ∈ mb, 0 ≤ m ∧ m < 16) (h100 : ma.length ≤ 100) (hF : 200 < F) : (E F (d + 1)).pf 16 [sl eRw 1 a, sl eRw 1 b] = some (.ret (.bool (ltM ma mb))) := by
 have hla := ha.1
 have hlb := hb.1
 have loop : ∀ n t fu, ma.length = t + n → t ≤ mb.length → n < fu → L9016x0 (E F d) F a b fu (t : Int) = some (.ret (.bool (ltM (ma.drop t) (mb.drop t)))) := by
  intro n
  induction n with
  | zero =>
   intro t fu h htb hf
   obtain ⟨fu, rfl⟩ : ∃ q, fu = q + 1 := ⟨fu - 1, by omega⟩
   rw [L9016x0s, decide_eq_false (show ¬ (t : Int) < (a.len : Int) by omega), cond_false, List.drop_eq_nil_of_le (by omega)]
   rfl
  | succ n ih =>
   intro t fu h htb hf
   obtain ⟨fu, rfl⟩ : ∃ q, fu = q + 1 := ⟨fu - 1, by omega⟩
   have ht : t < ma.length := by omega
   rw [L9016x0s, decide_eq_true (show (t : Int) < (a.len : Int) by omega), cond_true, drop_cons_getD ht]
   by_cases htl : t < mb.length
   ·have hra := ha.2 t (by omega)
    have hrb := hb.2 t (by omega)
    have hmem : ma.getD t 0 ∈ ma := by rw [List.getD_eq_getElem?_getD, List.getElem?_eq_getElem ht]; exact List.getElem_mem ht
    have hmemb : mb.getD t 0 ∈ mb := by rw [List.getD_eq_getElem?_getD, List.getElem?_eq_getElem htl]; exact List.getElem_mem htl
    have hle := lst_le (h16 _ hmem).1 (h16 _ hmem).2
    have hleb := lst_le (hb16 _ hmemb).1 (hb16 _ hmemb).2
    have g := l9016x1 F (E F d) fu t (by omega) (by omega) hra hrb (by omega) (by omega) (lstOf (ma.getD t 0)).length 0 F (by omega) (by omega) (by omega)
    rw [wrS (show t < 4611686018427387904 by omega), List.drop_zero, List.drop_zero] at g
    rw [decide_eq_true (show (t : Int) < (b.len : Int) by omega), cond_true, drop_cons_getD htl]
    refine g.trans ?_
    have e : ltM (ma.getD t 0 :: ma.drop (t + 1)) (mb.getD t 0 :: mb.drop (t + 1)) = (match ltL (lstOf (ma.getD t 0)) (lstOf (mb.getD t 0)) with | some x => x | none => ltM (ma.drop (t + 1)) (mb.drop (t + 1))) := rfl
    rw [e]
    cases ltL (lstOf (ma.getD t 0)) (lstOf (mb.getD t 0)) with
    | some x => rfl
    | none => exact ih (t + 1) fu (by omega) (by omega) (by omega)
   ·rw [decide_eq_false (show ¬ (t : Int) < (b.len : Int) by omega), cond_false, List.drop_eq_nil_of_le (show mb.length ≤ t by omega)]
    rfl
 rw [E_pf, t9016]
 exact loop ma.length 0 F (by omega) (by omega) (by omega)
end
theorem sets_order_all : ∀ c : Fin 5, ∀ k : Fin 5, (setsOf c.1 k.1).Pairwise fun x y => ltL (lstOf y) (lstOf x) ≠ some true := by decide +kernel
theorem sets_same_all : ∀ c : Fin 5, ∀ k : Fin 5, ∀ x ∈ setsOf c.1 k.1, ltL (lstOf x) (lstOf x) = none ∧ ∀ y ∈ setsOf c.1 k.1, ltL (lstOf y) (lstOf x) = none → y = x := by decide +kernel
section
variable {s : Site} {low rest : Sl Int} {wm : Span} {nd : Sl Int}
theorem go_some (P : Pln s low rest wm nd) : ∀ (r t : Nat) (b : Option (Sl Span)) (now : Sl Stt) (mo : List Int), t + r = nd.len → mo.length = r → (∀ i, i < r → mo.getD i 0 ∈ setsN s nd (t + i)) → okL s low rest wm mo b now = true → goN s low rest wm nd r t b now ≠ none
 | 0, _, _, _, _, _, _, _, _ => by simp [goN, go]
 | r + 1, t, b, now, m :: mo, ht, hl, hi, hok => by
  have h0 : m ∈ setsN s nd t := hi 0 (by omega)
  unfold okL at hok
  rw [Bool.and_eq_true] at hok
  have ih := go_some P r (t + 1) (some (dayB s low rest wm m).press) (moved s now (dayB s low rest wm m)) mo (by omega) (by simpa using hl) (fun i hir => by
   have := hi (i + 1) (by omega)
   rw [show t + 1 + i = t + (i + 1) by omega]; exact this) hok.2
  unfold goN go
  rw [if_pos (by omega)]
  intro hn
  rw [List.findSome?_eq_none_iff] at hn
  have := hn m h0
  rw [hok.1, cond_true, Option.map_eq_none_iff] at this
  exact ih this
theorem go_first (P : Pln s low rest wm nd) : ∀ (r t : Nat) (b : Option (Sl Span)) (now : Sl Stt) (mo mp : List Int), t + r = nd.len → mo.length = r → (∀ i, i < r → mo.getD i 0 ∈ setsN s nd (t + i)) → okL s low rest wm mo b now = true → goN s low rest wm nd r t b now = some mp → ltM mo mp = false
 | 0, _, _, _, [], _, _, _, _, _, _ => rfl
 | r + 1, t, b, now, m :: mo, mp, ht, hl, hi, hok, hg => by
  have h0 : m ∈ setsN s nd t := hi 0 (by omega)
  unfold okL at hok
  rw [Bool.and_eq_true] at hok
  have hi' : ∀ i, i < r → mo.getD i 0 ∈ setsN s nd (t + 1 + i) := fun i hir => by
   have := hi (i + 1) (by omega)
   rw [show t + 1 + i = t + (i + 1) by omega]; exact this
  have hs1 := go_some P r (t + 1) (some (dayB s low rest wm m).press) (moved s now (dayB s low rest wm m)) mo (by omega) (by simpa using hl) hi' hok.2
  unfold goN go at hg
  rw [if_pos (by omega), List.findSome?_eq_some_iff] at hg
  obtain ⟨l1, x, l2, hsp, hx, hno⟩ := hg
  have hneed := P.need t (by omega)
  have hc4 := P.c4
  have hso := sets_order_all ⟨s.cavs.len, by omega⟩ ⟨(nd.el t).toNat, by omega⟩
  have hss := sets_same_all ⟨s.cavs.len, by omega⟩ ⟨(nd.el t).toNat, by omega⟩
  have hsp' : setsOf s.cavs.len (nd.el t).toNat = l1 ++ x :: l2 := hsp
  simp only [hsp'] at hso hss
  have hm : m ∈ l1 ++ x :: l2 := by rw [← hsp]; exact h0
  have hm1 : m ∉ l1 := fun h => by
   have := hno m h
   rw [hok.1, cond_true, Option.map_eq_none_iff] at this
   exact hs1 this
  cases ho : okDay s (dayB s low rest wm x) b now with
  | false => rw [ho, cond_false] at hx; cases hx
  | true =>
   rw [ho, cond_true] at hx
   obtain ⟨q, hq, rfl⟩ := Option.map_eq_some_iff.1 hx
   show (match ltL (lstOf m) (lstOf x) with | some x => x | none => ltM mo q) = false
   rcases List.mem_append.1 hm with h | h
   ·exact absurd h hm1
   rcases List.mem_cons.1 h with rfl | h
   ·rw [(hss m (by simp)).1]
    exact go_first P r (t + 1) _ _ mo q (by omega) (by simpa using hl) hi' hok.2 hq
   ·have hp := (List.pairwise_append.1 hso).2.1
    have := (List.pairwise_cons.1 hp).1 m h
    cases hlt : ltL (lstOf m) (lstOf x) with
    | none =>
     have he := (hss x (by simp)).2 m (by simp [h]) hlt
     subst he
     exact go_first P r (t + 1) _ _ mo q (by omega) (by simpa using hl) hi' hok.2 hq
    | some y =>
     cases y with
     | true => exact absurd hlt this
     | false => rfl
end
end Go.Sim.Cr


set_option maxRecDepth 100000
namespace Go.Sim.Cr
open Go.Proofs
abbrev rwO (x : Sl Int) : Rw := ⟨x.nl, x.len, 1, fun j => eInt (x.el j)⟩
abbrev rwsO (o : Sl (Sl Int)) : Sl Rw := ⟨o.nl, o.len, fun i => rwO (o.el i)⟩
theorem rwO_ok (x : Sl Int) : RwOk (rwO x) := fun _ _ => ⟨rfl, rfl⟩
theorem inc_all : ∀ c : Fin 4, ∀ k : Fin 5, ∀ x0 x1 x2 x3 : Fin 4, (∀ j : Fin 4, j.1 < k.1 → ([x0.1, x1.1, x2.1, x3.1].getD j.1 0) < c.1 + 1 ∧ (0 < j.1 → ([x0.1, x1.1, x2.1, x3.1].getD (j.1 - 1) 0) < ([x0.1, x1.1, x2.1, x3.1].getD j.1 0))) →
  ((setsOf (c.1 + 1) k.1).any fun m => lstOf m == ([((x0.1 : Nat) : Int), (x1.1 : Nat), (x2.1 : Nat), (x3.1 : Nat)].take k.1)) = true := by decide +kernel
theorem fit_all : ∀ c : Fin 5, ∀ k : Fin 5, ∀ m ∈ setsOf c.1 k.1, (lstOf m).length = k.1 ∧ ∀ j : Fin 4, j.1 < k.1 → 0 ≤ (lstOf m).getD j.1 0 ∧ (lstOf m).getD j.1 0 < (c.1 : Int) ∧ (0 < j.1 → (lstOf m).getD (j.1 - 1) 0 < (lstOf m).getD j.1 0) := by decide +kernel
theorem mask_fit {c k : Nat} {m : Int} {r : Rw} (hc : c ≤ 4) (hk : k ≤ 4) (hm : m ∈ setsOf c k) (hr : RIs r (lstOf m)) : FitR c (k : Int) r := by
 obtain ⟨h1, h2⟩ := fit_all ⟨c, by omega⟩ ⟨k, by omega⟩ m hm
 simp only at h1 h2
 refine ⟨fun j hj => ?_, by rw [hr.1, h1]⟩
 have hjl : j < (lstOf m).length := by have := hr.1; omega
 obtain ⟨g1, g2, g3⟩ := h2 ⟨j, by omega⟩ (by show j < k; omega)
 simp only at g1 g2 g3
 have e := ris_rv hr hjl
 refine ⟨by omega, by omega, fun h0 => ?_⟩
 have e2 := ris_rv hr (show j - 1 < (lstOf m).length by omega)
 have := g3 h0
 omega
theorem fit_mask {c k : Nat} {r : Rw} (hc1 : 1 ≤ c) (hc : c ≤ 4) (hk : k ≤ 4) (hok : RwOk r) (hf : FitR c (k : Int) r) : ∃ m ∈ setsOf c k, RIs r (lstOf m) := by
 obtain ⟨h1, h2⟩ := hf
 have hl : r.len = k := by omega
 have bnd : ∀ j, j < k → (rv r j).toNat < 4 ∧ 0 ≤ rv r j := fun j hj => by
  have := h1 j (by omega)
  omega
 let v : Nat → Fin 4 := fun j => if h : j < k then ⟨(rv r j).toNat, (bnd j h).1⟩ else 0
 have hv : ∀ j, j < k → (((v j).1 : Nat) : Int) = rv r j := fun j hj => by
  show (((if h : j < k then (⟨(rv r j).toNat, (bnd j h).1⟩ : Fin 4) else 0).1 : Nat) : Int) = _
  rw [dif_pos hj]
  have := (bnd j hj).2
  show (((rv r j).toNat : Nat) : Int) = _
  omega
 have getv : ∀ j, j < 4 → ([(v 0).1, (v 1).1, (v 2).1, (v 3).1].getD j 0) = (v j).1 := fun j hj => by
  match j, hj with
  | 0, _ => rfl
  | 1, _ => rfl
  | 2, _ => rfl
  | 3, _ => rfl
 have hany := inc_all ⟨c - 1, by omega⟩ ⟨k, by omega⟩ (v 0) (v 1) (v 2) (v 3) (fun j hj => by
  have hj' : j.1 < k := hj
  have := h1 j.1 (by omega)
  rw [getv _ j.2]
  have e := hv j.1 hj'
  refine ⟨by show (v j.1).1 < c - 1 + 1; omega, fun h0 => ?_⟩
  rw [getv _ (by omega)]
  have e2 := hv (j.1 - 1) (by omega)
  have := this.2.2 h0
  omega)
 rw [List.any_eq_true] at hany
 obtain ⟨m, hm, he⟩ := hany
 have hm : m ∈ setsOf (c - 1 + 1) k := hm
 rw [show c - 1 + 1 = c by omega] at hm
 have he : lstOf m = [(((v 0).1 : Nat) : Int), ((v 1).1 : Nat), ((v 2).1 : Nat), ((v 3).1 : Nat)].take k := eq_of_beq he
 have hlen : (lstOf m).length = k := by rw [he, List.length_take]; show min k 4 = k; omega
 refine ⟨m, hm, by omega, fun hne => ?_, fun i hi => ?_⟩
 ·have : 0 < k := by
   rcases Nat.eq_zero_or_pos k with h | h
   ·rw [h] at hlen; exact absurd (List.length_eq_zero_iff.1 hlen) hne
   ·exact h
  exact (hok 0 (by omega)).1
 ·have hi' : i < k := by omega
  rw [(hok i (by omega)).2, ← hv i hi', he, List.getD_eq_getElem?_getD, List.getElem?_take_of_lt hi']
  match i, show i < 4 by omega with
  | 0, _ => rfl
  | 1, _ => rfl
  | 2, _ => rfl
  | 3, _ => rfl
section
variable {s : Site} {low rest : Sl Int} {wm : Span} {nd : Sl Int}
theorem go_ok (P : Pln s low rest wm nd) : ∀ (r t : Nat) (b : Option (Sl Span)) (now : Sl Stt) (ms : List Int), t + r = nd.len → goN s low rest wm nd r t b now = some ms → ms.length = r ∧ okL s low rest wm ms b now = true ∧ ∀ i, i < r → ms.getD i 0 ∈ setsN s nd (t + i)
 | 0, _, _, _, ms, _, h => by cases h; exact ⟨rfl, rfl, fun i hi => absurd hi (by omega)⟩
 | r + 1, t, b, now, ms, ht, h => by
  unfold goN go at h
  rw [if_pos (by omega)] at h
  obtain ⟨x, hx, hf⟩ := List.exists_of_findSome?_eq_some h
  cases ho : okDay s (dayB s low rest wm x) b now with
  | false => rw [ho, cond_false] at hf; cases hf
  | true =>
   rw [ho, cond_true] at hf
   obtain ⟨q, hq, rfl⟩ := Option.map_eq_some_iff.1 hf
   obtain ⟨g1, g2, g3⟩ := go_ok P r (t + 1) (some (dayB s low rest wm x).press) (moved s now (dayB s low rest wm x)) q (by omega) hq
   refine ⟨by simp [g1], ?_, fun i hi => ?_⟩
   ·unfold okL; rw [ho, g2]; rfl
   ·cases i with
    | zero => exact hx
    | succ i =>
     have := g3 i (by omega)
     rw [show t + 1 + i = t + (i + 1) by omega] at this
     exact this
theorem masks_of (P : Pln s low rest wm nd) (a : Sl Rw) (hok : ∀ t, t < a.len → RwOk (a.el t)) (hf : FitsP s nd a) : ∃ mo : List Int, RsIs a mo ∧ mo.length = nd.len ∧ ∀ i, i < nd.len → mo.getD i 0 ∈ setsN s nd i := by
 have hl := hf.1
 have h1 := P.site.cavs1
 have h4 := P.c4
 have ex : ∀ t, ∃ m : Int, t < a.len → m ∈ setsN s nd t ∧ RIs (a.el t) (lstOf m) := fun t => by
  by_cases ht : t < a.len
  ·have hn := P.need t (by omega)
   have hfr := hf.2 t ht
   have e : nd.el t = (((nd.el t).toNat : Nat) : Int) := by omega
   rw [e] at hfr
   obtain ⟨m, hm, hr⟩ := fit_mask h1 h4 (by omega) (hok t ht) hfr
   exact ⟨m, fun _ => ⟨hm, hr⟩⟩
  ·exact ⟨0, fun h => absurd h ht⟩
 let f : Nat → Int := fun t => Classical.choose (ex t)
 have hfs : ∀ t, t < a.len → f t ∈ setsN s nd t ∧ RIs (a.el t) (lstOf (f t)) := fun t => Classical.choose_spec (ex t)
 have hg : ∀ i, i < a.len → ((List.range a.len).map f).getD i 0 = f i := fun i hi => by
  rw [List.getD_eq_getElem?_getD, List.getElem?_map, List.getElem?_range hi]; rfl
 refine ⟨(List.range a.len).map f, ⟨by simp, fun i hi => ?_⟩, by simp [hl], fun i hi => ?_⟩
 ·rw [hg i hi]; exact (hfs i hi).2
 ·rw [hg i (by omega)]; exact (hfs i (by omega)).1
variable (F d : Nat)
def Judge (F d : Nat) (s : Site) (low rest : Sl Int) (wm : Span) (v : V) (ok : Bool) : Prop := ∃ nl n wd g f1 f2 f3 f4 g1 g2 g3 g4, (E F d).pf 15 [.agg (eSite s), sl eInt 1 low, sl eInt 1 rest, .agg (eSpan wm), v] = some (.ret (.row nl n wd g)) ∧
 (E F d).pf 14 [.agg (eSite s), .row nl n wd g] = some (.ret (.tup [.agg [.int .i64 f1, .int .i64 f2, .int .i64 f3, .int .i64 f4], .agg [.int .i64 g1, .int .i64 g2, .int .i64 g3, .int .i64 g4], .int .i64 0])) ∧ (f2 == 1) = ok
theorem judge0 (hs : Small s F) (hsb : siteB s = true) (hF : 200 < F) (wd : Nat) (g : Nat → List V) : Judge F (d + 10) s low rest wm (.row true 0 wd g) true :=
 ⟨true, 0, 0, fun _ => [], 0, 1, 0, 0, 0, 1, 0, 0, s9115 F (d + 9) hF wd g, s9114 F d hs hsb hF, rfl⟩
theorem judge00 (hs : Small s F) (hsb : siteB s = true) (hF : 200 < F) (a : Sl Rw) (h0 : a.len = 0) : Judge F (d + 10) s low rest wm (sl eRw 1 a) true :=
 ⟨true, 0, 0, fun _ => [], 0, 1, 0, 0, 0, 1, 0, 0, s9215 F (d + 9) a h0 hF, s9114 F d hs hsb hF, rfl⟩
theorem judge1 (hs : Small s F) (P : Pln s low rest wm nd) (hF : 2147483648 < F) (a : Sl Rw) (h0 : 0 < a.len) (h60 : a.len ≤ 60) {ms : List Int} (ha : RsIs a ms) (h16 : ∀ m ∈ ms, 0 ≤ m ∧ m < 16) : Judge F (d + 10) s low rest wm (sl eRw 1 a) (okL s low rest wm ms none (begin s)) := by
 have hS := P.site
 have e15 := s9015 F (d + 8) s low rest wm a P.low_.1 P.rest_.1 hS.cavs1 hS.cavs5 h0 (by omega) (rs_rows ha h16 (by omega)) (by omega)
 have hD : DaysOk s (outL a.len (fun i => dayR s low rest wm (a.el i))) := fun i hi => by
  rw [outL_el (show i < a.len from hi)]
  exact dayQ_ok P.low_ P.rest_ P.wm_ _
 have hsb := (siteB_iff s).2 hS
 have hsh : ShortD (outL a.len (fun i => dayR s low rest wm (a.el i))) := fun i hi => by
  rw [outL_el (show i < a.len from hi)]
  have h5 := hS.cavs5
  exact ⟨show s.cavs.len ≤ 10 by omega, show s.cavs.len ≤ 10 by omega⟩
 have e14 := s30 F d s (outL a.len (fun i => dayR s low rest wm (a.el i))) hs hsh (by show a.len < 4611686018427387904; omega) (by show a.len < F; omega) (by omega)
 rw [decide_eq_false (show ¬ 60 < (outL a.len (fun i => dayR s low rest wm (a.el i))).len from by show ¬ 60 < a.len; omega), cond_false, hsb, decide_eq_true hD, Bool.and_self, cond_true, faults_eq hS hD] at e14
 have hh := holds_masks (s := s) (low := low) (rest := rest) (wm := wm) hS.cavs1 P.c4 ha h16
 exact ⟨_, _, _, _, _, _, _, _, _, _, _, _, e15, e14, hh⟩
theorem len_rows (nd : Sl Int) (n : Nat) (h : n = nd.len) : ((n : Int) != (nd.len : Int)) = false := by rw [h, bne_self_eq_false]
theorem z00 : ((0 : Int) != 0) = false := by decide
theorem z55' : ((5 : Int) == 5) = true := by decide
theorem z50 : ((5 : Int) != 0) = true := by decide
theorem l4xend (fu d : Nat) (hF : 2147483648 < F) (o : Sl (Sl Int)) (hs : Small s (F + 3000)) (P : Pln s low rest wm nd) (hn5 : nd.len ≤ 5) (ho5 : o.len ≤ 5) (hol : ∀ i, i < o.len → (o.el i).len ≤ 10) :
  L9004x0 (E (F + 3000) (d + 99)) (F + 3000) s low rest wm nd (rwsO o) (fu + 1) ((o.len : Nat) : Int) = some (.ret (.bool true)) := by
 have hsb := (siteB_iff s).2 P.site
 have h1 := P.site.cavs1
 have h4 := P.c4
 have k : (E (F + 3000) (d + 99)).pf 7 [] = some (.ret (.bool true)) := s13 (F + 3000) (d + 88) (by omega)
 have e13 := s9013 (F + 3000) (d + 96) (nd := nd) h1 h4 (rwsO o) (fun t ht => ⟨rwO_ok _, by have := hol t ht; show (o.el t).len ≤ 100; omega⟩) (by show o.len ≤ 100; omega) (by omega)
 have e13 : (E (F + 3000) (d + 99)).pf 13 [.agg (eSite s), sl eInt 1 nd, sl eRw 1 (rwsO o)] = some (.ret (.bool (decide (FitsP s nd (rwsO o))))) := e13
 rw [L9004x0s, decide_eq_false (show ¬ ((o.len : Int) < ((rwsO o).len : Int)) from by show ¬ ((o.len : Int) < (o.len : Int)); omega), cond_false, e13, pOut, qBool]
 by_cases hf : FitsP s nd (rwsO o)
 rotate_left
 ·rw [decide_eq_false hf, Bool.not_false, cond_true, k, pOut, qBool]
 rw [decide_eq_true hf, Bool.not_true, cond_false]
 obtain ⟨mo, hmo, hml, hmi⟩ := masks_of P (rwsO o) (fun t _ => rwO_ok _) hf
 have hol' : o.len = nd.len := hf.1
 have ho16 : ∀ m ∈ mo, 0 ≤ m ∧ m < 16 := ins_16 P (fun i hi => hmi i (by omega)) (by omega)
 have hpl := plan_ok (ask_of P (F := F) (by omega) (d + 47 - nd.len)) hs (by omega) P.need
 rw [show d + 47 - nd.len + 52 + nd.len = d + 99 by omega] at hpl
 have hjo : Judge (F + 3000) (d + 99) s low rest wm (sl eRw 1 (rwsO o)) (okL s low rest wm mo none (begin s)) := by
  by_cases h0 : o.len = 0
  ·have hm0 : mo = [] := List.length_eq_zero_iff.1 (by omega)
   rw [hm0]
   exact judge00 (F + 3000) (d + 89) hs hsb (by omega) (rwsO o) h0
  ·exact judge1 (F + 3000) (d + 89) hs P (by omega) (rwsO o) (by show 0 < o.len; omega) (by show o.len ≤ 60; omega) hmo ho16
 obtain ⟨nl, n, wd, g, f1, f2, f3, f4, g1, g2, g3, g4, j15, j14, jok⟩ := hjo
 have hfirst : ∀ mp, goN s low rest wm nd nd.len 0 none (begin s) = some mp → okL s low rest wm mo none (begin s) = true → ltM mo mp = false := fun mp hg ho => go_first P nd.len 0 none (begin s) mo mp (by omega) hml (fun i hi => by rw [Nat.zero_add]; exact hmi i hi) ho hg
 have hsome : okL s low rest wm mo none (begin s) = true → goN s low rest wm nd nd.len 0 none (begin s) ≠ none := fun ho => go_some P nd.len 0 none (begin s) mo (by omega) hml (fun i hi => by rw [Nat.zero_add]; exact hmi i hi) ho
 rcases hpl with ⟨q1, q2⟩ | ⟨q1, q2, wd', g', q3⟩ | ⟨ms, T, q1, q2, q3, q4, q5⟩
 ·have q1 : goN s low rest wm nd nd.len 0 none (begin s) = none := q1
  have hno : (f2 != 1) = true := by
   show (!(f2 == 1)) = true
   rw [jok]
   cases ho : okL s low rest wm mo none (begin s) with
   | false => rfl
   | true => exact absurd q1 (hsome ho)
  simp only [q2, j15, j14, k, pOut, pTup, pCons, pNil, pAgg, pInt, qRow, qBool, decide_true, pT, pF, z00, z50, z55', hno]
 ·have q1 : goN s low rest wm nd nd.len 0 none (begin s) = some [] := q1
  obtain ⟨nl', n', wd2, g2', a1, a2, a3, a4, b1, b2, b3, b4, p15, p14, pok⟩ := judge0 (low := low) (rest := rest) (wm := wm) (F + 3000) (d + 89) hs hsb (by omega) wd' g'
  have p13 : (E (F + 3000) (d + 99)).pf 13 [.agg (eSite s), sl eInt 1 nd, .row true 0 wd' g'] = _ := s9113 (F + 3000) (d + 98) q2 (by omega) wd' g'
  have p16 : (E (F + 3000) (d + 99)).pf 16 [sl eRw 1 (rwsO o), .row true 0 wd' g'] = _ := s9116 (F + 3000) (d + 98) (by omega) (rwsO o) wd' g'
  have hl0 := len_rows nd 0 q2.symm
  simp only [q3, j15, j14, k, p13, p15, p14, p16, hl0, pok, zz0, pOut, pTup, pCons, pNil, pAgg, pInt, qRow, qBool, decide_true, pT, pF, z00, Bool.not_true, Bool.not_false]
  cases f2 != 1 <;> simp only [pT, pF]
 ·have q1 : goN s low rest wm nd nd.len 0 none (begin s) = some ms := q1
  obtain ⟨w1, w2, w3⟩ := go_ok P nd.len 0 none (begin s) ms (by omega) q1
  have hms16 : ∀ m ∈ ms, 0 ≤ m ∧ m < 16 := ms_in P nd.len 0 none (begin s) ms (by omega) q1
  have hT : RsIs ⟨false, nd.len, T⟩ ms := ⟨q2.symm, fun i hi => q5 i (by rw [q2]; exact hi)⟩
  have hjp := judge1 (F + 3000) (d + 89) hs P (by omega) ⟨false, nd.len, T⟩ (by show 0 < nd.len; omega) (by show nd.len ≤ 60; omega) hT hms16
  rw [w2] at hjp
  obtain ⟨nl', n', wd2, g2', a1, a2, a3, a4, b1, b2, b3, b4, p15, p14, pok⟩ := hjp
  have hfp : FitsP s nd ⟨false, nd.len, T⟩ := ⟨rfl, fun t ht => by
   have ht : t < nd.len := ht
   have hn := P.need t ht
   have hm := w3 t ht
   rw [Nat.zero_add] at hm
   have := mask_fit (r := T t) h4 (by omega) hm (q5 t (by omega))
   rw [show (((nd.el t).toNat : Nat) : Int) = nd.el t by omega] at this
   exact this⟩
  have p13 := s9013 (F + 3000) (d + 96) (nd := nd) h1 h4 ⟨false, nd.len, T⟩ (fun t ht => ⟨ris_ok (q5 t (by have : t < nd.len := ht; omega)), by
   have ht : t < nd.len := ht
   have hm : ms.getD t 0 ∈ ms := by rw [List.getD_eq_getElem?_getD, List.getElem?_eq_getElem (by omega)]; exact List.getElem_mem (by omega)
   have := (q5 t (by omega)).1
   have := lst_le (hms16 _ hm).1 (hms16 _ hm).2
   show (T t).len ≤ 100
   omega⟩) (by show nd.len ≤ 100; omega) (by omega)
  rw [decide_eq_true hfp] at p13
  have p13 : (E (F + 3000) (d + 99)).pf 13 [.agg (eSite s), sl eInt 1 nd, .row false nd.len 1 (fun i => eRw (T i))] = some (.ret (.bool true)) := p13
  have p15 : (E (F + 3000) (d + 99)).pf 15 [.agg (eSite s), sl eInt 1 low, sl eInt 1 rest, .agg (eSpan wm), .row false nd.len 1 (fun i => eRw (T i))] = _ := p15
  have p16 : (E (F + 3000) (d + 99)).pf 16 [sl eRw 1 (rwsO o), .row false nd.len 1 (fun i => eRw (T i))] = some (.ret (.bool (ltM mo ms))) := s9016 (F + 3000) (d + 98) (b := ⟨false, nd.len, T⟩) hmo hT ho16 hms16 (by omega) (by omega)
  have hl0 := len_rows nd nd.len rfl
  simp only [q4, j15, j14, k, p13, p15, p14, p16, hl0, pok, zz0, pOut, pTup, pCons, pNil, pAgg, pInt, qRow, qBool, decide_true, pT, pF, z00, Bool.not_true]
  cases hb : f2 != 1 with
  | true => simp only [pT]
  | false =>
   have ho : okL s low rest wm mo none (begin s) = true := by
    rw [← jok]
    have : (!(f2 == 1)) = false := hb
    simpa using this
   simp only [pF, hfirst ms q1 ho, Bool.not_false, pT]
theorem law4 (d : Nat) (hF : 2147483648 < F) (hF2 : 140737488355328 < F) (s : Site) (low rest : Sl Int) (wm : Span) (nd : Sl Int) (o : Sl (Sl Int)) (hnb : nd.len ≤ 140737488355328) (hlb : low.len ≤ 140737488355328) : (E (F + 3000) (d + 100)).pf 4 [.agg (eSite s), sl eInt 1 low, sl eInt 1 rest, .agg (eSpan wm), sl eInt 1 nd, sl eRw 1 (rwsO o)] = some (.ret (.bool true)) := by
 have k : (E (F + 3000) (d + 99)).pf 7 [] = some (.ret (.bool true)) := s13 (F + 3000) (d + 88) (by omega)
 have e5 : (E (F + 3000) (d + 99)).pf 5 [.agg (eSite s)] = _ := s11 (F + 3000) (d + 98) s
 rw [E_pf, t9004]
 simp only [e5, k, pOut, qBool]
 by_cases h0 : ShortS s
 rotate_left
 ·rw [decide_eq_false h0, Bool.not_false, cond_true]
 rw [decide_eq_true h0, Bool.not_true, cond_false]
 have hs := small_of (F + 3000) h0 (by omega)
 have e9 : (E (F + 3000) (d + 99)).pf 9 [.agg (eSite s)] = some (.ret (.bool (siteB s))) := s16 (F + 3000) (d + 96) s hs
 rw [e9, pOut, qBool]
 cases hsb : siteB s with
 | false => rw [Bool.not_false, cond_true]
 | true =>
 rw [Bool.not_true, cond_false]
 by_cases h1 : (s.cavs.len : Int) > 4
 ·rw [decide_eq_true h1, cond_true]
 rw [decide_eq_false h1, cond_false]
 by_cases h2 : (nd.len : Int) > 5
 ·rw [decide_eq_true h2, cond_true]
 rw [decide_eq_false h2, cond_false]
 by_cases h3 : (((rwsO o).len : Nat) : Int) > 5
 ·rw [decide_eq_true h3, cond_true]
 rw [decide_eq_false h3, cond_false]
 have h3 : ¬ ((o.len : Int) > 5) := h3
 have e10 : (E (F + 3000) (d + 99)).pf 10 [.agg (eSite s), sl eInt 1 low, sl eInt 1 rest, .agg (eSpan wm), sl eInt 1 nd] = some (.ret (.bool (decide (PlOk s low rest wm nd)))) := s9010 (F + 3000) (d + 97) s low rest wm nd (by omega) (by omega) (by omega) (by omega)
 rw [e10, pOut, qBool]
 by_cases hP : PlOk s low rest wm nd
 rotate_left
 ·rw [decide_eq_false hP, Bool.not_false, cond_true]
 rw [decide_eq_true hP, Bool.not_true, cond_false]
 have P : Pln s low rest wm nd := ⟨(siteB_iff s).1 hsb, by omega, hP.1, hP.2.1, hP.2.2.1, hP.2.2.2, by omega⟩
 have loop : ∀ n t fu, o.len = t + n → n < fu → (∀ j, j < t → (o.el j).len ≤ 10) → L9004x0 (E (F + 3000) (d + 99)) (F + 3000) s low rest wm nd (rwsO o) fu (t : Int) = some (.ret (.bool true)) := by
  intro n
  induction n with
  | zero =>
   intro t fu h hf hd
   obtain ⟨fu, rfl⟩ : ∃ q, fu = q + 1 := ⟨fu - 1, by omega⟩
   obtain rfl : t = o.len := by omega
   exact l4xend F fu d hF o hs P (by omega) (by omega) hd
  | succ n ih =>
   intro t fu h hf hd
   obtain ⟨fu, rfl⟩ : ∃ q, fu = q + 1 := ⟨fu - 1, by omega⟩
   have ht : t < (rwsO o).len := by show t < o.len; omega
   rw [L9004x0s]
   simp only [Int.ofNat_lt, ht, decide_true, pT, Int.natCast_nonneg, Int.toNat_natCast]
   by_cases h10 : (((o.el t).len : Nat) : Int) > 10
   ·rw [decide_eq_true h10, cond_true, k, pOut, qBool]
   ·rw [decide_eq_false h10, cond_false, wrS (show t < 4611686018427387904 by omega)]
    exact ih (t + 1) fu (by omega) (by omega) fun j hj => by
     by_cases hj' : j < t
     ·exact hd j hj'
     ·obtain rfl : j = t := by omega
      omega
 exact loop o.len 0 (F + 3000) (by omega) (by omega) (fun j hj => absurd hj (by omega))
end
end Go.Sim.Cr
