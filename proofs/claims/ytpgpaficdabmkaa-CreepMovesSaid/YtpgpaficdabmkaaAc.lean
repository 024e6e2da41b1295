import Derived.Test.YtpgpaficdabmkaaAb
import Derived.Test.YtpgpaficdabmkaaProg
import Derived.KernelRfl
import Derived.Test.YtpgpaficdabmkaaRows
import Derived.IntWalk
set_option linter.unusedVariables false
set_option linter.unusedSimpArgs false
set_option linter.unusedSectionVars false
/-
  This program: what the evaluator wants to know of it; which '==' of structs go cell by cell.
-/
namespace Go.Sim.Cr
open Go.RowKit Go.Proofs

/-- For each function and each of its loops (by its first region): the temporaries that are wanted at its head. -/
def keepTab : List (Nat × List (Nat × List Nat)) := [
  (4, [(8, [1, 2, 3, 4, 5, 11, 13, 14]), (14, [1, 2, 3, 4, 5, 11, 13, 16, 17]), (25, [1, 2, 3, 4, 5, 13, 16, 17, 18, 20, 21, 22])]),
  (5, [(10, [1, 2, 5, 6, 7, 8, 9])]),
  (6, [(4, [1, 2, 3, 7]), (13, [1, 2, 3, 8, 9, 11, 12]), (19, [1, 2, 3, 8, 9, 11, 14, 15]), (23, [1, 2, 3, 8, 9, 11, 14, 15, 16, 17])]),
  (7, [(9, [1, 3, 4, 5, 6, 7, 9, 15, 17, 18, 19]), (17, [1, 5, 6, 7, 15, 20, 22])]),
  (10, [(19, [3, 7, 11, 18, 19, 20])]),
  (12, [(2, [0, 1, 5])]),
  (16, [(4, [1, 3]), (10, [1, 3, 4, 5]), (15, [1, 6]), (23, [1, 8]), (29, [1, 10]), (35, [1, 12])]),
  (17, [(2, [1, 2, 5])]),
  (19, [(3, [1, 2, 3, 4, 8, 9, 10])]),
  (20, [(4, [2, 3, 5])]),
  (21, [(3, [1, 3, 5, 8, 9])]),
  (22, [(4, [0, 1, 5])]),
  (23, [(2, [0, 3])]),
  (29, [(3, [4, 8, 10, 11, 12])]),
  (30, [(11, [4, 5, 7, 8, 9, 10, 11, 12, 41, 42, 43])]),
  (31, [(3, [1, 2, 3, 6, 7, 8])]),
  (33, [(2, [1, 2, 3, 4, 9]), (8, [1, 2, 3, 4, 9, 11]), (13, [1, 4, 12]), (17, [1, 4, 12, 13, 14, 15])]),
  (38, [(3, [1, 3, 4])]),
  (44, [(7, [1, 3, 4, 6, 10, 11])]),
  (45, [(6, [1, 4, 6, 7, 9, 10, 11]), (12, [1, 4, 6, 7, 9, 10, 11, 12])]),
  (48, [(4, [1, 28, 29, 30])]),
  (51, [(3, [0, 5, 6, 7, 11, 12, 13])]),
  (53, [(3, [0, 2, 3, 8, 9, 13, 14, 15])]),
  (57, [(3, [3, 10, 11, 12])]),
  (59, [(2, [2, 3, 4, 5]), (5, [2, 3, 4, 5, 6])]),
  (65, [(3, [1, 2, 6, 26, 27])]),
  (68, [(3, [2, 3, 4, 6, 8, 9]), (8, [2, 3, 4, 6, 8, 10]), (14, [2, 3, 4, 6, 8, 13])]),
  (69, [(2, [2, 3, 4, 6, 8]), (7, [2, 3, 4, 6, 9]), (10, [2, 3, 4, 6, 9, 10]), (15, [2, 3, 4, 6, 11])]),
  (75, [(6, [0, 1, 4, 7, 8, 10, 11, 12]), (10, [0, 1, 4, 7, 8, 10, 11, 12, 61, 62, 63])]),
  (76, [(1, [0, 1, 2])]),
  (78, [(2, [1, 10, 11, 12]), (10, [1, 84, 85, 86]), (16, [1, 132, 133, 134])]),
  (92, [(3, [8, 9, 10, 25, 26, 27])]),
  (93, [(2, [1, 2, 4, 5])]),
  (94, [(2, [1, 2, 4, 5])]),
  (95, [(2, [0, 1, 7, 8])]),
  (96, [(3, [0, 3, 16, 17, 18])]),
  (97, [(3, [0, 3, 14, 15, 16])]),
  (98, [(3, [0, 3, 11, 12, 13])]),
  (99, [(3, [0, 3, 10, 11, 12])]),
  (101, [(5, [0, 3, 19, 20, 21])]),
  (102, [(2, [0, 1, 7, 8])]),
  (104, [(2, [0, 3, 4])]),
  (108, [(2, [0, 1, 7, 8])]),
  (109, [(2, [0, 1, 7, 8])]),
  (110, [(2, [0, 1, 7, 8])]),
  (111, [(2, [0, 1, 7, 8])]),
  (114, [(1, [0, 1, 14, 15]), (4, [0, 1, 4, 5, 14, 15])])]
def look {α : Type} (n : Nat) : List (Nat × α) → (d : α) → α
  | [], d => d
  | (m, a) :: r, d => bif n == m then a else look n r d
def eqT (t n : Nat) : Bool := (t == 41 && n == 2) || (t == 65 && n == 6) || (t == 71 && n == 4)
/-- F: how many rounds a loop has at most. -/
def cfg (F f : Nat) : Cfg := { eqT := eqT, keep := fun r => look r (look f keepTab []) [], fuel := F, marks := f == 100 }
noncomputable def E (F d : Nat) : Env := envN Try.prog (cfg F) d
theorem E_succ (F d f : Nat) (a : List V) : E F (d + 1) f a = evFun Try.prog (cfg F) (E F d) f a := rfl

theorem names : OkNames Try.prog := okNames_of (by kernel_rfl)

section
variable (w : World)
theorem part3 (cs : Array Value) (off : Nat) (v : Value) (h : cs[off]? = some v) : (part 3 cs off).run Try.prog w = .ok v w := by
  unfold part; simp [Try.isAgg3, h]
theorem part69 (cs : Array Value) (off : Nat) (v : Value) (h : cs[off]? = some v) : (part 69 cs off).run Try.prog w = .ok v w := by
  unfold part; simp [Try.isAgg69, h]
theorem extract2 {cs : Array Value} {off : Nat} {u v : Value} (h0 : cs[off]? = some u) (h1 : cs[off + 1]? = some v) : cs.extract off (off + 2) = #[u, v] := by
  refine Array.ext_getElem? fun i => ?_
  have hl : off + 1 < cs.size := (Array.getElem?_eq_some_iff.1 h1).1
  rw [Array.getElem?_extract]
  match i with
  | 0 => rw [if_pos (by omega)]; simpa using h0
  | 1 => rw [if_pos (by omega)]; simpa using h1
  | n + 2 => rw [if_neg (by omega)]; simp
theorem part41 (cs : Array Value) (off : Nat) (u v : Value) (h0 : cs[off]? = some u) (h1 : cs[off + 1]? = some v) : (part 41 cs off).run Try.prog w = .ok (.agg #[u, v]) w := by
  unfold part; simp [Try.isAgg41, Try.sizeOf41, extract2 h0 h1]
theorem int3 (d : Nat) (k : IntKind) (a b : Int) : (Op.equalIn (d + 1) 3 (.int k a) (.int k b)).run Try.prog w = .ok (a == b) w := run_equalIn_int w d 3 k .i64 a b Try.underlying3
theorem int69 (d : Nat) (k : IntKind) (a b : Int) : (Op.equalIn (d + 1) 69 (.int k a) (.int k b)).run Try.prog w = .ok (a == b) w := run_equalIn_int w d 69 k .i64 a b Try.underlying69
theorem fieldsOf_ {t : TypeId} {fs : Array Field} (h : Try.prog.underlying t = some (.struct fs)) : Try.prog.fieldsOf t = fs := by simp [Program.fieldsOf, h]
theorem eqS {d : Nat} {t : TypeId} {fs : Array Field} (xs ys : Array Value) (h : Try.prog.underlying t = some (.struct fs)) (hp : Try.prog.stoodInHeld t = false) : (Op.equalIn (d + 1) t (.agg xs) (.agg ys)).run Try.prog w = (Op.eqFields d xs ys fs.toList).run Try.prog w := by
  rw [run_equalIn_struct w d t xs ys (by rw [fieldsOf_ h]; exact h) hp, fieldsOf_ h]
theorem eqF {d : Nat} {xs ys : Array Value} {f : Field} {fs : List Field} {a b : Value} {r : Bool} (hn : f.name ≠ "_") (ha : (part f.type xs f.offset).run Try.prog w = .ok a w) (hb : (part f.type ys f.offset).run Try.prog w = .ok b w)
    (he : (Op.equalIn d f.type a b).run Try.prog w = .ok r w) {q : Bool} (hr : (Op.eqFields d xs ys fs).run Try.prog w = .ok q w) : (Op.eqFields d xs ys (f :: fs)).run Try.prog w = .ok (r && q) w := by
  simp only [Op.eqFields, if_pos hn, Sem.run_bind, ha, hb, he, Result.andThen_ok]
  cases r
  · simp
  · simp [hr]
theorem eqN {d : Nat} {xs ys : Array Value} : (Op.eqFields d xs ys []).run Try.prog w = .ok true w := rfl
set_option maxRecDepth 100000 in
theorem eq41 (d : Nat) (k0 k1 : IntKind) (a b c e : Int) : (Op.equalIn (d + 2) 41 (.agg #[.int k0 a, .int k1 b]) (.agg #[.int k0 c, .int k1 e])).run Try.prog w = .ok (a == c && (b == e && true)) w :=
  (eqS w _ _ Try.underlying41 Try.stoodInHeld41).trans (eqF w (by simp) (part3 w _ _ _ rfl) (part3 w _ _ _ rfl) (int3 ..) (eqF w (by simp) (part3 w _ _ _ rfl) (part3 w _ _ _ rfl) (int3 ..) (eqN w)))
set_option maxRecDepth 100000 in
theorem eq71 (d : Nat) (k0 k1 k2 k3 : IntKind) (a0 a1 a2 a3 b0 b1 b2 b3 : Int) : (Op.equalIn (d + 2) 71 (.agg #[.int k0 a0, .int k1 a1, .int k2 a2, .int k3 a3]) (.agg #[.int k0 b0, .int k1 b1, .int k2 b2, .int k3 b3])).run Try.prog w =
    .ok (a0 == b0 && (a1 == b1 && (a2 == b2 && (a3 == b3 && true)))) w := by
  rw [eqS w (d := d + 1) _ _ Try.underlying71 Try.stoodInHeld71]
  refine eqF w ?_ (part3 w _ _ (.int k0 a0) ?_) (part3 w _ _ (.int k0 b0) ?_) (int3 w d k0 a0 b0) (eqF w ?_ (part69 w _ _ (.int k1 a1) ?_) (part69 w _ _ (.int k1 b1) ?_) (int69 w d k1 a1 b1)
    (eqF w ?_ (part3 w _ _ (.int k2 a2) ?_) (part3 w _ _ (.int k2 b2) ?_) (int3 w d k2 a2 b2) (eqF w ?_ (part3 w _ _ (.int k3 a3) ?_) (part3 w _ _ (.int k3 b3) ?_) (int3 w d k3 a3 b3) (eqN w))))
  all_goals simp
set_option maxRecDepth 100000 in
theorem eq65 (d : Nat) (k0 k1 k2 k3 k4 k5 : IntKind) (a0 a1 a2 a3 a4 a5 b0 b1 b2 b3 b4 b5 : Int) : (Op.equalIn (d + 3) 65 (.agg #[.int k0 a0, .int k1 a1, .int k2 a2, .int k3 a3, .int k4 a4, .int k5 a5]) (.agg #[.int k0 b0, .int k1 b1, .int k2 b2, .int k3 b3, .int k4 b4, .int k5 b5])).run Try.prog w =
    .ok ((a0 == b0 && (a1 == b1 && true)) && ((a2 == b2 && (a3 == b3 && true)) && ((a4 == b4 && (a5 == b5 && true)) && true))) w :=
  (eqS w _ _ Try.underlying65 Try.stoodInHeld65).trans (eqF w (by simp) (part41 w _ _ _ _ rfl rfl) (part41 w _ _ _ _ rfl rfl) (eq41 w d k0 k1 ..) (eqF w (by simp) (part41 w _ _ _ _ rfl rfl) (part41 w _ _ _ _ rfl rfl) (eq41 w d k2 k3 ..)
    (eqF w (by simp) (part41 w _ _ _ _ rfl rfl) (part41 w _ _ _ _ rfl rfl) (eq41 w d k4 k5 ..) (eqN w))))

set_option maxRecDepth 100000 in
theorem okEq : OkEq Try.prog eqT := by
  intro t op xs ys x y w bs cs r het hcs pv ρ hx hy
  obtain ⟨l, rfl, rfl, rfl⟩ := eqCs_inv hcs
  have hx' := relL_ints (l := l.map fun p => (p.1, p.2.1)) (by simpa [List.map_map, Function.comp_def] using hx)
  have hy' := relL_ints (l := l.map fun p => (p.1, p.2.2)) (by simpa [List.map_map, Function.comp_def] using hy)
  subst hx' hy'
  clear hx hy hcs
  have fin : Try.prog.eqGuardType Try.prog.depth t = false → (Op.equalIn 10000 t (.agg ((l.map fun p => (p.1, p.2.1)).map fun p => Value.int p.1 p.2).toArray) (.agg ((l.map fun p => (p.1, p.2.2)).map fun p => Value.int p.1 p.2).toArray)).run Try.prog w = .ok (l.all fun p => p.2.1 == p.2.2) w →
      (op = .eql → (do eqGuard op t x y (.agg ((l.map fun p => (p.1, p.2.1)).map fun p => Value.int p.1 p.2).toArray) (.agg ((l.map fun p => (p.1, p.2.2)).map fun p => Value.int p.1 p.2).toArray); binOp op t (.agg ((l.map fun p => (p.1, p.2.1)).map fun p => Value.int p.1 p.2).toArray) (.agg ((l.map fun p => (p.1, p.2.2)).map fun p => Value.int p.1 p.2).toArray) : Sem Value).run Try.prog w = .ok (.bool (l.all fun p => p.2.1 == p.2.2)) w) ∧
      (op = .neq → (do eqGuard op t x y (.agg ((l.map fun p => (p.1, p.2.1)).map fun p => Value.int p.1 p.2).toArray) (.agg ((l.map fun p => (p.1, p.2.2)).map fun p => Value.int p.1 p.2).toArray); binOp op t (.agg ((l.map fun p => (p.1, p.2.1)).map fun p => Value.int p.1 p.2).toArray) (.agg ((l.map fun p => (p.1, p.2.2)).map fun p => Value.int p.1 p.2).toArray) : Sem Value).run Try.prog w = .ok (.bool (!(l.all fun p => p.2.1 == p.2.2))) w) := by
    intro hg he
    constructor
    · rintro rfl
      rw [Sem.run_bind, run_eqGuard_agg w _ _ _ _ _ _ hg, Result.andThen_ok, run_eql_struct, he]; rfl
    · rintro rfl
      rw [Sem.run_bind, run_eqGuard_agg w _ _ _ _ _ _ hg, Result.andThen_ok, run_neq_struct, he]; rfl
  simp only [eqT, Bool.or_eq_true, Bool.and_eq_true, beq_iff_eq, List.length_map] at het
  have l2 : l.length = 2 → ∃ p0 p1, l = [p0, p1] := fun h => by match l, h with | [p0, p1], _ => exact ⟨p0, p1, rfl⟩
  have l4 : l.length = 4 → ∃ p0 p1 p2 p3, l = [p0, p1, p2, p3] := fun h => by match l, h with | [p0, p1, p2, p3], _ => exact ⟨p0, p1, p2, p3, rfl⟩
  have l6 : l.length = 6 → ∃ p0 p1 p2 p3 p4 p5, l = [p0, p1, p2, p3, p4, p5] := fun h => by match l, h with | [p0, p1, p2, p3, p4, p5], _ => exact ⟨p0, p1, p2, p3, p4, p5, rfl⟩
  rcases het with (⟨rfl, hl⟩ | ⟨rfl, hl⟩) | ⟨rfl, hl⟩
  · obtain ⟨p0, p1, rfl⟩ := l2 hl
    exact fin Try.eqGuardType41 (eq41 w 9998 p0.1 p1.1 p0.2.1 p1.2.1 p0.2.2 p1.2.2)
  · obtain ⟨p0, p1, p2, p3, p4, p5, rfl⟩ := l6 hl
    refine fin Try.eqGuardType65 ((eq65 w 9997 p0.1 p1.1 p2.1 p3.1 p4.1 p5.1 p0.2.1 p1.2.1 p2.2.1 p3.2.1 p4.2.1 p5.2.1 p0.2.2 p1.2.2 p2.2.2 p3.2.2 p4.2.2 p5.2.2).trans ?_)
    simp [Bool.and_assoc]
  · obtain ⟨p0, p1, p2, p3, rfl⟩ := l4 hl
    exact fin Try.eqGuardType71 (eq71 w 9998 p0.1 p1.1 p2.1 p3.1 p0.2.1 p1.2.1 p2.2.1 p3.2.1 p0.2.2 p1.2.2 p2.2.2 p3.2.2)
theorem okCfg (F : Nat) : OkCfg Try.prog (cfg F) := fun _ => okEq
theorem okE (F d : Nat) : OkEnv Try.prog (E F d) := envN_ok (okCfg F) names d
end
end Go.Sim.Cr

/-
  This program's data, plain; how the evaluator sees them.
-/
namespace Go.Sim.Cr

structure Span where
  lo : Int
  hi : Int
/-- A slice: whether it is nil, how long it is, its elements. -/
structure Sl (α : Type) where
  nl : Bool
  len : Nat
  el : Nat → α
structure Cav where
  x : Int
  y : Int
  rad : Span
  vol : Span
  rock : Int
  floor : Int
  gate : Span
  change : Int
structure Row where
  deficit : Int
  rate : Span
  spall : Span
structure Heat where
  warmth : Int
  factor : Span
structure Ring where
  away : Int
  share : Span
structure House where
  x : Int
  y : Int
  most : Int
structure Site where
  cavs : Sl Cav
  rows : Sl Row
  heats : Sl Heat
  wall : Int
  rings : Sl Ring
  houses : Sl House
structure Stt where
  rad : Span
  vol : Span
  lost : Span
structure Day where
  press : Sl Span
  warm : Sl Span
structure Fault where
  day : Int
  rule : Int
  of : Int
  wth : Int
structure Truth where
  rad : Int
  vol : Int
  lost : Int
structure Mark where
  at_ : Int
  wth : Int
  possible : Bool
  certain : Bool

abbrev i64 (n : Int) : V := .int .i64 n
abbrev eInt (n : Int) : List V := [.int .i64 n]
abbrev eSpan (s : Span) : List V := [.int .i64 s.lo, .int .i64 s.hi]
abbrev eCav (c : Cav) : List V := [.int .i64 c.x, .int .i64 c.y, .int .i64 c.rad.lo, .int .i64 c.rad.hi, .int .i64 c.vol.lo, .int .i64 c.vol.hi, .int .i64 c.rock, .int .i64 c.floor, .int .i64 c.gate.lo, .int .i64 c.gate.hi, .int .i64 c.change]
abbrev eRow (r : Row) : List V := [.int .i64 r.deficit, .int .i64 r.rate.lo, .int .i64 r.rate.hi, .int .i64 r.spall.lo, .int .i64 r.spall.hi]
abbrev eHeat (h : Heat) : List V := [.int .i64 h.warmth, .int .i64 h.factor.lo, .int .i64 h.factor.hi]
abbrev eRing (r : Ring) : List V := [.int .i64 r.away, .int .i64 r.share.lo, .int .i64 r.share.hi]
abbrev eHouse (h : House) : List V := [.int .i64 h.x, .int .i64 h.y, .int .i64 h.most]
abbrev eStt (s : Stt) : List V := [.int .i64 s.rad.lo, .int .i64 s.rad.hi, .int .i64 s.vol.lo, .int .i64 s.vol.hi, .int .i64 s.lost.lo, .int .i64 s.lost.hi]
abbrev eFault (f : Fault) : List V := [.int .i64 f.day, .int .i64 f.rule, .int .i64 f.of, .int .i64 f.wth]
abbrev eTruth (t : Truth) : List V := [.int .i64 t.rad, .int .i64 t.vol, .int .i64 t.lost]
abbrev eMark (m : Mark) : List V := [.int .i64 m.at_, .int .i64 m.wth, .bool m.possible, .bool m.certain]
abbrev sl {α : Type} (e : α → List V) (wd : Nat) (s : Sl α) : V := .row s.nl s.len wd fun i => e (s.el i)
abbrev eSite (s : Site) : List V := [sl eCav 11 s.cavs, sl eRow 5 s.rows, sl eHeat 3 s.heats, .int .i64 s.wall, sl eRing 3 s.rings, sl eHouse 3 s.houses]
abbrev eDay (d : Day) : List V := [sl eSpan 2 d.press, sl eSpan 2 d.warm]
/-- A pointer to a site that is looked at. -/
abbrev pSite (s : Site) : V := .rptr 1 6 (fun _ => eSite s) 0 0
structure Today where
  s : Site
  d : Day
  before : Sl Span
  behind : Sl Stt
abbrev eToday (t : Today) : List V := [pSite t.s, sl eSpan 2 t.d.press, sl eSpan 2 t.d.warm, sl eSpan 2 t.before, sl eStt 6 t.behind]
abbrev pToday (t : Today) : V := .rptr 1 5 (fun _ => eToday t) 0 0
/-- A number of a table: 'speed$1', 'speed$2'. -/
abbrev cMap (g : Nat) (s : Site) : V := .fn (.func g) [] [.rptr 1 1 (fun _ => [pSite s]) 0 0]
end Go.Sim.Cr

/-
  What comes in, as this program's plain data.
-/
namespace Go.Sim.Cr
open Go.Proofs
theorem fitInt {k : IntKind} {c : V} (h : Fit (.int k) c) : ∃ n, c = .int k n ∧ k.min ≤ n ∧ n ≤ k.max := by
  cases h with
  | int h => exact ⟨_, rfl, h⟩
theorem fitL_nil {cs : List V} (h : FitL [] cs) : cs = [] := by
  have := h.1
  exact List.eq_nil_of_length_eq_zero this
theorem fitL_cons {s : Sh} {l : List Sh} {cs : List V} (h : FitL (s :: l) cs) : ∃ c cs', cs = c :: cs' ∧ Fit s c ∧ FitL l cs' := by
  obtain ⟨h1, h2⟩ := h
  cases cs with
  | nil => simp at h1
  | cons c cs' => exact ⟨c, cs', rfl, h2 0 s c rfl rfl, by simpa using h1, fun j s' c' g1 g2 => h2 (j + 1) s' c' (by simpa using g1) (by simpa using g2)⟩
theorem fitL_int {k : IntKind} {l : List Sh} {cs : List V} (h : FitL (.int k :: l) cs) : ∃ n cs', cs = .int k n :: cs' ∧ FitL l cs' := by
  obtain ⟨c, cs', rfl, h1, h2⟩ := fitL_cons h
  obtain ⟨n, rfl, _⟩ := fitInt h1
  exact ⟨n, cs', rfl, h2⟩
theorem fitRow {α : Type} {e : α → List V} {l : List Sh} (dec : ∀ cs, FitL l cs → ∃ a : α, cs = e a) {c : V} (h : Fit (.row l) c) : ∃ s : Sl α, c = sl e l.length s ∧ s.len ≤ maxLen ∧ (s.nl = true → s.len = 0) := by
  cases h with
  | row h hn hl hf =>
    rename_i nl len get
    have hx : ∀ i, ∃ a : α, get i = e a := fun i => dec _ ⟨hl i, hf i⟩
    refine ⟨⟨nl, len, fun i => (hx i).choose⟩, ?_, h, hn⟩
    show V.row nl len l.length get = V.row nl len l.length fun i => e (hx i).choose
    congr 1
    funext i
    exact (hx i).choose_spec
theorem fitL_row {α : Type} {e : α → List V} {l r : List Sh} (dec : ∀ cs, FitL l cs → ∃ a : α, cs = e a) {cs : List V} (h : FitL (.row l :: r) cs) : ∃ (s : Sl α) (cs' : List V), cs = sl e l.length s :: cs' ∧ s.len ≤ maxLen ∧ (s.nl = true → s.len = 0) ∧ FitL r cs' := by
  obtain ⟨c, cs', rfl, h1, h2⟩ := fitL_cons h
  obtain ⟨s, rfl, h3, h4⟩ := fitRow dec h1
  exact ⟨s, cs', rfl, h3, h4, h2⟩
abbrev i8 : Sh := .int .i64
abbrev shSpan : List Sh := [i8, i8]
abbrev shCav : List Sh := [i8, i8, i8, i8, i8, i8, i8, i8, i8, i8, i8]
abbrev shRow : List Sh := [i8, i8, i8, i8, i8]
abbrev shTri : List Sh := [i8, i8, i8]
abbrev shStt : List Sh := [i8, i8, i8, i8, i8, i8]
abbrev shSite : List Sh := [.row shCav, .row shRow, .row shTri, i8, .row shTri, .row shTri]
abbrev shDay : List Sh := [.row shSpan, .row shSpan]
theorem decInt (cs : List V) (h : FitL [i8] cs) : ∃ n : Int, cs = eInt n := by
  obtain ⟨a, _, rfl, h1⟩ := fitL_int h
  obtain rfl := fitL_nil h1
  exact ⟨a, rfl⟩
theorem decSpan (cs : List V) (h : FitL shSpan cs) : ∃ p : Span, cs = eSpan p := by
  obtain ⟨a, _, rfl, h1⟩ := fitL_int h
  obtain ⟨b, _, rfl, h2⟩ := fitL_int h1
  obtain rfl := fitL_nil h2
  exact ⟨⟨a, b⟩, rfl⟩
theorem decCav (cs : List V) (h : FitL shCav cs) : ∃ c : Cav, cs = eCav c := by
  obtain ⟨a0, _, rfl, h1⟩ := fitL_int h
  obtain ⟨a1, _, rfl, h2⟩ := fitL_int h1
  obtain ⟨a2, _, rfl, h3⟩ := fitL_int h2
  obtain ⟨a3, _, rfl, h4⟩ := fitL_int h3
  obtain ⟨a4, _, rfl, h5⟩ := fitL_int h4
  obtain ⟨a5, _, rfl, h6⟩ := fitL_int h5
  obtain ⟨a6, _, rfl, h7⟩ := fitL_int h6
  obtain ⟨a7, _, rfl, h8⟩ := fitL_int h7
  obtain ⟨a8, _, rfl, h9⟩ := fitL_int h8
  obtain ⟨a9, _, rfl, h10⟩ := fitL_int h9
  obtain ⟨a10, _, rfl, h11⟩ := fitL_int h10
  obtain rfl := fitL_nil h11
  exact ⟨⟨a0, a1, ⟨a2, a3⟩, ⟨a4, a5⟩, a6, a7, ⟨a8, a9⟩, a10⟩, rfl⟩
theorem decRow (cs : List V) (h : FitL shRow cs) : ∃ c : Row, cs = eRow c := by
  obtain ⟨a0, _, rfl, h1⟩ := fitL_int h
  obtain ⟨a1, _, rfl, h2⟩ := fitL_int h1
  obtain ⟨a2, _, rfl, h3⟩ := fitL_int h2
  obtain ⟨a3, _, rfl, h4⟩ := fitL_int h3
  obtain ⟨a4, _, rfl, h5⟩ := fitL_int h4
  obtain rfl := fitL_nil h5
  exact ⟨⟨a0, ⟨a1, a2⟩, ⟨a3, a4⟩⟩, rfl⟩
theorem decTri (cs : List V) (h : FitL shTri cs) : ∃ a b c : Int, cs = [i64 a, i64 b, i64 c] := by
  obtain ⟨a0, _, rfl, h1⟩ := fitL_int h
  obtain ⟨a1, _, rfl, h2⟩ := fitL_int h1
  obtain ⟨a2, _, rfl, h3⟩ := fitL_int h2
  obtain rfl := fitL_nil h3
  exact ⟨a0, a1, a2, rfl⟩
theorem decHeat (cs : List V) (h : FitL shTri cs) : ∃ c : Heat, cs = eHeat c := by
  obtain ⟨a, b, c, rfl⟩ := decTri cs h
  exact ⟨⟨a, ⟨b, c⟩⟩, rfl⟩
theorem decRing (cs : List V) (h : FitL shTri cs) : ∃ c : Ring, cs = eRing c := by
  obtain ⟨a, b, c, rfl⟩ := decTri cs h
  exact ⟨⟨a, ⟨b, c⟩⟩, rfl⟩
theorem decHouse (cs : List V) (h : FitL shTri cs) : ∃ c : House, cs = eHouse c := by
  obtain ⟨a, b, c, rfl⟩ := decTri cs h
  exact ⟨⟨a, b, c⟩, rfl⟩
theorem decStt (cs : List V) (h : FitL shStt cs) : ∃ c : Stt, cs = eStt c := by
  obtain ⟨a0, _, rfl, h1⟩ := fitL_int h
  obtain ⟨a1, _, rfl, h2⟩ := fitL_int h1
  obtain ⟨a2, _, rfl, h3⟩ := fitL_int h2
  obtain ⟨a3, _, rfl, h4⟩ := fitL_int h3
  obtain ⟨a4, _, rfl, h5⟩ := fitL_int h4
  obtain ⟨a5, _, rfl, h6⟩ := fitL_int h5
  obtain rfl := fitL_nil h6
  exact ⟨⟨⟨a0, a1⟩, ⟨a2, a3⟩, ⟨a4, a5⟩⟩, rfl⟩
theorem decDay (cs : List V) (h : FitL shDay cs) : ∃ c : Day, cs = eDay c := by
  obtain ⟨p, _, rfl, _, _, h1⟩ := fitL_row decSpan h
  obtain ⟨q, _, rfl, _, _, h2⟩ := fitL_row decSpan h1
  obtain rfl := fitL_nil h2
  exact ⟨⟨p, q⟩, rfl⟩
theorem decSite (cs : List V) (h : FitL shSite cs) : ∃ c : Site, cs = eSite c := by
  obtain ⟨a, _, rfl, _, _, h1⟩ := fitL_row decCav h
  obtain ⟨b, _, rfl, _, _, h2⟩ := fitL_row decRow h1
  obtain ⟨c, _, rfl, _, _, h3⟩ := fitL_row decHeat h2
  obtain ⟨n, _, rfl, h4⟩ := fitL_int h3
  obtain ⟨d, _, rfl, _, _, h5⟩ := fitL_row decRing h4
  obtain ⟨e, _, rfl, _, _, h6⟩ := fitL_row decHouse h5
  obtain rfl := fitL_nil h6
  exact ⟨⟨a, b, c, n, d, e⟩, rfl⟩
theorem laid : laidOutB Try.prog = true := by kernel_rfl
theorem own : ownKnob Try.prog.godebug = none := by kernel_rfl
end Go.Sim.Cr

/-
  What the evaluator says of these functions (printed by a private program; each row is checked by the kernel).
-/
set_option maxRecDepth 100000
namespace Go.Sim.Cr
open Go.Proofs

noncomputable def L7601x0 (env : Env) (F : Nat) (a : Int) (b : Int) (n : Int) (fu : Nat) (i0 : Int) (i1 : Int) : Option Out := atLoop Try.prog (cfg F) env 76 [.r, .l, .d] [] fu { tm := tmL 24 0 [(0, (.int .i64 i0)), (1, (.int .i64 i1)), (2, (.fn (.func 115) [] [(.rptr 1 1 (fun u8 => [(.int .i64 n)]) 0 0)]))], hp := [] }
theorem t7601 (env : Env) (F : Nat) (a : Int) (b : Int) (n : Int) : (evFun Try.prog (cfg F) env 76 [(.int .i64 a), (.int .i64 b), (.fn (.func 115) [] [(.rptr 1 1 (fun u5 => [(.int .i64 n)]) 0 0)])]) =
  (L7601x0 env F a b n F a b) := by kernel_rfl
theorem L7601x0s (env : Env) (F : Nat) (a : Int) (b : Int) (n : Int) (fu : Nat) (i0 : Int) (i1 : Int) : L7601x0 env F a b n (fu + 1) i0 i1 =
  (bif (decide (i0 < i1)) then (tkOut (env 115 [(.int .i64 (IntKind.wrap .i64 (i0 + (IntKind.wrap .i64 (Int.tdiv (IntKind.wrap .i64 (i1 - i0)) (2 : Int)))))), (.rptr 1 1 (fun u8 => [(.int .i64 n)]) 0 0)]) none (fun v8 => (tkBool v8 none fun b9 => (bif b9 then (L7601x0 env F a b n fu i0 (IntKind.wrap .i64 (i0 + (IntKind.wrap .i64 (Int.tdiv (IntKind.wrap .i64 (i1 - i0)) (2 : Int))))))
        else (L7601x0 env F a b n fu (IntKind.wrap .i64 ((IntKind.wrap .i64 (i0 + (IntKind.wrap .i64 (Int.tdiv (IntKind.wrap .i64 (i1 - i0)) (2 : Int))))) + (1 : Int))) i1))))
    (fun p8 => (tkIfc p8 none fun t9 x10 => (bif (flatP (.iface t9 x10)) then some (.pan (.iface t9 x10))
        else none))))
  else some (.ret (.int .i64 i0))) := by kernel_rfl

theorem t54 (env : Env) (F : Nat) (x : Int) (y : Int) (z : Int) : (evFun Try.prog (cfg F) env 54 [(.int .i64 x), (.int .i64 y), (.int .i64 z)]) =
  (bif (decide (x ≥ y)) then some (.ret (.bool (decide (x ≤ z))))
  else some (.ret (.bool false))) := by kernel_rfl

theorem t18 (env : Env) (F : Nat) (x : Int) (y : Int) : (evFun Try.prog (cfg F) env 18 [(.int .i64 x), (.int .i64 y)]) =
  (tkOut (env 54 [(.int .i64 x), (.int .i64 (-(10000 : Int))), (.int .i64 (10000 : Int))]) none (fun v4 => (tkBool v4 none fun b5 => (bif b5 then (tkOut (env 54 [(.int .i64 y), (.int .i64 (-(10000 : Int))), (.int .i64 (10000 : Int))]) none (fun v6 => (tkBool v6 none fun b7 => some (.ret (.bool b7))))
        (fun p6 => (tkIfc p6 none fun t7 x8 => (bif (flatP (.iface t7 x8)) then some (.pan (.iface t7 x8))
            else none))))
      else some (.ret (.bool false)))))
  (fun p4 => (tkIfc p4 none fun t5 x6 => (bif (flatP (.iface t5 x6)) then some (.pan (.iface t5 x6))
      else none)))) := by kernel_rfl

theorem t61 (env : Env) (F : Nat) (x : Int) (y : Int) (z : Int) : (evFun Try.prog (cfg F) env 61 [(.int .i64 x), (.int .i64 y), (.int .i64 z)]) =
  some (.ret (.int .i64 (IntKind.wrap .i64 (Int.tdiv (IntKind.wrap .i64 ((IntKind.wrap .i64 (x * y)) * z)) (1000000000 : Int))))) := by kernel_rfl

theorem t62 (env : Env) (F : Nat) (x : Int) (y : Int) (z : Int) : (evFun Try.prog (cfg F) env 62 [(.int .i64 x), (.int .i64 y), (.int .i64 z)]) =
  some (.ret (.int .i64 (IntKind.wrap .i64 (Int.tdiv (IntKind.wrap .i64 ((IntKind.wrap .i64 ((IntKind.wrap .i64 (x * y)) * z)) + (999999999 : Int))) (1000000000 : Int))))) := by kernel_rfl

theorem t25 (env : Env) (F : Nat) (p : Span) (n : Int) : (evFun Try.prog (cfg F) env 25 [(.agg (eSpan p)), (.int .i64 n)]) =
  some (.ret (.int .i64 (IntKind.wrap .i64 ((Span.lo p) + (IntKind.wrap .i64 (Int.tdiv (IntKind.wrap .i64 ((IntKind.wrap .i64 ((Span.hi p) - (Span.lo p))) * n)) (100 : Int))))))) := by kernel_rfl

theorem t28 (env : Env) (F : Nat) (n : Int) (p : Span) : (evFun Try.prog (cfg F) env 28 [(.int .i64 n), (.agg (eSpan p))]) =
  (bif (decide (n ≥ (Span.lo p))) then some (.ret (.bool (decide (n ≤ (Span.hi p)))))
  else some (.ret (.bool false))) := by kernel_rfl

theorem t35 (env : Env) (F : Nat) (p : Span) (q : Span) : (evFun Try.prog (cfg F) env 35 [(.agg (eSpan p)), (.agg (eSpan q))]) =
  (bif (decide ((Span.lo p) ≥ (Span.lo q))) then some (.ret (.bool (decide ((Span.hi p) ≤ (Span.hi q)))))
  else some (.ret (.bool false))) := by kernel_rfl

theorem t72 (env : Env) (F : Nat) (x : Int) (y : Int) (z : Int) : (evFun Try.prog (cfg F) env 72 [(.int .i64 x), (.int .i64 y), (.int .i64 z)]) =
  (bif (decide (x ≥ y)) then some (.ret (.bool (decide (x ≤ z))))
  else some (.ret (.bool false))) := by kernel_rfl

theorem t52 (env : Env) (F : Nat) (x : Int) (y : Int) : (evFun Try.prog (cfg F) env 52 [(.int .i64 x), (.int .i64 y)]) =
  (tkOut (env 72 [(.int .i64 x), (.int .i64 (-(10000 : Int))), (.int .i64 (10000 : Int))]) none (fun v4 => (tkBool v4 none fun b5 => (bif b5 then (tkOut (env 72 [(.int .i64 y), (.int .i64 (-(10000 : Int))), (.int .i64 (10000 : Int))]) none (fun v6 => (tkBool v6 none fun b7 => some (.ret (.bool b7))))
        (fun p6 => (tkIfc p6 none fun t7 x8 => (bif (flatP (.iface t7 x8)) then some (.pan (.iface t7 x8))
            else none))))
      else some (.ret (.bool false)))))
  (fun p4 => (tkIfc p4 none fun t5 x6 => (bif (flatP (.iface t5 x6)) then some (.pan (.iface t5 x6))
      else none)))) := by kernel_rfl

theorem t74 (env : Env) (F : Nat) (p : Span) (n : Int) : (evFun Try.prog (cfg F) env 74 [(.agg (eSpan p)), (.int .i64 n)]) =
  (bif (decide ((Span.lo p) ≥ (0 : Int))) then (bif (decide ((Span.lo p) ≤ (Span.hi p))) then some (.ret (.bool (decide ((Span.hi p) ≤ n))))
    else some (.ret (.bool false)))
  else some (.ret (.bool false))) := by kernel_rfl

theorem t79 (env : Env) (F : Nat) (c : Cav) : (evFun Try.prog (cfg F) env 79 [(.agg (eCav c))]) =
  (tkOut (env 52 [(.int .i64 (Cav.x c)), (.int .i64 (Cav.y c))]) none (fun v3 => (tkBool v3 none fun b4 => (bif b4 then (tkOut (env 74 [(.agg (eSpan (Cav.rad c))), (.int .i64 (200000 : Int))]) none (fun v5 => (tkBool v5 none fun b6 => (bif b6 then (tkOut (env 74 [(.agg (eSpan (Cav.vol c))), (.int .i64 (10000000 : Int))]) none (fun v7 => (tkBool v7 none fun b8 => (bif b8 then (tkOut (env 72 [(.int .i64 (Cav.rock c)), (.int .i64 (0 : Int)), (.int .i64 (50000 : Int))]) none (fun v9 => (tkBool v9 none fun b10 => (bif b10 then (tkOut (env 72 [(.int .i64 (Cav.floor c)), (.int .i64 (0 : Int)), (.int .i64 (10000000 : Int))]) none (fun v11 => (tkBool v11 none fun b12 => (bif b12 then (tkOut (env 74 [(.agg (eSpan (Cav.gate c))), (.int .i64 (50000 : Int))]) none (fun v13 => (tkBool v13 none fun b14 => (bif b14 then (tkOut (env 72 [(.int .i64 (Cav.change c)), (.int .i64 (0 : Int)), (.int .i64 (50000 : Int))]) none (fun v15 => (tkBool v15 none fun b16 => some (.ret (.bool b16))))
                                      (fun p15 => (tkIfc p15 none fun t16 x17 => (bif (flatP (.iface t16 x17)) then some (.pan (.iface t16 x17))
                                          else none))))
                                    else some (.ret (.bool false)))))
                                (fun p13 => (tkIfc p13 none fun t14 x15 => (bif (flatP (.iface t14 x15)) then some (.pan (.iface t14 x15))
                                    else none))))
                              else some (.ret (.bool false)))))
                          (fun p11 => (tkIfc p11 none fun t12 x13 => (bif (flatP (.iface t12 x13)) then some (.pan (.iface t12 x13))
                              else none))))
                        else some (.ret (.bool false)))))
                    (fun p9 => (tkIfc p9 none fun t10 x11 => (bif (flatP (.iface t10 x11)) then some (.pan (.iface t10 x11))
                        else none))))
                  else some (.ret (.bool false)))))
              (fun p7 => (tkIfc p7 none fun t8 x9 => (bif (flatP (.iface t8 x9)) then some (.pan (.iface t8 x9))
                  else none))))
            else some (.ret (.bool false)))))
        (fun p5 => (tkIfc p5 none fun t6 x7 => (bif (flatP (.iface t6 x7)) then some (.pan (.iface t6 x7))
            else none))))
      else some (.ret (.bool false)))))
  (fun p3 => (tkIfc p3 none fun t4 x5 => (bif (flatP (.iface t4 x5)) then some (.pan (.iface t4 x5))
      else none)))) := by kernel_rfl

theorem t107 (env : Env) (F : Nat) (p : Span) (q : Span) : (evFun Try.prog (cfg F) env 107 [(.agg (eSpan p)), (.agg (eSpan q))]) =
  (bif (decide ((Span.lo p) ≥ (Span.lo q))) then some (.ret (.bool (decide ((Span.hi p) ≥ (Span.hi q)))))
  else some (.ret (.bool false))) := by kernel_rfl

theorem t113 (env : Env) (F : Nat) (x : Int) (y : Int) (z : Int) (u : Int) : (evFun Try.prog (cfg F) env 113 [(.int .i64 x), (.int .i64 y), (.int .i64 z), (.int .i64 u)]) =
  some (.ret (.int .i64 (if (IntKind.wrap .i64 (Int.tdiv (IntKind.wrap .i64 ((IntKind.wrap .i64 ((IntKind.wrap .i64 (x * y)) * z)) + u)) (1000000000 : Int))) < x then (IntKind.wrap .i64 (Int.tdiv (IntKind.wrap .i64 ((IntKind.wrap .i64 ((IntKind.wrap .i64 (x * y)) * z)) + u)) (1000000000 : Int))) else x))) := by kernel_rfl

theorem t115 (env : Env) (F : Nat) (x : Int) (n : Int) : (evFun Try.prog (cfg F) env 115 [(.int .i64 x), (.rptr 1 1 (fun u4 => [(.int .i64 n)]) 0 0)]) =
  some (.ret (.bool (decide ((IntKind.wrap .i64 (x * x)) > n)))) := by kernel_rfl

theorem t105 (env : Env) (F : Nat) (n : Int) : (evFun Try.prog (cfg F) env 105 [(.int .i64 n)]) =
  (tkOut (env 76 [(.int .i64 (1 : Int)), (.int .i64 (67108864 : Int)), (.fn (.func 115) [] [(.rptr 1 1 (fun u3 => [(.int .i64 n)]) 0 0)])]) none (fun v3 => (tkInt v3 none fun q4 n5 => (bif (decide (q4 = .i64)) then some (.ret (.int q4 (IntKind.wrap q4 (n5 - (1 : Int)))))
      else none)))
  (fun p3 => (tkIfc p3 none fun t4 x5 => (bif (flatP (.iface t4 x5)) then some (.pan (.iface t4 x5))
      else none)))) := by kernel_rfl

theorem t117 (env : Env) (F : Nat) (s : Site) (i : Int) : (evFun Try.prog (cfg F) env 117 [(.int .i64 i), (.rptr 1 1 (fun u4 => [(pSite s)]) 0 0)]) =
  (bif (decide ((0 : Int) ≤ i)) then (bif (decide (i < (((Sl.len (Site.rows s)) : Nat) : Int))) then some (.ret (.int .i64 (Row.deficit (Sl.el (Site.rows s) (Int.toNat i)))))
    else none)
  else none) := by kernel_rfl

theorem t118 (env : Env) (F : Nat) (s : Site) (i : Int) : (evFun Try.prog (cfg F) env 118 [(.int .i64 i), (.rptr 1 1 (fun u4 => [(pSite s)]) 0 0)]) =
  (bif (decide ((0 : Int) ≤ i)) then (bif (decide (i < (((Sl.len (Site.heats s)) : Nat) : Int))) then some (.ret (.int .i64 (Heat.warmth (Sl.el (Site.heats s) (Int.toNat i)))))
    else none)
  else none) := by kernel_rfl

theorem t1191 (env : Env) (F : Nat) (s : Site) (i : Int) (lo : Int) : (evFun Try.prog (cfg F) env 119 [(.int .i64 i), (.rptr 1 1 (fun u5 => [(cMap 117 s)]) 0 0), (.rptr 1 1 (fun u5 => [(.int .i64 lo)]) 0 0)]) =
  (tkOut (env 117 [(.int .i64 i), (.rptr 1 1 (fun u5 => [(pSite s)]) 0 0)]) none (fun v5 => (tkInt v5 none fun q6 n7 => (bif (decide (q6 = .i64)) then some (.ret (.bool (decide (n7 > lo))))
      else none)))
  (fun p5 => (tkIfc p5 none fun t6 x7 => (bif (flatP (.iface t6 x7)) then none
      else none)))) := by kernel_rfl

theorem t1192 (env : Env) (F : Nat) (s : Site) (i : Int) (lo : Int) : (evFun Try.prog (cfg F) env 119 [(.int .i64 i), (.rptr 1 1 (fun u5 => [(cMap 118 s)]) 0 0), (.rptr 1 1 (fun u5 => [(.int .i64 lo)]) 0 0)]) =
  (tkOut (env 118 [(.int .i64 i), (.rptr 1 1 (fun u5 => [(pSite s)]) 0 0)]) none (fun v5 => (tkInt v5 none fun q6 n7 => (bif (decide (q6 = .i64)) then some (.ret (.bool (decide (n7 > lo))))
      else none)))
  (fun p5 => (tkIfc p5 none fun t6 x7 => (bif (flatP (.iface t6 x7)) then none
      else none)))) := by kernel_rfl

theorem t1201 (env : Env) (F : Nat) (s : Site) (i : Int) (hi : Int) : (evFun Try.prog (cfg F) env 120 [(.int .i64 i), (.rptr 1 1 (fun u5 => [(cMap 117 s)]) 0 0), (.rptr 1 1 (fun u5 => [(.int .i64 hi)]) 0 0)]) =
  (tkOut (env 117 [(.int .i64 i), (.rptr 1 1 (fun u5 => [(pSite s)]) 0 0)]) none (fun v5 => (tkInt v5 none fun q6 n7 => (bif (decide (q6 = .i64)) then some (.ret (.bool (decide (n7 ≥ hi))))
      else none)))
  (fun p5 => (tkIfc p5 none fun t6 x7 => (bif (flatP (.iface t6 x7)) then none
      else none)))) := by kernel_rfl

theorem t1202 (env : Env) (F : Nat) (s : Site) (i : Int) (hi : Int) : (evFun Try.prog (cfg F) env 120 [(.int .i64 i), (.rptr 1 1 (fun u5 => [(cMap 118 s)]) 0 0), (.rptr 1 1 (fun u5 => [(.int .i64 hi)]) 0 0)]) =
  (tkOut (env 118 [(.int .i64 i), (.rptr 1 1 (fun u5 => [(pSite s)]) 0 0)]) none (fun v5 => (tkInt v5 none fun q6 n7 => (bif (decide (q6 = .i64)) then some (.ret (.bool (decide (n7 ≥ hi))))
      else none)))
  (fun p5 => (tkIfc p5 none fun t6 x7 => (bif (flatP (.iface t6 x7)) then none
      else none)))) := by kernel_rfl

theorem t1161 (env : Env) (F : Nat) (s : Site) (n : Int) (lo : Int) (hi : Int) : (evFun Try.prog (cfg F) env 116 [(.int .i64 n), (cMap 117 s), (.int .i64 lo), (.int .i64 hi)]) =
  (tkOut (env 76 [(.int .i64 (0 : Int)), (.int .i64 n), (.fn (.func 119) [] [(.rptr 1 1 (fun u6 => [(.fn (.func 117) [] [(.rptr 1 1 (fun u7 => [(pSite s)]) 0 0)])]) 0 0), (.rptr 1 1 (fun u6 => [(.int .i64 lo)]) 0 0)])]) none (fun v6 => (tkInt v6 none fun q7 n8 => (bif (decide (q7 = .i64)) then (tkOut (env 76 [(.int .i64 (0 : Int)), (.int .i64 n), (.fn (.func 120) [] [(.rptr 1 1 (fun u9 => [(.fn (.func 117) [] [(.rptr 1 1 (fun u10 => [(pSite s)]) 0 0)])]) 0 0), (.rptr 1 1 (fun u9 => [(.int .i64 hi)]) 0 0)])]) none (fun v9 => (tkInt v9 none fun q10 n11 => (bif (decide (q7 = .i64)) then (bif (decide ((IntKind.wrap q7 (n8 - (1 : Int))) < (0 : Int))) then some (.pan (.iface 146 (.agg [(.int .i64 lo)])))
              else (bif (decide (q10 = .i64)) then (bif (n11 == n) then some (.pan (.iface 146 (.agg [(.int .i64 lo)])))
                  else some (.ret (.tup [(.int q7 (IntKind.wrap q7 (n8 - (1 : Int)))), (.int q10 n11)])))
                else none))
            else none)))
        (fun p9 => (tkIfc p9 none fun t10 x11 => (bif (flatP (.iface t10 x11)) then some (.pan (.iface t10 x11))
            else none))))
      else none)))
  (fun p6 => (tkIfc p6 none fun t7 x8 => (bif (flatP (.iface t7 x8)) then some (.pan (.iface t7 x8))
      else none)))) := by kernel_rfl

theorem t1162 (env : Env) (F : Nat) (s : Site) (n : Int) (lo : Int) (hi : Int) : (evFun Try.prog (cfg F) env 116 [(.int .i64 n), (cMap 118 s), (.int .i64 lo), (.int .i64 hi)]) =
  (tkOut (env 76 [(.int .i64 (0 : Int)), (.int .i64 n), (.fn (.func 119) [] [(.rptr 1 1 (fun u6 => [(.fn (.func 118) [] [(.rptr 1 1 (fun u7 => [(pSite s)]) 0 0)])]) 0 0), (.rptr 1 1 (fun u6 => [(.int .i64 lo)]) 0 0)])]) none (fun v6 => (tkInt v6 none fun q7 n8 => (bif (decide (q7 = .i64)) then (tkOut (env 76 [(.int .i64 (0 : Int)), (.int .i64 n), (.fn (.func 120) [] [(.rptr 1 1 (fun u9 => [(.fn (.func 118) [] [(.rptr 1 1 (fun u10 => [(pSite s)]) 0 0)])]) 0 0), (.rptr 1 1 (fun u9 => [(.int .i64 hi)]) 0 0)])]) none (fun v9 => (tkInt v9 none fun q10 n11 => (bif (decide (q7 = .i64)) then (bif (decide ((IntKind.wrap q7 (n8 - (1 : Int))) < (0 : Int))) then some (.pan (.iface 146 (.agg [(.int .i64 lo)])))
              else (bif (decide (q10 = .i64)) then (bif (n11 == n) then some (.pan (.iface 146 (.agg [(.int .i64 lo)])))
                  else some (.ret (.tup [(.int q7 (IntKind.wrap q7 (n8 - (1 : Int)))), (.int q10 n11)])))
                else none))
            else none)))
        (fun p9 => (tkIfc p9 none fun t10 x11 => (bif (flatP (.iface t10 x11)) then some (.pan (.iface t10 x11))
            else none))))
      else none)))
  (fun p6 => (tkIfc p6 none fun t7 x8 => (bif (flatP (.iface t7 x8)) then some (.pan (.iface t7 x8))
      else none)))) := by kernel_rfl

noncomputable def L7621x0 (env : Env) (F : Nat) (a : Int) (b : Int) (lo : Int) (s : Site) (fu : Nat) (i0 : Int) (i1 : Int) : Option Out := atLoop Try.prog (cfg F) env 76 [.r, .l, .d] [] fu { tm := tmL 24 0 [(0, (.int .i64 i0)), (1, (.int .i64 i1)), (2, (.fn (.func 119) [] [(.rptr 1 1 (fun u9 => [(.fn (.func 117) [] [(.rptr 1 1 (fun u10 => [(pSite s)]) 0 0)])]) 0 0), (.rptr 1 1 (fun u9 => [(.int .i64 lo)]) 0 0)]))], hp := [] }
theorem t7621 (env : Env) (F : Nat) (a : Int) (b : Int) (lo : Int) (s : Site) : (evFun Try.prog (cfg F) env 76 [(.int .i64 a), (.int .i64 b), (.fn (.func 119) [] [(.rptr 1 1 (fun u6 => [(cMap 117 s)]) 0 0), (.rptr 1 1 (fun u6 => [(.int .i64 lo)]) 0 0)])]) =
  (L7621x0 env F a b lo s F a b) := by kernel_rfl
theorem L7621x0s (env : Env) (F : Nat) (a : Int) (b : Int) (lo : Int) (s : Site) (fu : Nat) (i0 : Int) (i1 : Int) : L7621x0 env F a b lo s (fu + 1) i0 i1 =
  (bif (decide (i0 < i1)) then (tkOut (env 119 [(.int .i64 (IntKind.wrap .i64 (i0 + (IntKind.wrap .i64 (Int.tdiv (IntKind.wrap .i64 (i1 - i0)) (2 : Int)))))), (.rptr 1 1 (fun u9 => [(.fn (.func 117) [] [(.rptr 1 1 (fun u10 => [(pSite s)]) 0 0)])]) 0 0), (.rptr 1 1 (fun u9 => [(.int .i64 lo)]) 0 0)]) none (fun v9 => (tkBool v9 none fun b10 => (bif b10 then (L7621x0 env F a b lo s fu i0 (IntKind.wrap .i64 (i0 + (IntKind.wrap .i64 (Int.tdiv (IntKind.wrap .i64 (i1 - i0)) (2 : Int))))))
        else (L7621x0 env F a b lo s fu (IntKind.wrap .i64 ((IntKind.wrap .i64 (i0 + (IntKind.wrap .i64 (Int.tdiv (IntKind.wrap .i64 (i1 - i0)) (2 : Int))))) + (1 : Int))) i1))))
    (fun p9 => (tkIfc p9 none fun t10 x11 => (bif (flatP (.iface t10 x11)) then some (.pan (.iface t10 x11))
        else none))))
  else some (.ret (.int .i64 i0))) := by kernel_rfl

noncomputable def L7622x0 (env : Env) (F : Nat) (a : Int) (b : Int) (lo : Int) (s : Site) (fu : Nat) (i0 : Int) (i1 : Int) : Option Out := atLoop Try.prog (cfg F) env 76 [.r, .l, .d] [] fu { tm := tmL 24 0 [(0, (.int .i64 i0)), (1, (.int .i64 i1)), (2, (.fn (.func 119) [] [(.rptr 1 1 (fun u9 => [(.fn (.func 118) [] [(.rptr 1 1 (fun u10 => [(pSite s)]) 0 0)])]) 0 0), (.rptr 1 1 (fun u9 => [(.int .i64 lo)]) 0 0)]))], hp := [] }
theorem t7622 (env : Env) (F : Nat) (a : Int) (b : Int) (lo : Int) (s : Site) : (evFun Try.prog (cfg F) env 76 [(.int .i64 a), (.int .i64 b), (.fn (.func 119) [] [(.rptr 1 1 (fun u6 => [(cMap 118 s)]) 0 0), (.rptr 1 1 (fun u6 => [(.int .i64 lo)]) 0 0)])]) =
  (L7622x0 env F a b lo s F a b) := by kernel_rfl
theorem L7622x0s (env : Env) (F : Nat) (a : Int) (b : Int) (lo : Int) (s : Site) (fu : Nat) (i0 : Int) (i1 : Int) : L7622x0 env F a b lo s (fu + 1) i0 i1 =
  (bif (decide (i0 < i1)) then (tkOut (env 119 [(.int .i64 (IntKind.wrap .i64 (i0 + (IntKind.wrap .i64 (Int.tdiv (IntKind.wrap .i64 (i1 - i0)) (2 : Int)))))), (.rptr 1 1 (fun u9 => [(.fn (.func 118) [] [(.rptr 1 1 (fun u10 => [(pSite s)]) 0 0)])]) 0 0), (.rptr 1 1 (fun u9 => [(.int .i64 lo)]) 0 0)]) none (fun v9 => (tkBool v9 none fun b10 => (bif b10 then (L7622x0 env F a b lo s fu i0 (IntKind.wrap .i64 (i0 + (IntKind.wrap .i64 (Int.tdiv (IntKind.wrap .i64 (i1 - i0)) (2 : Int))))))
        else (L7622x0 env F a b lo s fu (IntKind.wrap .i64 ((IntKind.wrap .i64 (i0 + (IntKind.wrap .i64 (Int.tdiv (IntKind.wrap .i64 (i1 - i0)) (2 : Int))))) + (1 : Int))) i1))))
    (fun p9 => (tkIfc p9 none fun t10 x11 => (bif (flatP (.iface t10 x11)) then some (.pan (.iface t10 x11))
        else none))))
  else some (.ret (.int .i64 i0))) := by kernel_rfl

noncomputable def L7631x0 (env : Env) (F : Nat) (a : Int) (b : Int) (hi : Int) (s : Site) (fu : Nat) (i0 : Int) (i1 : Int) : Option Out := atLoop Try.prog (cfg F) env 76 [.r, .l, .d] [] fu { tm := tmL 24 0 [(0, (.int .i64 i0)), (1, (.int .i64 i1)), (2, (.fn (.func 120) [] [(.rptr 1 1 (fun u9 => [(.fn (.func 117) [] [(.rptr 1 1 (fun u10 => [(pSite s)]) 0 0)])]) 0 0), (.rptr 1 1 (fun u9 => [(.int .i64 hi)]) 0 0)]))], hp := [] }
theorem t7631 (env : Env) (F : Nat) (a : Int) (b : Int) (hi : Int) (s : Site) : (evFun Try.prog (cfg F) env 76 [(.int .i64 a), (.int .i64 b), (.fn (.func 120) [] [(.rptr 1 1 (fun u6 => [(cMap 117 s)]) 0 0), (.rptr 1 1 (fun u6 => [(.int .i64 hi)]) 0 0)])]) =
  (L7631x0 env F a b hi s F a b) := by kernel_rfl
theorem L7631x0s (env : Env) (F : Nat) (a : Int) (b : Int) (hi : Int) (s : Site) (fu : Nat) (i0 : Int) (i1 : Int) : L7631x0 env F a b hi s (fu + 1) i0 i1 =
  (bif (decide (i0 < i1)) then (tkOut (env 120 [(.int .i64 (IntKind.wrap .i64 (i0 + (IntKind.wrap .i64 (Int.tdiv (IntKind.wrap .i64 (i1 - i0)) (2 : Int)))))), (.rptr 1 1 (fun u9 => [(.fn (.func 117) [] [(.rptr 1 1 (fun u10 => [(pSite s)]) 0 0)])]) 0 0), (.rptr 1 1 (fun u9 => [(.int .i64 hi)]) 0 0)]) none (fun v9 => (tkBool v9 none fun b10 => (bif b10 then (L7631x0 env F a b hi s fu i0 (IntKind.wrap .i64 (i0 + (IntKind.wrap .i64 (Int.tdiv (IntKind.wrap .i64 (i1 - i0)) (2 : Int))))))
        else (L7631x0 env F a b hi s fu (IntKind.wrap .i64 ((IntKind.wrap .i64 (i0 + (IntKind.wrap .i64 (Int.tdiv (IntKind.wrap .i64 (i1 - i0)) (2 : Int))))) + (1 : Int))) i1))))
    (fun p9 => (tkIfc p9 none fun t10 x11 => (bif (flatP (.iface t10 x11)) then some (.pan (.iface t10 x11))
        else none))))
  else some (.ret (.int .i64 i0))) := by kernel_rfl

noncomputable def L7632x0 (env : Env) (F : Nat) (a : Int) (b : Int) (hi : Int) (s : Site) (fu : Nat) (i0 : Int) (i1 : Int) : Option Out := atLoop Try.prog (cfg F) env 76 [.r, .l, .d] [] fu { tm := tmL 24 0 [(0, (.int .i64 i0)), (1, (.int .i64 i1)), (2, (.fn (.func 120) [] [(.rptr 1 1 (fun u9 => [(.fn (.func 118) [] [(.rptr 1 1 (fun u10 => [(pSite s)]) 0 0)])]) 0 0), (.rptr 1 1 (fun u9 => [(.int .i64 hi)]) 0 0)]))], hp := [] }
theorem t7632 (env : Env) (F : Nat) (a : Int) (b : Int) (hi : Int) (s : Site) : (evFun Try.prog (cfg F) env 76 [(.int .i64 a), (.int .i64 b), (.fn (.func 120) [] [(.rptr 1 1 (fun u6 => [(cMap 118 s)]) 0 0), (.rptr 1 1 (fun u6 => [(.int .i64 hi)]) 0 0)])]) =
  (L7632x0 env F a b hi s F a b) := by kernel_rfl
theorem L7632x0s (env : Env) (F : Nat) (a : Int) (b : Int) (hi : Int) (s : Site) (fu : Nat) (i0 : Int) (i1 : Int) : L7632x0 env F a b hi s (fu + 1) i0 i1 =
  (bif (decide (i0 < i1)) then (tkOut (env 120 [(.int .i64 (IntKind.wrap .i64 (i0 + (IntKind.wrap .i64 (Int.tdiv (IntKind.wrap .i64 (i1 - i0)) (2 : Int)))))), (.rptr 1 1 (fun u9 => [(.fn (.func 118) [] [(.rptr 1 1 (fun u10 => [(pSite s)]) 0 0)])]) 0 0), (.rptr 1 1 (fun u9 => [(.int .i64 hi)]) 0 0)]) none (fun v9 => (tkBool v9 none fun b10 => (bif b10 then (L7632x0 env F a b hi s fu i0 (IntKind.wrap .i64 (i0 + (IntKind.wrap .i64 (Int.tdiv (IntKind.wrap .i64 (i1 - i0)) (2 : Int))))))
        else (L7632x0 env F a b hi s fu (IntKind.wrap .i64 ((IntKind.wrap .i64 (i0 + (IntKind.wrap .i64 (Int.tdiv (IntKind.wrap .i64 (i1 - i0)) (2 : Int))))) + (1 : Int))) i1))))
    (fun p9 => (tkIfc p9 none fun t10 x11 => (bif (flatP (.iface t10 x11)) then some (.pan (.iface t10 x11))
        else none))))
  else some (.ret (.int .i64 i0))) := by kernel_rfl

theorem t80 (env : Env) (F : Nat) (l : Sl Cav) (c : Cav) : (evFun Try.prog (cfg F) env 80 [(sl eCav 11 l), (.fn (.func 81) [] [(.rptr 1 11 (fun u4 => (eCav c)) 0 0)])]) =
  (tkOut (env 108 [(sl eCav 11 l), (.fn (.func 81) [] [(.rptr 1 11 (fun u4 => (eCav c)) 0 0)])]) none (fun v4 => (tkInt v4 none fun q5 n6 => (bif (decide (q5 = .i64)) then some (.ret (.bool (decide (n6 ≥ (0 : Int)))))
      else none)))
  (fun p4 => (tkIfc p4 none fun t5 x6 => (bif (flatP (.iface t5 x6)) then some (.pan (.iface t5 x6))
      else none)))) := by kernel_rfl

theorem t81 (env : Env) (F : Nat) (d : Cav) (c : Cav) : (evFun Try.prog (cfg F) env 81 [(.agg (eCav d)), (.rptr 1 11 (fun u4 => (eCav c)) 0 0)]) =
  (bif ((Cav.x d) == (Cav.x c)) then some (.ret (.bool ((Cav.y d) == (Cav.y c))))
  else some (.ret (.bool false))) := by kernel_rfl

theorem t82 (env : Env) (F : Nat) (l : Sl House) : (evFun Try.prog (cfg F) env 82 [(sl eHouse 3 l), (.fn (.func 83) [] [])]) =
  (tkOut (env 109 [(sl eHouse 3 l), (.fn (.func 83) [] [])]) none (fun v3 => (tkInt v3 none fun q4 n5 => (bif (decide (q4 = .i64)) then some (.ret (.bool (decide (n5 ≥ (0 : Int)))))
      else none)))
  (fun p3 => (tkIfc p3 none fun t4 x5 => (bif (flatP (.iface t4 x5)) then some (.pan (.iface t4 x5))
      else none)))) := by kernel_rfl

theorem t83 (env : Env) (F : Nat) (h : House) : (evFun Try.prog (cfg F) env 83 [(.agg (eHouse h))]) =
  (tkOut (env 52 [(.int .i64 (House.x h)), (.int .i64 (House.y h))]) none (fun v3 => (tkBool v3 none fun b4 => (bif (!b4) then some (.ret (.bool true))
      else (tkOut (env 72 [(.int .i64 (House.most h)), (.int .i64 (0 : Int)), (.int .i64 (1000000 : Int))]) none (fun v5 => (tkBool v5 none fun b6 => some (.ret (.bool (!b6)))))
        (fun p5 => (tkIfc p5 none fun t6 x7 => (bif (flatP (.iface t6 x7)) then some (.pan (.iface t6 x7))
            else none)))))))
  (fun p3 => (tkIfc p3 none fun t4 x5 => (bif (flatP (.iface t4 x5)) then some (.pan (.iface t4 x5))
      else none)))) := by kernel_rfl

theorem t84 (env : Env) (F : Nat) (l : Sl Stt) : (evFun Try.prog (cfg F) env 84 [(sl eStt 6 l), (.fn (.func 85) [] [])]) =
  (tkOut (env 110 [(sl eStt 6 l), (.fn (.func 85) [] [])]) none (fun v3 => (tkInt v3 none fun q4 n5 => (bif (decide (q4 = .i64)) then some (.ret (.bool (decide (n5 ≥ (0 : Int)))))
      else none)))
  (fun p3 => (tkIfc p3 none fun t4 x5 => (bif (flatP (.iface t4 x5)) then some (.pan (.iface t4 x5))
      else none)))) := by kernel_rfl

theorem t85 (env : Env) (F : Nat) (x : Stt) : (evFun Try.prog (cfg F) env 85 [(.agg (eStt x))]) =
  (tkOut (env 86 [(.agg (eStt x))]) none (fun v3 => (tkBool v3 none fun b4 => some (.ret (.bool (!b4)))))
  (fun p3 => (tkIfc p3 none fun t4 x5 => (bif (flatP (.iface t4 x5)) then some (.pan (.iface t4 x5))
      else none)))) := by kernel_rfl

theorem t86 (env : Env) (F : Nat) (x : Stt) : (evFun Try.prog (cfg F) env 86 [(.agg (eStt x))]) =
  (tkOut (env 74 [(.agg (eSpan (Stt.rad x))), (.int .i64 (400000 : Int))]) none (fun v3 => (tkBool v3 none fun b4 => (bif b4 then (tkOut (env 74 [(.agg (eSpan (Stt.vol x))), (.int .i64 (10000000 : Int))]) none (fun v5 => (tkBool v5 none fun b6 => (bif b6 then (tkOut (env 74 [(.agg (eSpan (Stt.lost x))), (.int .i64 (1000000000 : Int))]) none (fun v7 => (tkBool v7 none fun b8 => some (.ret (.bool b8))))
              (fun p7 => (tkIfc p7 none fun t8 x9 => (bif (flatP (.iface t8 x9)) then some (.pan (.iface t8 x9))
                  else none))))
            else some (.ret (.bool false)))))
        (fun p5 => (tkIfc p5 none fun t6 x7 => (bif (flatP (.iface t6 x7)) then some (.pan (.iface t6 x7))
            else none))))
      else some (.ret (.bool false)))))
  (fun p3 => (tkIfc p3 none fun t4 x5 => (bif (flatP (.iface t4 x5)) then some (.pan (.iface t4 x5))
      else none)))) := by kernel_rfl

theorem t87 (env : Env) (F : Nat) (l : Sl Span) (m : Int) (s : Site) : (evFun Try.prog (cfg F) env 87 [(sl eSpan 2 l), (.int .i64 m), (pSite s)]) =
  (bif ((((Sl.len l) : Nat) : Int) == (((Sl.len (Site.cavs s)) : Nat) : Int)) then (tkOut (env 88 [(sl eSpan 2 l), (.fn (.func 89) [] [(.rptr 1 1 (fun u5 => [(.int .i64 m)]) 0 0)])]) none (fun v5 => (tkBool v5 none fun b6 => some (.ret (.bool (!b6)))))
    (fun p5 => (tkIfc p5 none fun t6 x7 => (bif (flatP (.iface t6 x7)) then some (.pan (.iface t6 x7))
        else none))))
  else some (.ret (.bool false))) := by kernel_rfl

theorem t88 (env : Env) (F : Nat) (l : Sl Span) (m : Int) : (evFun Try.prog (cfg F) env 88 [(sl eSpan 2 l), (.fn (.func 89) [] [(.rptr 1 1 (fun u4 => [(.int .i64 m)]) 0 0)])]) =
  (tkOut (env 111 [(sl eSpan 2 l), (.fn (.func 89) [] [(.rptr 1 1 (fun u4 => [(.int .i64 m)]) 0 0)])]) none (fun v4 => (tkInt v4 none fun q5 n6 => (bif (decide (q5 = .i64)) then some (.ret (.bool (decide (n6 ≥ (0 : Int)))))
      else none)))
  (fun p4 => (tkIfc p4 none fun t5 x6 => (bif (flatP (.iface t5 x6)) then some (.pan (.iface t5 x6))
      else none)))) := by kernel_rfl

theorem t89 (env : Env) (F : Nat) (p : Span) (m : Int) : (evFun Try.prog (cfg F) env 89 [(.agg (eSpan p)), (.rptr 1 1 (fun u4 => [(.int .i64 m)]) 0 0)]) =
  (tkOut (env 74 [(.agg (eSpan p)), (.int .i64 m)]) none (fun v4 => (tkBool v4 none fun b5 => some (.ret (.bool (!b5)))))
  (fun p4 => (tkIfc p4 none fun t5 x6 => (bif (flatP (.iface t5 x6)) then some (.pan (.iface t5 x6))
      else none)))) := by kernel_rfl

noncomputable def L108x0 (env : Env) (F : Nat) (l : Sl Cav) (c : Cav) (fu : Nat) (i0 : Int) : Option Out := atLoop Try.prog (cfg F) env 108 [.r, .l, .r, .d] [] fu { tm := tmL 19 0 [(0, (sl eCav 11 l)), (1, (.fn (.func 81) [] [(.rptr 1 11 (fun u6 => (eCav c)) 0 0)])), (7, (.int .i64 (((Sl.len l) : Nat) : Int))), (8, (.int .i64 i0))], hp := [] }
theorem t108 (env : Env) (F : Nat) (l : Sl Cav) (c : Cav) : (evFun Try.prog (cfg F) env 108 [(sl eCav 11 l), (.fn (.func 81) [] [(.rptr 1 11 (fun u4 => (eCav c)) 0 0)])]) =
  (L108x0 env F l c F (0 : Int)) := by kernel_rfl
theorem L108x0s (env : Env) (F : Nat) (l : Sl Cav) (c : Cav) (fu : Nat) (i0 : Int) : L108x0 env F l c (fu + 1) i0 =
  (bif (decide (i0 < (((Sl.len l) : Nat) : Int))) then (bif (decide ((0 : Int) ≤ i0)) then (bif (decide (i0 < (((Sl.len l) : Nat) : Int))) then (tkOut (env 81 [(.agg (eCav (Sl.el l (Int.toNat i0)))), (.rptr 1 11 (fun u6 => (eCav c)) 0 0)]) none (fun v6 => (tkBool v6 none fun b7 => (bif b7 then some (.ret (.int .i64 i0))
            else (L108x0 env F l c fu (IntKind.wrap .i64 (i0 + (1 : Int)))))))
        (fun p6 => (tkIfc p6 none fun t7 x8 => (bif (flatP (.iface t7 x8)) then some (.pan (.iface t7 x8))
            else none))))
      else none)
    else none)
  else some (.ret (.int .i64 (-(1 : Int))))) := by kernel_rfl

noncomputable def L109x0 (env : Env) (F : Nat) (l : Sl House) (fu : Nat) (i0 : Int) : Option Out := atLoop Try.prog (cfg F) env 109 [.r, .l, .r, .d] [] fu { tm := tmL 19 0 [(0, (sl eHouse 3 l)), (1, (.fn (.func 83) [] [])), (7, (.int .i64 (((Sl.len l) : Nat) : Int))), (8, (.int .i64 i0))], hp := [] }
theorem t109 (env : Env) (F : Nat) (l : Sl House) : (evFun Try.prog (cfg F) env 109 [(sl eHouse 3 l), (.fn (.func 83) [] [])]) =
  (L109x0 env F l F (0 : Int)) := by kernel_rfl
theorem L109x0s (env : Env) (F : Nat) (l : Sl House) (fu : Nat) (i0 : Int) : L109x0 env F l (fu + 1) i0 =
  (bif (decide (i0 < (((Sl.len l) : Nat) : Int))) then (bif (decide ((0 : Int) ≤ i0)) then (bif (decide (i0 < (((Sl.len l) : Nat) : Int))) then (tkOut (env 83 [(.agg (eHouse (Sl.el l (Int.toNat i0))))]) none (fun v5 => (tkBool v5 none fun b6 => (bif b6 then some (.ret (.int .i64 i0))
            else (L109x0 env F l fu (IntKind.wrap .i64 (i0 + (1 : Int)))))))
        (fun p5 => (tkIfc p5 none fun t6 x7 => (bif (flatP (.iface t6 x7)) then some (.pan (.iface t6 x7))
            else none))))
      else none)
    else none)
  else some (.ret (.int .i64 (-(1 : Int))))) := by kernel_rfl

noncomputable def L110x0 (env : Env) (F : Nat) (l : Sl Stt) (fu : Nat) (i0 : Int) : Option Out := atLoop Try.prog (cfg F) env 110 [.r, .l, .r, .d] [] fu { tm := tmL 19 0 [(0, (sl eStt 6 l)), (1, (.fn (.func 85) [] [])), (7, (.int .i64 (((Sl.len l) : Nat) : Int))), (8, (.int .i64 i0))], hp := [] }
theorem t110 (env : Env) (F : Nat) (l : Sl Stt) : (evFun Try.prog (cfg F) env 110 [(sl eStt 6 l), (.fn (.func 85) [] [])]) =
  (L110x0 env F l F (0 : Int)) := by kernel_rfl
theorem L110x0s (env : Env) (F : Nat) (l : Sl Stt) (fu : Nat) (i0 : Int) : L110x0 env F l (fu + 1) i0 =
  (bif (decide (i0 < (((Sl.len l) : Nat) : Int))) then (bif (decide ((0 : Int) ≤ i0)) then (bif (decide (i0 < (((Sl.len l) : Nat) : Int))) then (tkOut (env 85 [(.agg (eStt (Sl.el l (Int.toNat i0))))]) none (fun v5 => (tkBool v5 none fun b6 => (bif b6 then some (.ret (.int .i64 i0))
            else (L110x0 env F l fu (IntKind.wrap .i64 (i0 + (1 : Int)))))))
        (fun p5 => (tkIfc p5 none fun t6 x7 => (bif (flatP (.iface t6 x7)) then some (.pan (.iface t6 x7))
            else none))))
      else none)
    else none)
  else some (.ret (.int .i64 (-(1 : Int))))) := by kernel_rfl

noncomputable def L111x0 (env : Env) (F : Nat) (l : Sl Span) (m : Int) (fu : Nat) (i0 : Int) : Option Out := atLoop Try.prog (cfg F) env 111 [.r, .l, .r, .d] [] fu { tm := tmL 19 0 [(0, (sl eSpan 2 l)), (1, (.fn (.func 89) [] [(.rptr 1 1 (fun u6 => [(.int .i64 m)]) 0 0)])), (7, (.int .i64 (((Sl.len l) : Nat) : Int))), (8, (.int .i64 i0))], hp := [] }
theorem t111 (env : Env) (F : Nat) (l : Sl Span) (m : Int) : (evFun Try.prog (cfg F) env 111 [(sl eSpan 2 l), (.fn (.func 89) [] [(.rptr 1 1 (fun u4 => [(.int .i64 m)]) 0 0)])]) =
  (L111x0 env F l m F (0 : Int)) := by kernel_rfl
theorem L111x0s (env : Env) (F : Nat) (l : Sl Span) (m : Int) (fu : Nat) (i0 : Int) : L111x0 env F l m (fu + 1) i0 =
  (bif (decide (i0 < (((Sl.len l) : Nat) : Int))) then (bif (decide ((0 : Int) ≤ i0)) then (bif (decide (i0 < (((Sl.len l) : Nat) : Int))) then (tkOut (env 89 [(.agg (eSpan (Sl.el l (Int.toNat i0)))), (.rptr 1 1 (fun u6 => [(.int .i64 m)]) 0 0)]) none (fun v6 => (tkBool v6 none fun b7 => (bif b7 then some (.ret (.int .i64 i0))
            else (L111x0 env F l m fu (IntKind.wrap .i64 (i0 + (1 : Int)))))))
        (fun p6 => (tkIfc p6 none fun t7 x8 => (bif (flatP (.iface t7 x8)) then some (.pan (.iface t7 x8))
            else none))))
      else none)
    else none)
  else some (.ret (.int .i64 (-(1 : Int))))) := by kernel_rfl

theorem t43 (env : Env) (F : Nat) (p : Span) (a : Int) (b : Int) : (evFun Try.prog (cfg F) env 43 [(.agg (eSpan p)), (.int .i64 a), (.int .i64 b)]) =
  (bif (decide ((Span.lo p) ≥ a)) then (bif (decide ((Span.lo p) ≤ (Span.hi p))) then some (.ret (.bool (decide ((Span.hi p) ≤ b))))
    else some (.ret (.bool false)))
  else some (.ret (.bool false))) := by kernel_rfl

theorem t55 (env : Env) (F : Nat) (p : Span) (q : Span) : (evFun Try.prog (cfg F) env 55 [(.agg (eSpan p)), (.agg (eSpan q))]) =
  (bif (decide ((Span.lo q) ≥ (Span.lo p))) then some (.ret (.bool (decide ((Span.hi q) ≥ (Span.hi p)))))
  else some (.ret (.bool false))) := by kernel_rfl

theorem t39 (env : Env) (F : Nat) (s : Site) (i : Int) : (evFun Try.prog (cfg F) env 39 [(.agg (eSite s)), (.int .i64 i)]) =
  (tkOut (env 54 [(.int .i64 i), (.int .i64 (0 : Int)), (.int .i64 (IntKind.wrap .i64 ((((Sl.len (Site.cavs s)) : Nat) : Int) - (1 : Int))))]) none (fun v4 => (tkBool v4 none fun b5 => some (.ret (.bool b5))))
  (fun p4 => (tkIfc p4 none fun t5 x6 => (bif (flatP (.iface t5 x6)) then some (.pan (.iface t5 x6))
      else none)))) := by kernel_rfl

theorem t70 (env : Env) (F : Nat) (s : Site) (c : Int) (p : Span) : (evFun Try.prog (cfg F) env 70 [(.agg (eSite s)), (.int .i64 c), (.agg (eSpan p))]) =
  (bif (decide ((0 : Int) ≤ c)) then (bif (decide (c < (((Sl.len (Site.cavs s)) : Nat) : Int))) then some (.ret (.agg [(.int .i64 (IntKind.wrap .i64 ((Cav.rock (Sl.el (Site.cavs s) (Int.toNat c))) - (Span.hi p)))), (.int .i64 (IntKind.wrap .i64 ((Cav.rock (Sl.el (Site.cavs s) (Int.toNat c))) - (Span.lo p))))]))
    else none)
  else none) := by kernel_rfl

theorem t103 (env : Env) (F : Nat) (p : Span) (b : Bool) : (evFun Try.prog (cfg F) env 103 [(.agg (eSpan p)), (.bool b)]) =
  (bif b then some (.ret (.int .i64 (Span.hi p)))
  else some (.ret (.int .i64 (Span.lo p)))) := by kernel_rfl

theorem t66 (env : Env) (F : Nat) (m : Cr.Mark) : (evFun Try.prog (cfg F) env 66 [(.agg (eMark m))]) =
  some (.ret (.bool (Mark.possible m))) := by kernel_rfl

theorem t67 (env : Env) (F : Nat) (m : Cr.Mark) : (evFun Try.prog (cfg F) env 67 [(.agg (eMark m))]) =
  some (.ret (.bool (Mark.certain m))) := by kernel_rfl

theorem t11 (env : Env) (F : Nat) (s : Site) : (evFun Try.prog (cfg F) env 11 [(.agg (eSite s))]) =
  (bif (decide ((((Sl.len (Site.cavs s)) : Nat) : Int) ≤ (10 : Int))) then (bif (decide ((((Sl.len (Site.rows s)) : Nat) : Int) ≤ (12 : Int))) then (bif (decide ((((Sl.len (Site.heats s)) : Nat) : Int) ≤ (12 : Int))) then (bif (decide ((((Sl.len (Site.rings s)) : Nat) : Int) ≤ (12 : Int))) then some (.ret (.bool (decide ((((Sl.len (Site.houses s)) : Nat) : Int) ≤ (10 : Int)))))
        else some (.ret (.bool false)))
      else some (.ret (.bool false)))
    else some (.ret (.bool false)))
  else some (.ret (.bool false))) := by kernel_rfl

end Go.Sim.Cr

/-
  What the small functions of the specification and of the program compute, in plain terms.
-/
namespace Go.Sim.Cr
open Go.Proofs

section
variable {R : Type}
theorem tkOut_ret (v : V) (f : R) (k kp : V → R) : tkOut (some (.ret v)) f k kp = k v := rfl
theorem tkOut_pan (v : V) (f : R) (k kp : V → R) : tkOut (some (.pan v)) f k kp = kp v := rfl
theorem tkBool_b (b : Bool) (f : R) (k : Bool → R) : tkBool (.bool b) f k = k b := rfl
theorem tkInt_i (q : IntKind) (n : Int) (f : R) (k : IntKind → Int → R) : tkInt (.int q n) f k = k q n := rfl
theorem tkAgg_a (l : List V) (f : R) (k : List V → R) : tkAgg (.agg l) f k = k l := rfl
theorem tkTup_t (l : List V) (f : R) (k : List V → R) : tkTup (.tup l) f k = k l := rfl
theorem tkRow_r (a : Bool) (n wd : Nat) (g : Nat → List V) (f : R) (k : Bool → Nat → Nat → (Nat → List V) → R) : tkRow (.row a n wd g) f k = k a n wd g := rfl
theorem tkCons_c (v : V) (l : List V) (f : R) (k : V → List V → R) : tkCons (v :: l) f k = k v l := rfl
theorem tkNil_n (f k : R) : tkNil [] f k = k := rfl
theorem tkIfc_i (t : TypeId) (v : V) (f : R) (k : TypeId → V → R) : tkIfc (.iface t v) f k = k t v := rfl
end
theorem cAnd (a b : Bool) : (bif a then some (Out.ret (.bool b)) else some (.ret (.bool false))) = some (.ret (.bool (a && b))) := by cases a <;> rfl
theorem cNand (a b : Bool) : (bif a then some (Out.ret (.bool false)) else some (.ret (.bool b))) = some (.ret (.bool (!a && b))) := by cases a <;> rfl
theorem cOr (a b : Bool) : (bif a then some (Out.ret (.bool true)) else some (.ret (.bool b))) = some (.ret (.bool (a || b))) := by cases a <;> rfl
theorem wr {n : Int} (h : -9223372036854775808 ≤ n ∧ n ≤ 9223372036854775807) : IntKind.i64.wrap n = n := by rw [IntKind.wrap_i64]; omega
theorem wrS {i : Nat} (h : i < 4611686018427387904) : IntKind.i64.wrap ((i : Int) + 1) = ((i + 1 : Nat) : Int) := by rw [wr (by omega)]; omega
theorem b2 {a b : Bool} (h : a = true ↔ b = true) : a = b := by cases a <;> cases b <;> simp_all
/-- More than any list that the laws look into. -/
abbrev Big : Nat := 4611686018427387904

abbrev SpanIn (p : Span) (a b : Int) : Prop := a ≤ p.lo ∧ p.lo ≤ p.hi ∧ p.hi ≤ b
abbrev Place (x y : Int) : Prop := (-10000 ≤ x ∧ x ≤ 10000) ∧ -10000 ≤ y ∧ y ≤ 10000
abbrev CavOk (c : Cav) : Prop := Place c.x c.y ∧ SpanIn c.rad 0 200000 ∧ SpanIn c.vol 0 10000000 ∧ (0 ≤ c.rock ∧ c.rock ≤ 50000) ∧ (0 ≤ c.floor ∧ c.floor ≤ 10000000) ∧ SpanIn c.gate 0 50000 ∧ (0 ≤ c.change ∧ c.change ≤ 50000)
abbrev SttOk (x : Stt) : Prop := SpanIn x.rad 0 400000 ∧ SpanIn x.vol 0 10000000 ∧ SpanIn x.lost 0 1000000000
abbrev HouseOk (h : House) : Prop := Place h.x h.y ∧ 0 ≤ h.most ∧ h.most ≤ 1000000

variable (F d : Nat)
theorem s54 (x y z : Int) : E F (d + 1) 54 [.int .i64 x, .int .i64 y, .int .i64 z] = some (.ret (.bool (decide (y ≤ x ∧ x ≤ z)))) := by
  rw [E_succ, t54]; simp only [cAnd, Bool.decide_and, ge_iff_le]
theorem s72 (x y z : Int) : E F (d + 1) 72 [.int .i64 x, .int .i64 y, .int .i64 z] = some (.ret (.bool (decide (y ≤ x ∧ x ≤ z)))) := by
  rw [E_succ, t72]; simp only [cAnd, Bool.decide_and, ge_iff_le]
theorem s18 (x y : Int) : E F (d + 2) 18 [.int .i64 x, .int .i64 y] = some (.ret (.bool (decide (Place x y)))) := by
  rw [E_succ, t18]; simp only [s54, tkOut_ret, tkBool_b, cAnd, Bool.decide_and]
theorem s52 (x y : Int) : E F (d + 2) 52 [.int .i64 x, .int .i64 y] = some (.ret (.bool (decide (Place x y)))) := by
  rw [E_succ, t52]; simp only [s72, tkOut_ret, tkBool_b, cAnd, Bool.decide_and]
theorem s74 (p : Span) (n : Int) : E F (d + 1) 74 [.agg (eSpan p), .int .i64 n] = some (.ret (.bool (decide (SpanIn p 0 n)))) := by
  rw [E_succ, t74]; simp only [cAnd, Bool.decide_and, ge_iff_le]
theorem s43 (p : Span) (a n : Int) : E F (d + 1) 43 [.agg (eSpan p), .int .i64 a, .int .i64 n] = some (.ret (.bool (decide (SpanIn p a n)))) := by
  rw [E_succ, t43]; simp only [cAnd, Bool.decide_and, ge_iff_le]
theorem s28 (n : Int) (p : Span) : E F (d + 1) 28 [.int .i64 n, .agg (eSpan p)] = some (.ret (.bool (decide (p.lo ≤ n ∧ n ≤ p.hi)))) := by
  rw [E_succ, t28]; simp only [cAnd, Bool.decide_and, ge_iff_le]
theorem s35 (p q : Span) : E F (d + 1) 35 [.agg (eSpan p), .agg (eSpan q)] = some (.ret (.bool (decide (q.lo ≤ p.lo ∧ p.hi ≤ q.hi)))) := by
  rw [E_succ, t35]; simp only [cAnd, Bool.decide_and, ge_iff_le]
theorem s55 (p q : Span) : E F (d + 1) 55 [.agg (eSpan p), .agg (eSpan q)] = some (.ret (.bool (decide (p.lo ≤ q.lo ∧ p.hi ≤ q.hi)))) := by
  rw [E_succ, t55]; simp only [cAnd, Bool.decide_and, ge_iff_le]
theorem s107 (p q : Span) : E F (d + 1) 107 [.agg (eSpan p), .agg (eSpan q)] = some (.ret (.bool (decide (q.lo ≤ p.lo ∧ q.hi ≤ p.hi)))) := by
  rw [E_succ, t107]; simp only [cAnd, Bool.decide_and, ge_iff_le]
theorem s79 (c : Cav) : E F (d + 3) 79 [.agg (eCav c)] = some (.ret (.bool (decide (CavOk c)))) := by
  rw [E_succ, t79]; simp only [s72, s52, s74, tkOut_ret, tkBool_b, cAnd, Bool.decide_and]
theorem s81 (x c : Cav) : E F (d + 1) 81 [.agg (eCav x), .rptr 1 11 (fun _ => eCav c) 0 0] = some (.ret (.bool (decide (x.x = c.x ∧ x.y = c.y)))) := by
  rw [E_succ, t81]; simp only [cAnd, Bool.decide_and, ge_iff_le]; rfl
theorem s83 (h : House) : E F (d + 3) 83 [.agg (eHouse h)] = some (.ret (.bool (!decide (HouseOk h)))) := by
  rw [E_succ, t83]; simp only [s52, s72, tkOut_ret, tkBool_b, cOr, Bool.decide_and, Bool.not_and]
theorem s86 (x : Stt) : E F (d + 2) 86 [.agg (eStt x)] = some (.ret (.bool (decide (SttOk x)))) := by
  rw [E_succ, t86]; simp only [s74, tkOut_ret, tkBool_b, cAnd, Bool.decide_and]
theorem s85 (x : Stt) : E F (d + 3) 85 [.agg (eStt x)] = some (.ret (.bool (!decide (SttOk x)))) := by
  rw [E_succ, t85]; simp only [s86, tkOut_ret, tkBool_b]
theorem s89 (p : Span) (m : Int) : E F (d + 2) 89 [.agg (eSpan p), .rptr 1 1 (fun _ => [.int .i64 m]) 0 0] = some (.ret (.bool (!decide (SpanIn p 0 m)))) := by
  rw [E_succ, t89]; simp only [s74, tkOut_ret, tkBool_b]

/-- The first index from 'i' on, of so many, of which something holds; -1, if there is none. -/
def ixF (p : Nat → Bool) : Nat → Nat → Int
  | 0, _ => -1
  | n + 1, i => bif p i then (i : Int) else ixF p n (i + 1)
theorem ixF_ge (p : Nat → Bool) : ∀ n i, 0 ≤ ixF p n i ↔ ∃ k, i ≤ k ∧ k < i + n ∧ p k = true := by
  intro n
  induction n with
  | zero => intro i; simp only [ixF]; constructor <;> intro h
            · omega
            · obtain ⟨k, h1, h2, _⟩ := h; omega
  | succ n ih =>
    intro i
    simp only [ixF]
    cases h : p i
    · rw [cond_false, ih]
      constructor
      · rintro ⟨k, h1, h2, h3⟩; exact ⟨k, by omega, by omega, h3⟩
      · rintro ⟨k, h1, h2, h3⟩
        refine ⟨k, ?_, by omega, h3⟩
        rcases Nat.eq_or_lt_of_le h1 with rfl | h4
        · rw [h] at h3; cases h3
        · omega
    · rw [cond_true]
      exact ⟨fun _ => ⟨i, by omega, by omega, h⟩, fun _ => by omega⟩
theorem l108 (l : Sl Cav) (c : Cav) (hB : l.len < Big) : ∀ n i fu, l.len = i + n → n < fu →
    L108x0 (E F (d + 1)) F l c fu (i : Int) = some (.ret (.int .i64 (ixF (fun k => decide ((l.el k).x = c.x ∧ (l.el k).y = c.y)) n i))) := by
  intro n
  induction n with
  | zero =>
    intro i fu h hf
    obtain ⟨fu, rfl⟩ : ∃ k, fu = k + 1 := ⟨fu - 1, by omega⟩
    rw [L108x0s]
    simp only [Int.ofNat_lt, show ¬ i < l.len by omega, decide_false, cond_false, ixF]
  | succ n ih =>
    intro i fu h hf
    obtain ⟨fu, rfl⟩ : ∃ k, fu = k + 1 := ⟨fu - 1, by omega⟩
    rw [L108x0s]
    simp only [Int.ofNat_lt, show i < l.len by omega, decide_true, cond_true, Int.natCast_nonneg, Int.toNat_natCast, s81, tkOut_ret, tkBool_b, wrS (show i < Big by omega), ih (i + 1) fu (by omega) (by omega), ixF]
    cases decide ((l.el i).x = c.x ∧ (l.el i).y = c.y) <;> rfl
end Go.Sim.Cr

/-
  What the evaluator says of these functions (printed by a private program; each row is checked by the kernel).
-/
set_option maxRecDepth 100000
namespace Go.Sim.Cr
open Go.Proofs

theorem t49 (env : Env) (F : Nat) (s : Site) (l : Sl Stt) : (evFun Try.prog (cfg F) env 49 [(.agg (eSite s)), (sl eStt 6 l)]) =
  (bif ((((Sl.len l) : Nat) : Int) == (((Sl.len (Site.cavs s)) : Nat) : Int)) then (tkOut (env 84 [(sl eStt 6 l), (.fn (.func 85) [] [])]) none (fun v4 => (tkBool v4 none fun b5 => some (.ret (.bool (!b5)))))
    (fun p4 => (tkIfc p4 none fun t5 x6 => (bif (flatP (.iface t5 x6)) then some (.pan (.iface t5 x6))
        else none))))
  else some (.ret (.bool false))) := by kernel_rfl

theorem t50 (env : Env) (F : Nat) (s : Site) (d : Day) : (evFun Try.prog (cfg F) env 50 [(.agg (eSite s)), (.agg (eDay d))]) =
  (tkOut (env 87 [(sl eSpan 2 (Day.press d)), (.int .i64 (50000 : Int)), (.rptr 1 (((((1 + 1) + 1) + 1) + 1) + 1) (fun u4 => (eSite s)) 0 0)]) none (fun v4 => (tkBool v4 none fun b5 => (bif b5 then (tkOut (env 87 [(sl eSpan 2 (Day.warm d)), (.int .i64 (10000 : Int)), (.rptr 1 (((((1 + 1) + 1) + 1) + 1) + 1) (fun u6 => (eSite s)) 0 0)]) none (fun v6 => (tkBool v6 none fun b7 => some (.ret (.bool b7))))
        (fun p6 => (tkIfc p6 none fun t7 x8 => (bif (flatP (.iface t7 x8)) then some (.pan (.iface t7 x8))
            else none))))
      else some (.ret (.bool false)))))
  (fun p4 => (tkIfc p4 none fun t5 x6 => (bif (flatP (.iface t5 x6)) then some (.pan (.iface t5 x6))
      else none)))) := by kernel_rfl

noncomputable def L12x0 (env : Env) (F : Nat) (l : Sl Day) (most : Int) (fu : Nat) (i0 : Int) : Option Out := atLoop Try.prog (cfg F) env 12 [.r, .l, .r, .d] [] fu { tm := tmL 42 0 [(0, (sl eDay 2 l)), (1, (.int .i64 most)), (5, (.int .i64 i0))], hp := [] }
theorem t12 (env : Env) (F : Nat) (l : Sl Day) (most : Int) : (evFun Try.prog (cfg F) env 12 [(sl eDay 2 l), (.int .i64 most)]) =
  (L12x0 env F l most F (0 : Int)) := by kernel_rfl
theorem L12x0s (env : Env) (F : Nat) (l : Sl Day) (most : Int) (fu : Nat) (i0 : Int) : L12x0 env F l most (fu + 1) i0 =
  (bif (decide (i0 < (((Sl.len l) : Nat) : Int))) then (bif (decide ((0 : Int) ≤ i0)) then (bif (decide (i0 < (((Sl.len l) : Nat) : Int))) then (bif (decide ((((Sl.len (Day.press (Sl.el l (Int.toNat i0)))) : Nat) : Int) > (10 : Int))) then some (.ret (.bool false))
        else (bif (decide ((0 : Int) ≤ i0)) then (bif (decide (i0 < (((Sl.len l) : Nat) : Int))) then (bif (decide ((((Sl.len (Day.warm (Sl.el l (Int.toNat i0)))) : Nat) : Int) > (10 : Int))) then some (.ret (.bool false))
              else (L12x0 env F l most fu (IntKind.wrap .i64 (i0 + (1 : Int)))))
            else none)
          else none))
      else none)
    else none)
  else (bif (decide ((((Sl.len l) : Nat) : Int) ≤ most)) then some (.ret (.bool true))
    else (bif (decide ((((Sl.len l) : Nat) : Int) > (60 : Int))) then some (.ret (.bool (decide ((((Sl.len l) : Nat) : Int) ≤ (65 : Int)))))
      else some (.ret (.bool false))))) := by kernel_rfl

theorem t14 (env : Env) (F : Nat) (s : Site) (l : Sl Stt) (d : Day) : (evFun Try.prog (cfg F) env 14 [(.agg (eSite s)), (sl eStt 6 l), (.agg (eDay d))]) =
  (tkOut (env 48 [(.agg (eSite s))]) none (fun v5 => (tkBool v5 none fun b6 => (bif (!b6) then some (.ret (.tup [(.row true 0 0 (fun u7 => [])), (.int .i64 (2 : Int))]))
      else (tkOut (env 49 [(.agg (eSite s)), (sl eStt 6 l)]) none (fun v7 => (tkBool v7 none fun b8 => (bif (!b8) then some (.ret (.tup [(.row true 0 0 (fun u9 => [])), (.int .i64 (2 : Int))]))
            else (tkOut (env 50 [(.agg (eSite s)), (.agg [(sl eSpan 2 (Day.press d)), (sl eSpan 2 (Day.warm d))])]) none (fun v9 => (tkBool v9 none fun b10 => (bif (!b10) then some (.ret (.tup [(.row true 0 0 (fun u11 => [])), (.int .i64 (2 : Int))]))
                  else (tkOut (env 51 [(.rptr 1 (((((1 + 1) + 1) + 1) + 1) + 1) (fun u11 => (eSite s)) 0 0), (sl eStt 6 l), (.agg [(sl eSpan 2 (Day.press d)), (sl eSpan 2 (Day.warm d))])]) none (fun v11 => (tkTup v11 none fun l12 => (tkCons l12 none fun v13 r14 => (tkRow v13 none fun nl15 n16 wd17 g18 => (tkCons r14 none fun v19 r20 => (tkBool v19 none fun b21 => (tkNil r20 none (bif (!b21) then some (.ret (.tup [(.row true 0 0 (fun u22 => [])), (.int .i64 (7 : Int))]))
                                  else some (.ret (.tup [(.row nl15 n16 wd17 g18), (.int .i64 (0 : Int))]))))))))))
                    (fun p11 => (tkIfc p11 none fun t12 x13 => (bif (flatP (.iface t12 x13)) then some (.pan (.iface t12 x13))
                        else none)))))))
              (fun p9 => (tkIfc p9 none fun t10 x11 => (bif (flatP (.iface t10 x11)) then some (.pan (.iface t10 x11))
                  else none)))))))
        (fun p7 => (tkIfc p7 none fun t8 x9 => (bif (flatP (.iface t8 x9)) then some (.pan (.iface t8 x9))
            else none)))))))
  (fun p5 => (tkIfc p5 none fun t6 x7 => (bif (flatP (.iface t6 x7)) then some (.pan (.iface t6 x7))
      else none)))) := by kernel_rfl

theorem t15 (env : Env) (F : Nat) (s : Site) (l : Sl Stt) (x : Int) (y : Int) : (evFun Try.prog (cfg F) env 15 [(.agg (eSite s)), (sl eStt 6 l), (.int .i64 x), (.int .i64 y)]) =
  (tkOut (env 48 [(.agg (eSite s))]) none (fun v6 => (tkBool v6 none fun b7 => (bif (!b7) then some (.ret (.tup [(.agg [(.int .i64 (0 : Int)), (.int .i64 (0 : Int))]), (.int .i64 (2 : Int))]))
      else (tkOut (env 49 [(.agg (eSite s)), (sl eStt 6 l)]) none (fun v8 => (tkBool v8 none fun b9 => (bif (!b9) then some (.ret (.tup [(.agg [(.int .i64 (0 : Int)), (.int .i64 (0 : Int))]), (.int .i64 (2 : Int))]))
            else (tkOut (env 52 [(.int .i64 x), (.int .i64 y)]) none (fun v10 => (tkBool v10 none fun b11 => (bif (!b11) then some (.ret (.tup [(.agg [(.int .i64 (0 : Int)), (.int .i64 (0 : Int))]), (.int .i64 (2 : Int))]))
                  else (tkOut (env 53 [(.rptr 1 (((((1 + 1) + 1) + 1) + 1) + 1) (fun u12 => (eSite s)) 0 0), (sl eStt 6 l), (.int .i64 x), (.int .i64 y)]) none (fun v12 => (tkAgg v12 none fun l13 => (tkCons l13 none fun v14 r15 => (tkInt v14 none fun q16 n17 => (tkCons r15 none fun v18 r19 => (tkInt v18 none fun q20 n21 => (tkNil r19 none (some (.ret (.tup [(.agg [(.int q16 n17), (.int q20 n21)]), (.int .i64 (0 : Int))]))))))))))
                    (fun p12 => (tkIfc p12 none fun t13 x14 => (bif (flatP (.iface t13 x14)) then some (.pan (.iface t13 x14))
                        else none)))))))
              (fun p10 => (tkIfc p10 none fun t11 x12 => (bif (flatP (.iface t11 x12)) then some (.pan (.iface t11 x12))
                  else none)))))))
        (fun p8 => (tkIfc p8 none fun t9 x10 => (bif (flatP (.iface t9 x10)) then some (.pan (.iface t9 x10))
            else none)))))))
  (fun p6 => (tkIfc p6 none fun t7 x8 => (bif (flatP (.iface t7 x8)) then some (.pan (.iface t7 x8))
      else none)))) := by kernel_rfl

noncomputable def L17x0 (env : Env) (F : Nat) (s : Site) (l : Sl Stt) (fu : Nat) (i0 : Int) : Option Out := atLoop Try.prog (cfg F) env 17 [.r, .l, .r, .d] [] fu { tm := tmL 43 0 [(1, (sl eStt 6 l)), (2, (.optr 0 0 0)), (5, (.int .i64 i0))], hp := [(.box 28 (eSite s) true)] }
theorem t17 (env : Env) (F : Nat) (s : Site) (l : Sl Stt) : (evFun Try.prog (cfg F) env 17 [(.agg (eSite s)), (sl eStt 6 l)]) =
  (L17x0 env F s l F (0 : Int)) := by kernel_rfl
theorem L17x0s (env : Env) (F : Nat) (s : Site) (l : Sl Stt) (fu : Nat) (i0 : Int) : L17x0 env F s l (fu + 1) i0 =
  (bif (decide (i0 < (((Sl.len l) : Nat) : Int))) then (bif (decide ((0 : Int) ≤ i0)) then (bif (decide (i0 < (((Sl.len l) : Nat) : Int))) then (tkOut (env 43 [(.agg (eSpan (Stt.rad (Sl.el l (Int.toNat i0))))), (.int .i64 (0 : Int)), (.int .i64 (400000 : Int))]) none (fun v6 => (tkBool v6 none fun b7 => (bif (!b7) then some (.ret (.bool false))
            else (bif (decide ((0 : Int) ≤ i0)) then (bif (decide (i0 < (((Sl.len l) : Nat) : Int))) then (tkOut (env 43 [(.agg (eSpan (Stt.vol (Sl.el l (Int.toNat i0))))), (.int .i64 (0 : Int)), (.int .i64 (10000000 : Int))]) none (fun v8 => (tkBool v8 none fun b9 => (bif (!b9) then some (.ret (.bool false))
                      else (bif (decide ((0 : Int) ≤ i0)) then (bif (decide (i0 < (((Sl.len l) : Nat) : Int))) then (tkOut (env 43 [(.agg (eSpan (Stt.lost (Sl.el l (Int.toNat i0))))), (.int .i64 (0 : Int)), (.int .i64 (1000000000 : Int))]) none (fun v10 => (tkBool v10 none fun b11 => (bif (!b11) then some (.ret (.bool false))
                                else (L17x0 env F s l fu (IntKind.wrap .i64 (i0 + (1 : Int)))))))
                            (fun p10 => (tkIfc p10 none fun t11 x12 => (bif (flatP (.iface t11 x12)) then some (.pan (.iface t11 x12))
                                else none))))
                          else none)
                        else none))))
                  (fun p8 => (tkIfc p8 none fun t9 x10 => (bif (flatP (.iface t9 x10)) then some (.pan (.iface t9 x10))
                      else none))))
                else none)
              else none))))
        (fun p6 => (tkIfc p6 none fun t7 x8 => (bif (flatP (.iface t7 x8)) then some (.pan (.iface t7 x8))
            else none))))
      else none)
    else none)
  else some (.ret (.bool ((((Sl.len l) : Nat) : Int) == (((Sl.len (Site.cavs s)) : Nat) : Int))))) := by kernel_rfl

noncomputable def L20x0 (env : Env) (F : Nat) (s : Site) (d : Day) (fu : Nat) (i0 : Int) : Option Out := atLoop Try.prog (cfg F) env 20 [.r, .r, .l, .r, .d] [] fu { tm := tmL 45 0 [(2, (.optr 0 0 0)), (3, (.optr 1 0 0)), (5, (.int .i64 i0))], hp := [(.box 28 (eSite s) true), (.box 32 [(sl eSpan 2 (Day.press d)), (sl eSpan 2 (Day.warm d))] true)] }
theorem t20 (env : Env) (F : Nat) (s : Site) (d : Day) : (evFun Try.prog (cfg F) env 20 [(.agg (eSite s)), (.agg (eDay d))]) =
  (bif ((((Sl.len (Day.press d)) : Nat) : Int) != (((Sl.len (Site.cavs s)) : Nat) : Int)) then some (.ret (.bool false))
  else (bif ((((Sl.len (Day.warm d)) : Nat) : Int) != (((Sl.len (Site.cavs s)) : Nat) : Int)) then some (.ret (.bool false))
    else (L20x0 env F s d F (0 : Int)))) := by kernel_rfl
theorem L20x0s (env : Env) (F : Nat) (s : Site) (d : Day) (fu : Nat) (i0 : Int) : L20x0 env F s d (fu + 1) i0 =
  (bif (decide (i0 < (((Sl.len (Site.cavs s)) : Nat) : Int))) then (bif (decide ((0 : Int) ≤ i0)) then (bif (decide (i0 < (((Sl.len (Day.press d)) : Nat) : Int))) then (tkOut (env 43 [(.agg (eSpan (Sl.el (Day.press d) (Int.toNat i0)))), (.int .i64 (0 : Int)), (.int .i64 (50000 : Int))]) none (fun v6 => (tkBool v6 none fun b7 => (bif (!b7) then some (.ret (.bool false))
            else (bif (decide ((0 : Int) ≤ i0)) then (bif (decide (i0 < (((Sl.len (Day.warm d)) : Nat) : Int))) then (tkOut (env 43 [(.agg (eSpan (Sl.el (Day.warm d) (Int.toNat i0)))), (.int .i64 (0 : Int)), (.int .i64 (10000 : Int))]) none (fun v8 => (tkBool v8 none fun b9 => (bif (!b9) then some (.ret (.bool false))
                      else (L20x0 env F s d fu (IntKind.wrap .i64 (i0 + (1 : Int)))))))
                  (fun p8 => (tkIfc p8 none fun t9 x10 => (bif (flatP (.iface t9 x10)) then some (.pan (.iface t9 x10))
                      else none))))
                else none)
              else none))))
        (fun p6 => (tkIfc p6 none fun t7 x8 => (bif (flatP (.iface t7 x8)) then some (.pan (.iface t7 x8))
            else none))))
      else none)
    else none)
  else some (.ret (.bool true))) := by kernel_rfl

noncomputable def L57x0 (env : Env) (F : Nat) (s : Site) (fu : Nat) : Option Out := atLoop Try.prog (cfg F) env 57 [.r, .r, .l, .r, .d] [] fu { tm := tmL 26 0 [(3, (.row true 0 0 (fun u4 => []))), (10, (sl eCav 11 (Site.cavs s))), (11, (.int .i64 (((Sl.len (Site.cavs s)) : Nat) : Int))), (12, (.int .i64 (0 : Int)))], hp := [] }
noncomputable def L57x1 (env : Env) (F : Nat) (s : Site) (fu : Nat) (k0 : Nat) (i1 : Int) (k2 : Nat) (g3 : Nat → List V) : Option Out := atLoop Try.prog (cfg F) env 57 [.r, .r, .l, .r, .d] [] fu { tm := tmL 26 0 [(3, (.osl 0 0 k0)), (10, (sl eCav 11 (Site.cavs s))), (11, (.int .i64 (((Sl.len (Site.cavs s)) : Nat) : Int))), (12, (.int .i64 i1))], hp := [(.arr 65 6 k2 g3 true)] }
theorem t57 (env : Env) (F : Nat) (s : Site) : (evFun Try.prog (cfg F) env 57 [(pSite s)]) =
  (L57x0 env F s F) := by kernel_rfl
theorem L57x0s (env : Env) (F : Nat) (s : Site) (fu : Nat) : L57x0 env F s (fu + 1) =
  (bif (decide ((0 : Int) < (((Sl.len (Site.cavs s)) : Nat) : Int))) then (bif (decide ((0 : Int) < (((Sl.len (Site.cavs s)) : Nat) : Int))) then (L57x1 env F s fu 1 (IntKind.wrap .i64 ((0 : Int) + (1 : Int))) 1 (fun u4 => [(.int .i64 (Span.lo (Cav.rad (Sl.el (Site.cavs s) 0)))), (.int .i64 (Span.hi (Cav.rad (Sl.el (Site.cavs s) 0)))), (.int .i64 (Span.lo (Cav.vol (Sl.el (Site.cavs s) 0)))), (.int .i64 (Span.hi (Cav.vol (Sl.el (Site.cavs s) 0)))), (.int .i64 (0 : Int)), (.int .i64 (0 : Int))]))
    else none)
  else some (.ret (.row true 0 0 (fun u4 => [])))) := by kernel_rfl
theorem L57x1s (env : Env) (F : Nat) (s : Site) (fu : Nat) (k0 : Nat) (i1 : Int) (k2 : Nat) (g3 : Nat → List V) : L57x1 env F s (fu + 1) k0 i1 k2 g3 =
  (bif (decide (i1 < (((Sl.len (Site.cavs s)) : Nat) : Int))) then (bif (decide ((0 : Int) ≤ i1)) then (bif (decide (i1 < (((Sl.len (Site.cavs s)) : Nat) : Int))) then (bif (decide (((k0 + 1) * 48) ≤ 140737488355328)) then (L57x1 env F s fu (k0 + 1) (IntKind.wrap .i64 (i1 + (1 : Int))) (k0 + 1) (appGet k0 g3 (fun u8 => [(.int .i64 (Span.lo (Cav.rad (Sl.el (Site.cavs s) (Int.toNat i1))))), (.int .i64 (Span.hi (Cav.rad (Sl.el (Site.cavs s) (Int.toNat i1))))), (.int .i64 (Span.lo (Cav.vol (Sl.el (Site.cavs s) (Int.toNat i1))))), (.int .i64 (Span.hi (Cav.vol (Sl.el (Site.cavs s) (Int.toNat i1))))), (.int .i64 (0 : Int)), (.int .i64 (0 : Int))])))
        else none)
      else none)
    else none)
  else some (.ret (.row false k0 6 (fun u8 => (g3 u8))))) := by kernel_rfl

noncomputable def L29x0 (env : Env) (F : Nat) (s : Site) (c : Int) (x : Int) (y : Int) (fu : Nat) (i0 : Int) : Option Out := atLoop Try.prog (cfg F) env 29 [.r, .r, .l, .r, .d] [] fu { tm := tmL 61 0 [(4, (.optr 0 0 0)), (8, (.optr 1 0 0)), (10, (.int .i64 (IntKind.wrap .i64 ((Cav.x (Sl.el (Site.cavs s) (Int.toNat c))) - x)))), (11, (.int .i64 (IntKind.wrap .i64 ((Cav.y (Sl.el (Site.cavs s) (Int.toNat c))) - y)))), (12, (.int .i64 i0))], hp := [(.box 28 (eSite s) true), (.box 41 [(.int .i64 (0 : Int)), (.int .i64 (0 : Int))] true)] }
theorem t29 (env : Env) (F : Nat) (s : Site) (c : Int) (x : Int) (y : Int) : (evFun Try.prog (cfg F) env 29 [(.agg (eSite s)), (.int .i64 c), (.int .i64 x), (.int .i64 y)]) =
  (bif (decide ((0 : Int) ≤ c)) then (bif (decide (c < (((Sl.len (Site.cavs s)) : Nat) : Int))) then (bif (decide ((0 : Int) ≤ c)) then (bif (decide (c < (((Sl.len (Site.cavs s)) : Nat) : Int))) then (L29x0 env F s c x y F (0 : Int))
        else none)
      else none)
    else none)
  else none) := by kernel_rfl
theorem L29x0s (env : Env) (F : Nat) (s : Site) (c : Int) (x : Int) (y : Int) (fu : Nat) (i0 : Int) : L29x0 env F s c x y (fu + 1) i0 =
  (bif (decide (i0 < (((Sl.len (Site.rings s)) : Nat) : Int))) then (bif (decide ((0 : Int) ≤ i0)) then (bif (decide (i0 < (((Sl.len (Site.rings s)) : Nat) : Int))) then (bif (decide ((IntKind.wrap .i64 ((Ring.away (Sl.el (Site.rings s) (Int.toNat i0))) * (Ring.away (Sl.el (Site.rings s) (Int.toNat i0))))) ≥ (IntKind.wrap .i64 ((IntKind.wrap .i64 ((IntKind.wrap .i64 ((Cav.x (Sl.el (Site.cavs s) (Int.toNat c))) - x)) * (IntKind.wrap .i64 ((Cav.x (Sl.el (Site.cavs s) (Int.toNat c))) - x)))) + (IntKind.wrap .i64 ((IntKind.wrap .i64 ((Cav.y (Sl.el (Site.cavs s) (Int.toNat c))) - y)) * (IntKind.wrap .i64 ((Cav.y (Sl.el (Site.cavs s) (Int.toNat c))) - y)))))))) then (bif (decide ((0 : Int) ≤ i0)) then (bif (decide (i0 < (((Sl.len (Site.rings s)) : Nat) : Int))) then some (.ret (.tup [(.agg (eSpan (Ring.share (Sl.el (Site.rings s) (Int.toNat i0))))), (.bool true)]))
            else none)
          else none)
        else (L29x0 env F s c x y fu (IntKind.wrap .i64 (i0 + (1 : Int)))))
      else none)
    else none)
  else some (.ret (.tup [(.agg [(.int .i64 (0 : Int)), (.int .i64 (0 : Int))]), (.bool false)]))) := by kernel_rfl

noncomputable def L53x0 (env : Env) (F : Nat) (s : Site) (l : Sl Stt) (x : Int) (y : Int) (fu : Nat) (i0 : Int) (i1 : Int) (i2 : Int) : Option Out := atLoop Try.prog (cfg F) env 53 [.r, .r, .l, .r, .d] [] fu { tm := tmL 57 0 [(0, (pSite s)), (2, (.int .i64 x)), (3, (.int .i64 y)), (8, (.optr 0 0 0)), (9, (.optr 1 0 0)), (13, (sl eStt 6 l)), (14, (.int .i64 (((Sl.len l) : Nat) : Int))), (15, (.int .i64 i0))], hp := [(.box 41 [(.int .i64 (0 : Int)), (.int .i64 (0 : Int))] true), (.box 41 [(.int .i64 i1), (.int .i64 i2)] true)] }
theorem t53 (env : Env) (F : Nat) (s : Site) (l : Sl Stt) (x : Int) (y : Int) : (evFun Try.prog (cfg F) env 53 [(pSite s), (sl eStt 6 l), (.int .i64 x), (.int .i64 y)]) =
  (L53x0 env F s l x y F (0 : Int) (0 : Int) (0 : Int)) := by kernel_rfl
theorem L53x0s (env : Env) (F : Nat) (s : Site) (l : Sl Stt) (x : Int) (y : Int) (fu : Nat) (i0 : Int) (i1 : Int) (i2 : Int) : L53x0 env F s l x y (fu + 1) i0 i1 i2 =
  (bif (decide (i0 < (((Sl.len l) : Nat) : Int))) then (bif (decide ((0 : Int) ≤ i0)) then (bif (decide (i0 < (((Sl.len l) : Nat) : Int))) then (bif (decide ((0 : Int) ≤ i0)) then (bif (decide (i0 < (((Sl.len (Site.cavs s)) : Nat) : Int))) then (tkOut (env 92 [(pSite s), (.agg (eCav (Sl.el (Site.cavs s) (Int.toNat i0)))), (.int .i64 x), (.int .i64 y)]) none (fun v10 => (tkAgg v10 none fun l11 => (tkCons l11 none fun v12 r13 => (tkInt v12 none fun q14 n15 => (tkCons r13 none fun v16 r17 => (tkInt v16 none fun q18 n19 => (tkNil r17 none (bif (decide (.i64 = q14)) then (bif (decide (.i64 = q18)) then (L53x0 env F s l x y fu (IntKind.wrap .i64 (i0 + (1 : Int))) (IntKind.wrap .i64 (i1 + (IntKind.wrap .i64 (Int.tdiv (IntKind.wrap .i64 ((Span.lo (Stt.lost (Sl.el l (Int.toNat i0)))) * n15)) (1000000 : Int))))) (IntKind.wrap .i64 (i2 + (IntKind.wrap .i64 (Int.tdiv (IntKind.wrap .i64 ((IntKind.wrap .i64 ((Span.hi (Stt.lost (Sl.el l (Int.toNat i0)))) * n19)) + (999999 : Int))) (1000000 : Int))))))
                            else none)
                          else none))))))))
            (fun p10 => (tkIfc p10 none fun t11 x12 => (bif (flatP (.iface t11 x12)) then some (.pan (.iface t11 x12))
                else none))))
          else none)
        else none)
      else none)
    else none)
  else some (.ret (.agg [(.int .i64 i1), (.int .i64 i2)]))) := by kernel_rfl

noncomputable def L92x0 (env : Env) (F : Nat) (s : Site) (c : Cav) (x : Int) (y : Int) (fu : Nat) (i0 : Int) : Option Out := atLoop Try.prog (cfg F) env 92 [.r, .r, .l, .r, .d] [] fu { tm := tmL 48 0 [(8, (.optr 0 0 0)), (9, (.int .i64 (IntKind.wrap .i64 ((Cav.x c) - x)))), (10, (.int .i64 (IntKind.wrap .i64 ((Cav.y c) - y)))), (25, (sl eRing 3 (Site.rings s))), (26, (.int .i64 (((Sl.len (Site.rings s)) : Nat) : Int))), (27, (.int .i64 i0))], hp := [(.box 41 [(.int .i64 (0 : Int)), (.int .i64 (0 : Int))] true)] }
theorem t92 (env : Env) (F : Nat) (s : Site) (c : Cav) (x : Int) (y : Int) : (evFun Try.prog (cfg F) env 92 [(pSite s), (.agg (eCav c)), (.int .i64 x), (.int .i64 y)]) =
  (L92x0 env F s c x y F (0 : Int)) := by kernel_rfl
theorem L92x0s (env : Env) (F : Nat) (s : Site) (c : Cav) (x : Int) (y : Int) (fu : Nat) (i0 : Int) : L92x0 env F s c x y (fu + 1) i0 =
  (bif (decide (i0 < (((Sl.len (Site.rings s)) : Nat) : Int))) then (bif (decide ((0 : Int) ≤ i0)) then (bif (decide (i0 < (((Sl.len (Site.rings s)) : Nat) : Int))) then (bif (decide ((IntKind.wrap .i64 ((Ring.away (Sl.el (Site.rings s) (Int.toNat i0))) * (Ring.away (Sl.el (Site.rings s) (Int.toNat i0))))) ≥ (IntKind.wrap .i64 ((IntKind.wrap .i64 ((IntKind.wrap .i64 ((Cav.x c) - x)) * (IntKind.wrap .i64 ((Cav.x c) - x)))) + (IntKind.wrap .i64 ((IntKind.wrap .i64 ((Cav.y c) - y)) * (IntKind.wrap .i64 ((Cav.y c) - y)))))))) then some (.ret (.agg (eSpan (Ring.share (Sl.el (Site.rings s) (Int.toNat i0))))))
        else (L92x0 env F s c x y fu (IntKind.wrap .i64 (i0 + (1 : Int)))))
      else none)
    else none)
  else some (.ret (.agg [(.int .i64 (0 : Int)), (.int .i64 (0 : Int))]))) := by kernel_rfl

theorem t58 (env : Env) (F : Nat) (s : Site) (p : Span) : (evFun Try.prog (cfg F) env 58 [(.agg (eSite s)), (.agg (eSpan p))]) =
  (tkOut (env 93 [(.agg (eSite s)), (.int .i64 (Span.lo p))]) none (fun v4 => (tkAgg v4 none fun l5 => (tkCons l5 none fun v6 r7 => (tkInt v6 none fun q8 n9 => (tkCons r7 none fun v10 r11 => (tkInt v10 none fun q12 n13 => (tkCons r11 none fun v14 r15 => (tkInt v14 none fun q16 n17 => (tkCons r15 none fun v18 r19 => (tkInt v18 none fun q20 n21 => (tkCons r19 none fun v22 r23 => (tkInt v22 none fun q24 n25 => (tkNil r23 none (tkOut (env 94 [(.agg (eSite s)), (.int .i64 (Span.hi p))]) none (fun v26 => (tkAgg v26 none fun l27 => (tkCons l27 none fun v28 r29 => (tkInt v28 none fun q30 n31 => (tkCons r29 none fun v32 r33 => (tkInt v32 none fun q34 n35 => (tkCons r33 none fun v36 r37 => (tkInt v36 none fun q38 n39 => (tkCons r37 none fun v40 r41 => (tkInt v40 none fun q42 n43 => (tkCons r41 none fun v44 r45 => (tkInt v44 none fun q46 n47 => (tkNil r45 none (some (.ret (.agg [(.int q12 n13), (.int q38 n39)]))))))))))))))))
                            (fun p26 => (tkIfc p26 none fun t27 x28 => (bif (flatP (.iface t27 x28)) then some (.pan (.iface t27 x28))
                                else none)))))))))))))))))
  (fun p4 => (tkIfc p4 none fun t5 x6 => (bif (flatP (.iface t5 x6)) then none
      else none)))) := by kernel_rfl

theorem t60 (env : Env) (F : Nat) (s : Site) (p : Span) : (evFun Try.prog (cfg F) env 60 [(.agg (eSite s)), (.agg (eSpan p))]) =
  (tkOut (env 93 [(.agg (eSite s)), (.int .i64 (Span.lo p))]) none (fun v4 => (tkAgg v4 none fun l5 => (tkCons l5 none fun v6 r7 => (tkInt v6 none fun q8 n9 => (tkCons r7 none fun v10 r11 => (tkInt v10 none fun q12 n13 => (tkCons r11 none fun v14 r15 => (tkInt v14 none fun q16 n17 => (tkCons r15 none fun v18 r19 => (tkInt v18 none fun q20 n21 => (tkCons r19 none fun v22 r23 => (tkInt v22 none fun q24 n25 => (tkNil r23 none (tkOut (env 94 [(.agg (eSite s)), (.int .i64 (Span.hi p))]) none (fun v26 => (tkAgg v26 none fun l27 => (tkCons l27 none fun v28 r29 => (tkInt v28 none fun q30 n31 => (tkCons r29 none fun v32 r33 => (tkInt v32 none fun q34 n35 => (tkCons r33 none fun v36 r37 => (tkInt v36 none fun q38 n39 => (tkCons r37 none fun v40 r41 => (tkInt v40 none fun q42 n43 => (tkCons r41 none fun v44 r45 => (tkInt v44 none fun q46 n47 => (tkNil r45 none (some (.ret (.agg [(.int q20 n21), (.int q46 n47)]))))))))))))))))
                            (fun p26 => (tkIfc p26 none fun t27 x28 => (bif (flatP (.iface t27 x28)) then some (.pan (.iface t27 x28))
                                else none)))))))))))))))))
  (fun p4 => (tkIfc p4 none fun t5 x6 => (bif (flatP (.iface t5 x6)) then none
      else none)))) := by kernel_rfl

noncomputable def L93x0 (env : Env) (F : Nat) (s : Site) (x : Int) (fu : Nat) (i0 : Int) : Option Out := atLoop Try.prog (cfg F) env 93 [.r, .r, .l, .d] [] fu { tm := tmL 25 0 [(1, (.int .i64 x)), (2, (.optr 0 0 0)), (4, (.optr 1 0 0)), (5, (.int .i64 i0))], hp := [(.box 28 (eSite s) true), (.box 105 [(.int .i64 (0 : Int)), (.int .i64 (0 : Int)), (.int .i64 (0 : Int)), (.int .i64 (0 : Int)), (.int .i64 (0 : Int))] true)] }
theorem t93 (env : Env) (F : Nat) (s : Site) (x : Int) : (evFun Try.prog (cfg F) env 93 [(.agg (eSite s)), (.int .i64 x)]) =
  (L93x0 env F s x F (IntKind.wrap .i64 ((((Sl.len (Site.rows s)) : Nat) : Int) - (1 : Int)))) := by kernel_rfl
theorem L93x0s (env : Env) (F : Nat) (s : Site) (x : Int) (fu : Nat) (i0 : Int) : L93x0 env F s x (fu + 1) i0 =
  (bif (decide ((0 : Int) ≤ i0)) then (bif (decide (i0 < (((Sl.len (Site.rows s)) : Nat) : Int))) then (bif (decide ((Row.deficit (Sl.el (Site.rows s) (Int.toNat i0))) > x)) then (L93x0 env F s x fu (IntKind.wrap .i64 (i0 - (1 : Int))))
      else (bif (decide ((0 : Int) ≤ i0)) then (bif (decide (i0 < (((Sl.len (Site.rows s)) : Nat) : Int))) then some (.ret (.agg (eRow (Sl.el (Site.rows s) (Int.toNat i0)))))
          else none)
        else none))
    else none)
  else none) := by kernel_rfl

noncomputable def L94x0 (env : Env) (F : Nat) (s : Site) (x : Int) (fu : Nat) (i0 : Int) : Option Out := atLoop Try.prog (cfg F) env 94 [.r, .r, .l, .d] [] fu { tm := tmL 21 0 [(1, (.int .i64 x)), (2, (.optr 0 0 0)), (4, (.optr 1 0 0)), (5, (.int .i64 i0))], hp := [(.box 28 (eSite s) true), (.box 105 [(.int .i64 (0 : Int)), (.int .i64 (0 : Int)), (.int .i64 (0 : Int)), (.int .i64 (0 : Int)), (.int .i64 (0 : Int))] true)] }
theorem t94 (env : Env) (F : Nat) (s : Site) (x : Int) : (evFun Try.prog (cfg F) env 94 [(.agg (eSite s)), (.int .i64 x)]) =
  (L94x0 env F s x F (0 : Int)) := by kernel_rfl
theorem L94x0s (env : Env) (F : Nat) (s : Site) (x : Int) (fu : Nat) (i0 : Int) : L94x0 env F s x (fu + 1) i0 =
  (bif (decide ((0 : Int) ≤ i0)) then (bif (decide (i0 < (((Sl.len (Site.rows s)) : Nat) : Int))) then (bif (decide ((Row.deficit (Sl.el (Site.rows s) (Int.toNat i0))) < x)) then (L94x0 env F s x fu (IntKind.wrap .i64 (i0 + (1 : Int))))
      else (bif (decide ((0 : Int) ≤ i0)) then (bif (decide (i0 < (((Sl.len (Site.rows s)) : Nat) : Int))) then some (.ret (.agg (eRow (Sl.el (Site.rows s) (Int.toNat i0)))))
          else none)
        else none))
    else none)
  else none) := by kernel_rfl

noncomputable def L59x0 (env : Env) (F : Nat) (s : Site) (p : Span) (fu : Nat) (i0 : Int) : Option Out := atLoop Try.prog (cfg F) env 59 [.r, .r, .l, .d] [] fu { tm := tmL 48 0 [(2, (.optr 0 0 0)), (3, (.optr 1 0 0)), (4, (.optr 2 0 0)), (5, (.int .i64 i0))], hp := [(.box 28 (eSite s) true), (.box 41 (eSpan p) true), (.box 41 [(.int .i64 (0 : Int)), (.int .i64 (0 : Int))] true)] }
noncomputable def L59x1 (env : Env) (F : Nat) (s : Site) (p : Span) (fu : Nat) (i0 : Int) (i1 : Int) : Option Out := atLoop Try.prog (cfg F) env 59 [.r, .r, .r, .r, .l, .d] [] fu { tm := tmL 48 0 [(2, (.optr 0 0 0)), (3, (.optr 1 0 0)), (4, (.optr 2 0 0)), (5, (.int .i64 i0)), (6, (.int .i64 i1))], hp := [(.box 28 (eSite s) true), (.box 41 (eSpan p) true), (.box 41 [(.int .i64 (0 : Int)), (.int .i64 (0 : Int))] true)] }
theorem t59 (env : Env) (F : Nat) (s : Site) (p : Span) : (evFun Try.prog (cfg F) env 59 [(.agg (eSite s)), (.agg (eSpan p))]) =
  (L59x0 env F s p F (IntKind.wrap .i64 ((((Sl.len (Site.heats s)) : Nat) : Int) - (1 : Int)))) := by kernel_rfl
theorem L59x0s (env : Env) (F : Nat) (s : Site) (p : Span) (fu : Nat) (i0 : Int) : L59x0 env F s p (fu + 1) i0 =
  (bif (decide ((0 : Int) ≤ i0)) then (bif (decide (i0 < (((Sl.len (Site.heats s)) : Nat) : Int))) then (bif (decide ((Heat.warmth (Sl.el (Site.heats s) (Int.toNat i0))) > (Span.lo p))) then (L59x0 env F s p fu (IntKind.wrap .i64 (i0 - (1 : Int))))
      else (L59x1 env F s p F i0 (0 : Int)))
    else none)
  else none) := by kernel_rfl
theorem L59x1s (env : Env) (F : Nat) (s : Site) (p : Span) (fu : Nat) (i0 : Int) (i1 : Int) : L59x1 env F s p (fu + 1) i0 i1 =
  (bif (decide ((0 : Int) ≤ i1)) then (bif (decide (i1 < (((Sl.len (Site.heats s)) : Nat) : Int))) then (bif (decide ((Heat.warmth (Sl.el (Site.heats s) (Int.toNat i1))) < (Span.hi p))) then (L59x1 env F s p fu i0 (IntKind.wrap .i64 (i1 + (1 : Int))))
      else (bif (decide ((0 : Int) ≤ i0)) then (bif (decide (i0 < (((Sl.len (Site.heats s)) : Nat) : Int))) then (bif (decide ((0 : Int) ≤ i1)) then (bif (decide (i1 < (((Sl.len (Site.heats s)) : Nat) : Int))) then some (.ret (.agg [(.int .i64 (Span.lo (Heat.factor (Sl.el (Site.heats s) (Int.toNat i0))))), (.int .i64 (Span.hi (Heat.factor (Sl.el (Site.heats s) (Int.toNat i1)))))]))
              else none)
            else none)
          else none)
        else none))
    else none)
  else none) := by kernel_rfl

theorem t32 (env : Env) (F : Nat) (s : Site) (c : Int) (p : Span) (q : Span) : (evFun Try.prog (cfg F) env 32 [(.agg (eSite s)), (.int .i64 c), (.agg (eSpan p)), (.agg (eSpan q))]) =
  (tkOut (env 70 [(.agg (eSite s)), (.int .i64 c), (.agg (eSpan p))]) none (fun v6 => (tkAgg v6 none fun l7 => (tkCons l7 none fun v8 r9 => (tkInt v8 none fun q10 n11 => (tkCons r9 none fun v12 r13 => (tkInt v12 none fun q14 n15 => (tkNil r13 none (bif (decide (q10 = .i64)) then (bif (decide (n11 < (0 : Int))) then some (.ret (.bool true))
                  else (bif (decide ((0 : Int) ≤ (IntKind.wrap .i64 ((((Sl.len (Site.rows s)) : Nat) : Int) - (1 : Int))))) then (bif (decide ((IntKind.wrap .i64 ((((Sl.len (Site.rows s)) : Nat) : Int) - (1 : Int))) < (((Sl.len (Site.rows s)) : Nat) : Int))) then (bif (decide (q14 = .i64)) then (bif (decide (n15 > (Row.deficit (Sl.el (Site.rows s) (Int.toNat (IntKind.wrap .i64 ((((Sl.len (Site.rows s)) : Nat) : Int) - (1 : Int)))))))) then some (.ret (.bool true))
                          else (bif (decide ((0 : Int) < (((Sl.len (Site.heats s)) : Nat) : Int))) then (bif (decide ((Span.lo q) < (Heat.warmth (Sl.el (Site.heats s) 0)))) then some (.ret (.bool true))
                              else (bif (decide ((0 : Int) ≤ (IntKind.wrap .i64 ((((Sl.len (Site.heats s)) : Nat) : Int) - (1 : Int))))) then (bif (decide ((IntKind.wrap .i64 ((((Sl.len (Site.heats s)) : Nat) : Int) - (1 : Int))) < (((Sl.len (Site.heats s)) : Nat) : Int))) then some (.ret (.bool (decide ((Span.hi q) > (Heat.warmth (Sl.el (Site.heats s) (Int.toNat (IntKind.wrap .i64 ((((Sl.len (Site.heats s)) : Nat) : Int) - (1 : Int))))))))))
                                  else none)
                                else none))
                            else none))
                        else none)
                      else none)
                    else none))
                else none))))))))
  (fun p6 => (tkIfc p6 none fun t7 x8 => (bif (flatP (.iface t7 x8)) then some (.pan (.iface t7 x8))
      else none)))) := by kernel_rfl

noncomputable def L19x0 (env : Env) (F : Nat) (s : Site) (l : Sl Stt) (x : Int) (y : Int) (fu : Nat) (i0 : Int) (i1 : Int) (i2 : Int) : Option Out := atLoop Try.prog (cfg F) env 19 [.r, .r, .l, .r, .d] [] fu { tm := tmL 58 0 [(1, (sl eStt 6 l)), (2, (.int .i64 x)), (3, (.int .i64 y)), (4, (.optr 0 0 0)), (8, (.optr 1 0 0)), (9, (.optr 2 0 0)), (10, (.int .i64 i0))], hp := [(.box 28 (eSite s) true), (.box 41 [(.int .i64 (0 : Int)), (.int .i64 (0 : Int))] true), (.box 41 [(.int .i64 i1), (.int .i64 i2)] true)] }
theorem t19 (env : Env) (F : Nat) (s : Site) (l : Sl Stt) (x : Int) (y : Int) : (evFun Try.prog (cfg F) env 19 [(.agg (eSite s)), (sl eStt 6 l), (.int .i64 x), (.int .i64 y)]) =
  (L19x0 env F s l x y F (0 : Int) (0 : Int) (0 : Int)) := by kernel_rfl
theorem L19x0s (env : Env) (F : Nat) (s : Site) (l : Sl Stt) (x : Int) (y : Int) (fu : Nat) (i0 : Int) (i1 : Int) (i2 : Int) : L19x0 env F s l x y (fu + 1) i0 i1 i2 =
  (bif (decide (i0 < (((Sl.len l) : Nat) : Int))) then (tkOut (env 29 [(.agg (eSite s)), (.int .i64 i0), (.int .i64 x), (.int .i64 y)]) none (fun v10 => (tkTup v10 none fun l11 => (tkCons l11 none fun v12 r13 => (tkAgg v12 none fun l14 => (tkCons l14 none fun v15 r16 => (tkInt v15 none fun q17 n18 => (tkCons r16 none fun v19 r20 => (tkInt v19 none fun q21 n22 => (tkNil r20 none (tkCons r13 none fun v23 r24 => (tkBool v23 none fun b25 => (tkNil r24 none (bif b25 then (bif (decide ((0 : Int) ≤ i0)) then (bif (decide (i0 < (((Sl.len l) : Nat) : Int))) then (bif (decide (.i64 = q17)) then (bif (decide ((0 : Int) ≤ i0)) then (bif (decide (i0 < (((Sl.len l) : Nat) : Int))) then (bif (decide (.i64 = q21)) then (L19x0 env F s l x y fu (IntKind.wrap .i64 (i0 + (1 : Int))) (IntKind.wrap .i64 (i1 + (IntKind.wrap .i64 (Int.tdiv (IntKind.wrap .i64 ((Span.lo (Stt.lost (Sl.el l (Int.toNat i0)))) * n18)) (1000000 : Int))))) (IntKind.wrap .i64 (i2 + (IntKind.wrap .i64 (Int.tdiv (IntKind.wrap .i64 ((IntKind.wrap .i64 ((Span.hi (Stt.lost (Sl.el l (Int.toNat i0)))) * n22)) + (999999 : Int))) (1000000 : Int))))))
                                        else none)
                                      else none)
                                    else none)
                                  else none)
                                else none)
                              else none)
                            else (L19x0 env F s l x y fu (IntKind.wrap .i64 (i0 + (1 : Int))) i1 i2))))))))))))))
    (fun p10 => (tkIfc p10 none fun t11 x12 => (bif (flatP (.iface t11 x12)) then some (.pan (.iface t11 x12))
        else none))))
  else some (.ret (.agg [(.int .i64 i1), (.int .i64 i2)]))) := by kernel_rfl

theorem t36 (env : Env) (F : Nat) (s : Site) : (evFun Try.prog (cfg F) env 36 [(.agg (eSite s))]) =
  (tkOut (env 48 [(.agg (eSite s))]) none (fun v3 => (tkBool v3 none fun b4 => (bif (!b4) then some (.ret (.int .i64 (2 : Int)))
      else some (.ret (.int .i64 (0 : Int))))))
  (fun p3 => (tkIfc p3 none fun t4 x5 => (bif (flatP (.iface t4 x5)) then some (.pan (.iface t4 x5))
      else none)))) := by kernel_rfl

theorem t37 (env : Env) (F : Nat) (s : Site) (i : Int) (j : Int) : (evFun Try.prog (cfg F) env 37 [(.agg (eSite s)), (.int .i64 i), (.int .i64 j)]) =
  (tkOut (env 48 [(.agg (eSite s))]) none (fun v5 => (tkBool v5 none fun b6 => (bif (!b6) then some (.ret (.tup [(.agg [(.int .i64 (0 : Int)), (.int .i64 (0 : Int))]), (.int .i64 (2 : Int))]))
      else (tkOut (env 72 [(.int .i64 i), (.int .i64 (0 : Int)), (.int .i64 (IntKind.wrap .i64 ((((Sl.len (Site.cavs s)) : Nat) : Int) - (1 : Int))))]) none (fun v7 => (tkBool v7 none fun b8 => (bif (!b8) then some (.ret (.tup [(.agg [(.int .i64 (0 : Int)), (.int .i64 (0 : Int))]), (.int .i64 (2 : Int))]))
            else (tkOut (env 72 [(.int .i64 j), (.int .i64 (0 : Int)), (.int .i64 (IntKind.wrap .i64 ((((Sl.len (Site.cavs s)) : Nat) : Int) - (1 : Int))))]) none (fun v9 => (tkBool v9 none fun b10 => (bif (!b10) then some (.ret (.tup [(.agg [(.int .i64 (0 : Int)), (.int .i64 (0 : Int))]), (.int .i64 (2 : Int))]))
                  else (bif (i == j) then some (.ret (.tup [(.agg [(.int .i64 (0 : Int)), (.int .i64 (0 : Int))]), (.int .i64 (2 : Int))]))
                    else (bif (decide ((0 : Int) ≤ i)) then (bif (decide (i < (((Sl.len (Site.cavs s)) : Nat) : Int))) then (bif (decide ((0 : Int) ≤ j)) then (bif (decide (j < (((Sl.len (Site.cavs s)) : Nat) : Int))) then (tkOut (env 73 [(.rptr 1 (((((1 + 1) + 1) + 1) + 1) + 1) (fun u11 => (eSite s)) 0 0), (.int .i64 i), (.int .i64 j), (.int .i64 (Span.hi (Cav.rad (Sl.el (Site.cavs s) (Int.toNat i))))), (.int .i64 (Span.hi (Cav.rad (Sl.el (Site.cavs s) (Int.toNat j)))))]) none (fun v11 => (tkInt v11 none fun q12 n13 => (tkOut (env 73 [(.rptr 1 (((((1 + 1) + 1) + 1) + 1) + 1) (fun u14 => (eSite s)) 0 0), (.int .i64 i), (.int .i64 j), (.int .i64 (Span.lo (Cav.rad (Sl.el (Site.cavs s) (Int.toNat i))))), (.int .i64 (Span.lo (Cav.rad (Sl.el (Site.cavs s) (Int.toNat j)))))]) none (fun v14 => (tkInt v14 none fun q15 n16 => some (.ret (.tup [(.agg [(.int q12 n13), (.int q15 n16)]), (.int .i64 (0 : Int))]))))
                                  (fun p14 => (tkIfc p14 none fun t15 x16 => (bif (flatP (.iface t15 x16)) then some (.pan (.iface t15 x16))
                                      else none))))))
                              (fun p11 => (tkIfc p11 none fun t12 x13 => (bif (flatP (.iface t12 x13)) then none
                                  else none))))
                            else none)
                          else none)
                        else none)
                      else none)))))
              (fun p9 => (tkIfc p9 none fun t10 x11 => (bif (flatP (.iface t10 x11)) then some (.pan (.iface t10 x11))
                  else none)))))))
        (fun p7 => (tkIfc p7 none fun t8 x9 => (bif (flatP (.iface t8 x9)) then some (.pan (.iface t8 x9))
            else none)))))))
  (fun p5 => (tkIfc p5 none fun t6 x7 => (bif (flatP (.iface t6 x7)) then some (.pan (.iface t6 x7))
      else none)))) := by kernel_rfl

noncomputable def L38x0 (env : Env) (F : Nat) (s : Site) (fu : Nat) : Option Out := atLoop Try.prog (cfg F) env 38 [.r, .r, .l, .r, .d] [] fu { tm := tmL 29 0 [(1, (.optr 0 0 0)), (3, (.row true 0 0 (fun u4 => []))), (4, (.int .i64 (0 : Int)))], hp := [(.box 28 (eSite s) true)] }
noncomputable def L38x1 (env : Env) (F : Nat) (s : Site) (fu : Nat) (k0 : Nat) (i1 : Int) (k2 : Nat) (g3 : Nat → List V) : Option Out := atLoop Try.prog (cfg F) env 38 [.r, .r, .l, .r, .d] [] fu { tm := tmL 29 0 [(1, (.optr 0 0 0)), (3, (.osl 1 0 k0)), (4, (.int .i64 i1))], hp := [(.box 28 (eSite s) true), (.arr 65 6 k2 g3 true)] }
theorem t38 (env : Env) (F : Nat) (s : Site) : (evFun Try.prog (cfg F) env 38 [(.agg (eSite s))]) =
  (L38x0 env F s F) := by kernel_rfl
theorem L38x0s (env : Env) (F : Nat) (s : Site) (fu : Nat) : L38x0 env F s (fu + 1) =
  (bif (decide ((0 : Int) < (((Sl.len (Site.cavs s)) : Nat) : Int))) then (bif (decide ((0 : Int) < (((Sl.len (Site.cavs s)) : Nat) : Int))) then (bif (decide ((0 : Int) < (((Sl.len (Site.cavs s)) : Nat) : Int))) then (L38x1 env F s fu 1 (IntKind.wrap .i64 ((0 : Int) + (1 : Int))) 1 (fun u4 => [(.int .i64 (Span.lo (Cav.rad (Sl.el (Site.cavs s) 0)))), (.int .i64 (Span.hi (Cav.rad (Sl.el (Site.cavs s) 0)))), (.int .i64 (Span.lo (Cav.vol (Sl.el (Site.cavs s) 0)))), (.int .i64 (Span.hi (Cav.vol (Sl.el (Site.cavs s) 0)))), (.int .i64 (0 : Int)), (.int .i64 (0 : Int))]))
      else none)
    else none)
  else some (.ret (.row true 0 0 (fun u4 => [])))) := by kernel_rfl
theorem L38x1s (env : Env) (F : Nat) (s : Site) (fu : Nat) (k0 : Nat) (i1 : Int) (k2 : Nat) (g3 : Nat → List V) : L38x1 env F s (fu + 1) k0 i1 k2 g3 =
  (bif (decide (i1 < (((Sl.len (Site.cavs s)) : Nat) : Int))) then (bif (decide ((0 : Int) ≤ i1)) then (bif (decide (i1 < (((Sl.len (Site.cavs s)) : Nat) : Int))) then (bif (decide ((0 : Int) ≤ i1)) then (bif (decide (i1 < (((Sl.len (Site.cavs s)) : Nat) : Int))) then (bif (decide (((k0 + 1) * 48) ≤ 140737488355328)) then (bif ((decide (1 < 19)) && (decide (17 < 19))) then (L38x1 env F s fu (k0 + 1) (IntKind.wrap .i64 (i1 + (1 : Int))) (k0 + 1) (appGet k0 g3 (fun u8 => [(.int .i64 (Span.lo (Cav.rad (Sl.el (Site.cavs s) (Int.toNat i1))))), (.int .i64 (Span.hi (Cav.rad (Sl.el (Site.cavs s) (Int.toNat i1))))), (.int .i64 (Span.lo (Cav.vol (Sl.el (Site.cavs s) (Int.toNat i1))))), (.int .i64 (Span.hi (Cav.vol (Sl.el (Site.cavs s) (Int.toNat i1))))), (.int .i64 (0 : Int)), (.int .i64 (0 : Int))])))
              else none)
            else none)
          else none)
        else none)
      else none)
    else none)
  else some (.ret (.row false k0 6 (fun u8 => (g3 u8))))) := by kernel_rfl

theorem t40 (env : Env) (F : Nat) (s : Site) (i : Int) (j : Int) (p : Span) (q : Span) : (evFun Try.prog (cfg F) env 40 [(.agg (eSite s)), (.int .i64 i), (.int .i64 j), (.agg (eSpan p)), (.agg (eSpan q))]) =
  (tkOut (env 71 [(.agg (eSite s)), (.int .i64 i), (.int .i64 j)]) none (fun v7 => (tkInt v7 none fun q8 n9 => (bif (decide (q8 = .i64)) then (bif (decide (q8 = .i64)) then (bif (decide (q8 = .i64)) then (bif (decide (q8 = .i64)) then some (.ret (.agg [(.int q8 (IntKind.wrap q8 ((IntKind.wrap q8 (n9 - (Span.hi p))) - (Span.hi q)))), (.int q8 (IntKind.wrap q8 ((IntKind.wrap q8 (n9 - (Span.lo p))) - (Span.lo q))))]))
            else none)
          else none)
        else none)
      else none)))
  (fun p7 => (tkIfc p7 none fun t8 x9 => (bif (flatP (.iface t8 x9)) then some (.pan (.iface t8 x9))
      else none)))) := by kernel_rfl

theorem t71 (env : Env) (F : Nat) (s : Site) (i : Int) (j : Int) : (evFun Try.prog (cfg F) env 71 [(.agg (eSite s)), (.int .i64 i), (.int .i64 j)]) =
  (bif (decide ((0 : Int) ≤ i)) then (bif (decide (i < (((Sl.len (Site.cavs s)) : Nat) : Int))) then (bif (decide ((0 : Int) ≤ j)) then (bif (decide (j < (((Sl.len (Site.cavs s)) : Nat) : Int))) then (bif (decide ((0 : Int) ≤ i)) then (bif (decide (i < (((Sl.len (Site.cavs s)) : Nat) : Int))) then (bif (decide ((0 : Int) ≤ j)) then (bif (decide (j < (((Sl.len (Site.cavs s)) : Nat) : Int))) then (tkOut (env 104 [(.int .i64 (IntKind.wrap .i64 ((IntKind.wrap .i64 ((IntKind.wrap .i64 ((1000 : Int) * (IntKind.wrap .i64 ((Cav.x (Sl.el (Site.cavs s) (Int.toNat i))) - (Cav.x (Sl.el (Site.cavs s) (Int.toNat j))))))) * (IntKind.wrap .i64 ((1000 : Int) * (IntKind.wrap .i64 ((Cav.x (Sl.el (Site.cavs s) (Int.toNat i))) - (Cav.x (Sl.el (Site.cavs s) (Int.toNat j))))))))) + (IntKind.wrap .i64 ((IntKind.wrap .i64 ((1000 : Int) * (IntKind.wrap .i64 ((Cav.y (Sl.el (Site.cavs s) (Int.toNat i))) - (Cav.y (Sl.el (Site.cavs s) (Int.toNat j))))))) * (IntKind.wrap .i64 ((1000 : Int) * (IntKind.wrap .i64 ((Cav.y (Sl.el (Site.cavs s) (Int.toNat i))) - (Cav.y (Sl.el (Site.cavs s) (Int.toNat j))))))))))))]) none (fun v5 => (tkInt v5 none fun q6 n7 => some (.ret (.int q6 n7))))
                  (fun p5 => (tkIfc p5 none fun t6 x7 => (bif (flatP (.iface t6 x7)) then some (.pan (.iface t6 x7))
                      else none))))
                else none)
              else none)
            else none)
          else none)
        else none)
      else none)
    else none)
  else none) := by kernel_rfl

noncomputable def L104x0 (env : Env) (F : Nat) (n : Int) (fu : Nat) (i0 : Int) (i1 : Int) : Option Out := atLoop Try.prog (cfg F) env 104 [.r, .r, .l, .d] [] fu { tm := tmL 23 0 [(0, (.int .i64 n)), (3, (.int .i64 i0)), (4, (.int .i64 i1))], hp := [] }
theorem t104 (env : Env) (F : Nat) (n : Int) : (evFun Try.prog (cfg F) env 104 [(.int .i64 n)]) =
  (L104x0 env F n F (0 : Int) (2147483648 : Int)) := by kernel_rfl
theorem L104x0s (env : Env) (F : Nat) (n : Int) (fu : Nat) (i0 : Int) (i1 : Int) : L104x0 env F n (fu + 1) i0 i1 =
  (bif (decide (i0 < i1)) then (bif (decide ((IntKind.wrap .i64 ((IntKind.wrap .i64 (Int.tdiv (IntKind.wrap .i64 ((IntKind.wrap .i64 (i0 + i1)) + (1 : Int))) (2 : Int))) * (IntKind.wrap .i64 (Int.tdiv (IntKind.wrap .i64 ((IntKind.wrap .i64 (i0 + i1)) + (1 : Int))) (2 : Int))))) ≤ n)) then (L104x0 env F n fu (IntKind.wrap .i64 (Int.tdiv (IntKind.wrap .i64 ((IntKind.wrap .i64 (i0 + i1)) + (1 : Int))) (2 : Int))) i1)
    else (L104x0 env F n fu i0 (IntKind.wrap .i64 ((IntKind.wrap .i64 (Int.tdiv (IntKind.wrap .i64 ((IntKind.wrap .i64 (i0 + i1)) + (1 : Int))) (2 : Int))) - (1 : Int)))))
  else some (.ret (.int .i64 i0))) := by kernel_rfl

theorem t73 (env : Env) (F : Nat) (s : Site) (i : Int) (j : Int) (a : Int) (b : Int) : (evFun Try.prog (cfg F) env 73 [(pSite s), (.int .i64 i), (.int .i64 j), (.int .i64 a), (.int .i64 b)]) =
  (bif (decide ((0 : Int) ≤ i)) then (bif (decide (i < (((Sl.len (Site.cavs s)) : Nat) : Int))) then (bif (decide ((0 : Int) ≤ j)) then (bif (decide (j < (((Sl.len (Site.cavs s)) : Nat) : Int))) then (bif (decide ((0 : Int) ≤ i)) then (bif (decide (i < (((Sl.len (Site.cavs s)) : Nat) : Int))) then (bif (decide ((0 : Int) ≤ j)) then (bif (decide (j < (((Sl.len (Site.cavs s)) : Nat) : Int))) then (tkOut (env 105 [(.int .i64 (IntKind.wrap .i64 ((IntKind.wrap .i64 ((IntKind.wrap .i64 ((1000 : Int) * (IntKind.wrap .i64 ((Cav.x (Sl.el (Site.cavs s) (Int.toNat i))) - (Cav.x (Sl.el (Site.cavs s) (Int.toNat j))))))) * (IntKind.wrap .i64 ((1000 : Int) * (IntKind.wrap .i64 ((Cav.x (Sl.el (Site.cavs s) (Int.toNat i))) - (Cav.x (Sl.el (Site.cavs s) (Int.toNat j))))))))) + (IntKind.wrap .i64 ((IntKind.wrap .i64 ((1000 : Int) * (IntKind.wrap .i64 ((Cav.y (Sl.el (Site.cavs s) (Int.toNat i))) - (Cav.y (Sl.el (Site.cavs s) (Int.toNat j))))))) * (IntKind.wrap .i64 ((1000 : Int) * (IntKind.wrap .i64 ((Cav.y (Sl.el (Site.cavs s) (Int.toNat i))) - (Cav.y (Sl.el (Site.cavs s) (Int.toNat j))))))))))))]) none (fun v7 => (tkInt v7 none fun q8 n9 => (bif (decide (q8 = .i64)) then (bif (decide (q8 = .i64)) then some (.ret (.int q8 (IntKind.wrap q8 ((IntKind.wrap q8 (n9 - a)) - b))))
                        else none)
                      else none)))
                  (fun p7 => (tkIfc p7 none fun t8 x9 => (bif (flatP (.iface t8 x9)) then some (.pan (.iface t8 x9))
                      else none))))
                else none)
              else none)
            else none)
          else none)
        else none)
      else none)
    else none)
  else none) := by kernel_rfl

end Go.Sim.Cr

/-
  What the functions that look through lists compute, in plain terms.
-/
namespace Go.Sim.Cr
open Go.Proofs
variable (F d : Nat)
theorem b3 {a b : Bool} (h : a = b) : some (Out.ret (.bool a)) = some (.ret (.bool b)) := by rw [h]
theorem ge0 (p : Nat → Bool) (n : Nat) : (!decide (0 ≤ ixF p n 0)) = decide (∀ i, i < n → p i = false) := by
  apply b2
  rw [Bool.not_eq_true', decide_eq_false_iff_not, decide_eq_true_iff, ixF_ge]
  constructor
  · intro h i hi
    cases hp : p i
    · rfl
    · exact (h ⟨i, by omega, by omega, hp⟩).elim
  · rintro h ⟨k, _, h2, h3⟩
    rw [h k (by omega)] at h3; cases h3
theorem l109 (l : Sl House) (hB : l.len < Big) : ∀ n i fu, l.len = i + n → n < fu →
    L109x0 (E F (d + 3)) F l fu (i : Int) = some (.ret (.int .i64 (ixF (fun k => !decide (HouseOk (l.el k))) n i))) := by
  intro n
  induction n with
  | zero =>
    intro i fu h hf
    obtain ⟨fu, rfl⟩ : ∃ k, fu = k + 1 := ⟨fu - 1, by omega⟩
    rw [L109x0s]
    simp only [Int.ofNat_lt, show ¬ i < l.len by omega, decide_false, cond_false, ixF]
  | succ n ih =>
    intro i fu h hf
    obtain ⟨fu, rfl⟩ : ∃ k, fu = k + 1 := ⟨fu - 1, by omega⟩
    rw [L109x0s]
    simp only [Int.ofNat_lt, show i < l.len by omega, decide_true, cond_true, Int.natCast_nonneg, Int.toNat_natCast, s83, tkOut_ret, tkBool_b, wrS (show i < Big by omega), ih (i + 1) fu (by omega) (by omega), ixF]
    cases decide (HouseOk (l.el i)) <;> rfl
theorem l110 (l : Sl Stt) (hB : l.len < Big) : ∀ n i fu, l.len = i + n → n < fu →
    L110x0 (E F (d + 3)) F l fu (i : Int) = some (.ret (.int .i64 (ixF (fun k => !decide (SttOk (l.el k))) n i))) := by
  intro n
  induction n with
  | zero =>
    intro i fu h hf
    obtain ⟨fu, rfl⟩ : ∃ k, fu = k + 1 := ⟨fu - 1, by omega⟩
    rw [L110x0s]
    simp only [Int.ofNat_lt, show ¬ i < l.len by omega, decide_false, cond_false, ixF]
  | succ n ih =>
    intro i fu h hf
    obtain ⟨fu, rfl⟩ : ∃ k, fu = k + 1 := ⟨fu - 1, by omega⟩
    rw [L110x0s]
    simp only [Int.ofNat_lt, show i < l.len by omega, decide_true, cond_true, Int.natCast_nonneg, Int.toNat_natCast, s85, tkOut_ret, tkBool_b, wrS (show i < Big by omega), ih (i + 1) fu (by omega) (by omega), ixF]
    cases decide (SttOk (l.el i)) <;> rfl
theorem l111 (l : Sl Span) (m : Int) (hB : l.len < Big) : ∀ n i fu, l.len = i + n → n < fu →
    L111x0 (E F (d + 2)) F l m fu (i : Int) = some (.ret (.int .i64 (ixF (fun k => !decide (SpanIn (l.el k) 0 m)) n i))) := by
  intro n
  induction n with
  | zero =>
    intro i fu h hf
    obtain ⟨fu, rfl⟩ : ∃ k, fu = k + 1 := ⟨fu - 1, by omega⟩
    rw [L111x0s]
    simp only [Int.ofNat_lt, show ¬ i < l.len by omega, decide_false, cond_false, ixF]
  | succ n ih =>
    intro i fu h hf
    obtain ⟨fu, rfl⟩ : ∃ k, fu = k + 1 := ⟨fu - 1, by omega⟩
    rw [L111x0s]
    simp only [Int.ofNat_lt, show i < l.len by omega, decide_true, cond_true, Int.natCast_nonneg, Int.toNat_natCast, s89, tkOut_ret, tkBool_b, wrS (show i < Big by omega), ih (i + 1) fu (by omega) (by omega), ixF]
    cases decide (SpanIn (l.el i) 0 m) <;> rfl

theorem s80 (l : Sl Cav) (c : Cav) (hB : l.len < Big) (hF : l.len < F) : E F (d + 3) 80 [sl eCav 11 l, .fn (.func 81) [] [.rptr 1 11 (fun _ => eCav c) 0 0]] = some (.ret (.bool (!decide (∀ i, i < l.len → ¬ ((l.el i).x = c.x ∧ (l.el i).y = c.y))))) := by
  rw [E_succ, t80, E_succ, t108, show L108x0 (E F (d + 1)) F l c F 0 = _ from l108 F d l c hB l.len 0 F (by omega) hF]
  simp only [tkOut_ret, tkInt_i, decide_true, cond_true, ge_iff_le]
  refine b3 (Bool.not_inj ?_)
  rw [Bool.not_not]
  exact (ge0 _ _).trans (by simp only [decide_eq_false_iff_not])
theorem s82 (l : Sl House) (hB : l.len < Big) (hF : l.len < F) : E F (d + 5) 82 [sl eHouse 3 l, .fn (.func 83) [] []] = some (.ret (.bool (!decide (∀ i, i < l.len → HouseOk (l.el i))))) := by
  rw [E_succ, t82, E_succ, t109, show L109x0 (E F (d + 3)) F l F 0 = _ from l109 F d l hB l.len 0 F (by omega) hF]
  simp only [tkOut_ret, tkInt_i, decide_true, cond_true, ge_iff_le]
  refine b3 (Bool.not_inj ?_)
  rw [Bool.not_not]
  exact (ge0 _ _).trans (by simp only [Bool.not_eq_false', decide_eq_true_eq])
theorem s84 (l : Sl Stt) (hB : l.len < Big) (hF : l.len < F) : E F (d + 5) 84 [sl eStt 6 l, .fn (.func 85) [] []] = some (.ret (.bool (!decide (∀ i, i < l.len → SttOk (l.el i))))) := by
  rw [E_succ, t84, E_succ, t110, show L110x0 (E F (d + 3)) F l F 0 = _ from l110 F d l hB l.len 0 F (by omega) hF]
  simp only [tkOut_ret, tkInt_i, decide_true, cond_true, ge_iff_le]
  refine b3 (Bool.not_inj ?_)
  rw [Bool.not_not]
  exact (ge0 _ _).trans (by simp only [Bool.not_eq_false', decide_eq_true_eq])
theorem s88 (l : Sl Span) (m : Int) (hB : l.len < Big) (hF : l.len < F) : E F (d + 4) 88 [sl eSpan 2 l, .fn (.func 89) [] [.rptr 1 1 (fun _ => [.int .i64 m]) 0 0]] = some (.ret (.bool (!decide (∀ i, i < l.len → SpanIn (l.el i) 0 m)))) := by
  rw [E_succ, t88, E_succ, t111, show L111x0 (E F (d + 2)) F l m F 0 = _ from l111 F d l m hB l.len 0 F (by omega) hF]
  simp only [tkOut_ret, tkInt_i, decide_true, cond_true, ge_iff_le]
  refine b3 (Bool.not_inj ?_)
  rw [Bool.not_not]
  exact (ge0 _ _).trans (by simp only [Bool.not_eq_false', decide_eq_true_eq])

abbrev StatesOk (s : Site) (l : Sl Stt) : Prop := l.len = s.cavs.len ∧ ∀ i, i < l.len → SttOk (l.el i)
abbrev DayOk (s : Site) (d : Day) : Prop := (d.press.len = s.cavs.len ∧ ∀ i, i < d.press.len → SpanIn (d.press.el i) 0 50000) ∧ d.warm.len = s.cavs.len ∧ ∀ i, i < d.warm.len → SpanIn (d.warm.el i) 0 10000
theorem beqN (a b : Nat) : (((a : Nat) : Int) == ((b : Nat) : Int)) = decide (a = b) := by
  apply b2; simp only [beq_iff_eq, decide_eq_true_eq]; omega
theorem s49 (s : Site) (l : Sl Stt) (hB : l.len < Big) (hF : l.len < F) : E F (d + 6) 49 [.agg (eSite s), sl eStt 6 l] = some (.ret (.bool (decide (StatesOk s l)))) := by
  rw [E_succ, t49]
  simp only [s84 F _ l hB hF, tkOut_ret, tkBool_b, Bool.not_not, cAnd, beqN, Bool.decide_and]
theorem s87 (l : Sl Span) (m : Int) (s : Site) (hB : l.len < Big) (hF : l.len < F) : E F (d + 5) 87 [sl eSpan 2 l, .int .i64 m, pSite s] = some (.ret (.bool (decide (l.len = s.cavs.len ∧ ∀ i, i < l.len → SpanIn (l.el i) 0 m)))) := by
  rw [E_succ, t87]
  simp only [s88 F _ l m hB hF, tkOut_ret, tkBool_b, Bool.not_not, cAnd, beqN, Bool.decide_and]
theorem s50 (s : Site) (y : Day) (hB : y.press.len < Big) (hB' : y.warm.len < Big) (hF : y.press.len < F) (hF' : y.warm.len < F) : E F (d + 6) 50 [.agg (eSite s), .agg (eDay y)] = some (.ret (.bool (decide (DayOk s y)))) := by
  rw [E_succ, t50]
  simp only [Nat.reduceAdd, s87 F _ y.press _ s hB hF, s87 F _ y.warm _ s hB' hF', tkOut_ret, tkBool_b, cAnd, Bool.decide_and]
end Go.Sim.Cr

/-
  What the evaluator says of these functions (printed by a private program; each row is checked by the kernel).
-/
set_option maxRecDepth 100000
namespace Go.Sim.Cr
open Go.Proofs

noncomputable def L22x0 (env : Env) (F : Nat) (a : Sl Stt) (b : Sl Stt) (fu : Nat) (i0 : Int) : Option Out := atLoop Try.prog (cfg F) env 22 [.r, .r, .l, .r, .d] [] fu { tm := tmL 26 0 [(0, (sl eStt 6 a)), (1, (sl eStt 6 b)), (5, (.int .i64 i0))], hp := [] }
theorem t22 (env : Env) (F : Nat) (a : Sl Stt) (b : Sl Stt) : (evFun Try.prog (cfg F) env 22 [(sl eStt 6 a), (sl eStt 6 b)]) =
  (bif ((((Sl.len a) : Nat) : Int) != (((Sl.len b) : Nat) : Int)) then some (.ret (.bool false))
  else (L22x0 env F a b F (0 : Int))) := by kernel_rfl
theorem L22x0s (env : Env) (F : Nat) (a : Sl Stt) (b : Sl Stt) (fu : Nat) (i0 : Int) : L22x0 env F a b (fu + 1) i0 =
  (bif (decide (i0 < (((Sl.len a) : Nat) : Int))) then (bif (decide ((0 : Int) ≤ i0)) then (bif (decide (i0 < (((Sl.len a) : Nat) : Int))) then (bif (decide ((0 : Int) ≤ i0)) then (bif (decide (i0 < (((Sl.len b) : Nat) : Int))) then (bif (!(((Span.lo (Stt.rad (Sl.el a (Int.toNat i0)))) == (Span.lo (Stt.rad (Sl.el b (Int.toNat i0))))) && (((Span.hi (Stt.rad (Sl.el a (Int.toNat i0)))) == (Span.hi (Stt.rad (Sl.el b (Int.toNat i0))))) && (((Span.lo (Stt.vol (Sl.el a (Int.toNat i0)))) == (Span.lo (Stt.vol (Sl.el b (Int.toNat i0))))) && (((Span.hi (Stt.vol (Sl.el a (Int.toNat i0)))) == (Span.hi (Stt.vol (Sl.el b (Int.toNat i0))))) && (((Span.lo (Stt.lost (Sl.el a (Int.toNat i0)))) == (Span.lo (Stt.lost (Sl.el b (Int.toNat i0))))) && (((Span.hi (Stt.lost (Sl.el a (Int.toNat i0)))) == (Span.hi (Stt.lost (Sl.el b (Int.toNat i0))))) && true))))))) then some (.ret (.bool false))
            else (L22x0 env F a b fu (IntKind.wrap .i64 (i0 + (1 : Int)))))
          else none)
        else none)
      else none)
    else none)
  else some (.ret (.bool true))) := by kernel_rfl

noncomputable def L48x0 (env : Env) (F : Nat) (s : Site) (fu : Nat) (i0 : Int) : Option Out := atLoop Try.prog (cfg F) env 48 [.r, .r, .l, .r, .d] [] fu { tm := tmL 51 0 [(1, (.optr 0 0 0)), (28, (sl eCav 11 (Site.cavs s))), (29, (.int .i64 (((Sl.len (Site.cavs s)) : Nat) : Int))), (30, (.int .i64 i0))], hp := [(.box 28 (eSite s) true)] }
theorem t48 (env : Env) (F : Nat) (s : Site) : (evFun Try.prog (cfg F) env 48 [(.agg (eSite s))]) =
  (tkOut (env 72 [(.int .i64 (((Sl.len (Site.cavs s)) : Nat) : Int)), (.int .i64 (1 : Int)), (.int .i64 (5 : Int))]) none (fun v3 => (tkBool v3 none fun b4 => (bif (!b4) then some (.ret (.bool false))
      else (tkOut (env 78 [(.agg (eSite s))]) none (fun v5 => (tkBool v5 none fun b6 => (bif (!b6) then some (.ret (.bool false))
            else (tkOut (env 72 [(.int .i64 (Site.wall s)), (.int .i64 (0 : Int)), (.int .i64 (1000000 : Int))]) none (fun v7 => (tkBool v7 none fun b8 => (bif (!b8) then some (.ret (.bool false))
                  else (bif (decide ((((Sl.len (Site.houses s)) : Nat) : Int) > (5 : Int))) then some (.ret (.bool false))
                    else (L48x0 env F s F (0 : Int))))))
              (fun p7 => (tkIfc p7 none fun t8 x9 => (bif (flatP (.iface t8 x9)) then some (.pan (.iface t8 x9))
                  else none)))))))
        (fun p5 => (tkIfc p5 none fun t6 x7 => (bif (flatP (.iface t6 x7)) then some (.pan (.iface t6 x7))
            else none)))))))
  (fun p3 => (tkIfc p3 none fun t4 x5 => (bif (flatP (.iface t4 x5)) then some (.pan (.iface t4 x5))
      else none)))) := by kernel_rfl
theorem L48x0s (env : Env) (F : Nat) (s : Site) (fu : Nat) (i0 : Int) : L48x0 env F s (fu + 1) i0 =
  (bif (decide (i0 < (((Sl.len (Site.cavs s)) : Nat) : Int))) then (bif (decide ((0 : Int) ≤ i0)) then (bif (decide (i0 < (((Sl.len (Site.cavs s)) : Nat) : Int))) then (tkOut (env 79 [(.agg (eCav (Sl.el (Site.cavs s) (Int.toNat i0))))]) none (fun v5 => (tkBool v5 none fun b6 => (bif (!b6) then some (.ret (.bool false))
            else (bif (true || (Sl.nl (Site.cavs s))) then (bif (decide ((0 : Int) ≤ i0)) then (bif (decide (0 ≤ (Int.toNat i0))) then (bif (decide ((Int.toNat i0) ≤ (Sl.len (Site.cavs s)))) then (tkOut (env 80 [(.row (Sl.nl (Site.cavs s)) ((Int.toNat i0) - 0) 11 (fun u7 => (eCav (Sl.el (Site.cavs s) u7)))), (.fn (.func 81) [] [(.rptr 1 11 (fun u7 => (eCav (Sl.el (Site.cavs s) (Int.toNat i0)))) 0 0)])]) none (fun v7 => (tkBool v7 none fun b8 => (bif b8 then some (.ret (.bool false))
                          else (L48x0 env F s fu (IntKind.wrap .i64 (i0 + (1 : Int)))))))
                      (fun p7 => (tkIfc p7 none fun t8 x9 => (bif (flatP (.iface t8 x9)) then some (.pan (.iface t8 x9))
                          else none))))
                    else none)
                  else none)
                else none)
              else none))))
        (fun p5 => (tkIfc p5 none fun t6 x7 => (bif (flatP (.iface t6 x7)) then some (.pan (.iface t6 x7))
            else none))))
      else none)
    else none)
  else (tkOut (env 82 [(sl eHouse 3 (Site.houses s)), (.fn (.func 83) [] [])]) none (fun v5 => (tkBool v5 none fun b6 => some (.ret (.bool (!b6)))))
    (fun p5 => (tkIfc p5 none fun t6 x7 => (bif (flatP (.iface t6 x7)) then some (.pan (.iface t6 x7))
        else none))))) := by kernel_rfl

end Go.Sim.Cr

/-
  What the loops over lists compute, in plain terms: of days, states and what is seen of a place.
-/
namespace Go.Sim.Cr
open Go.Proofs
variable (F d : Nat)
def allF (p : Nat → Bool) (z : Bool) : Nat → Nat → Bool
  | 0, _ => z
  | n + 1, i => p i && allF p z n (i + 1)
theorem allF_eq (p : Nat → Bool) (z : Bool) : ∀ n i, allF p z n i = true ↔ (∀ k, i ≤ k → k < i + n → p k = true) ∧ z = true := by
  intro n
  induction n with
  | zero => intro i; simp only [allF]; exact ⟨fun h => ⟨fun k h1 h2 => by omega, h⟩, fun h => h.2⟩
  | succ n ih =>
    intro i
    simp only [allF, Bool.and_eq_true, ih]
    constructor
    · rintro ⟨h1, h2, h3⟩
      refine ⟨fun k h4 h5 => ?_, h3⟩
      rcases Nat.eq_or_lt_of_le h4 with rfl | h6
      · exact h1
      · exact h2 k (by omega) (by omega)
    · rintro ⟨h1, h2⟩
      exact ⟨h1 i (by omega) (by omega), fun k h3 h4 => h1 k (by omega) (by omega), h2⟩
theorem allF_0 (p : Nat → Bool) (z : Bool) (n : Nat) : allF p z n 0 = true ↔ (∀ k, k < n → p k = true) ∧ z = true := by
  rw [allF_eq]
  exact ⟨fun h => ⟨fun k hk => h.1 k (by omega) (by omega), h.2⟩, fun h => ⟨fun k _ hk => h.1 k (by omega), h.2⟩⟩

theorem l17 (s : Site) (l : Sl Stt) (hB : l.len < Big) : ∀ n i fu, l.len = i + n → n < fu →
    L17x0 (E F (d + 1)) F s l fu (i : Int) = some (.ret (.bool (allF (fun k => decide (SttOk (l.el k))) (decide (l.len = s.cavs.len)) n i))) := by
  intro n
  induction n with
  | zero =>
    intro i fu h hf
    obtain ⟨fu, rfl⟩ : ∃ k, fu = k + 1 := ⟨fu - 1, by omega⟩
    rw [L17x0s]
    simp only [Int.ofNat_lt, show ¬ i < l.len by omega, decide_false, cond_false, allF, beqN]
  | succ n ih =>
    intro i fu h hf
    obtain ⟨fu, rfl⟩ : ∃ k, fu = k + 1 := ⟨fu - 1, by omega⟩
    rw [L17x0s]
    simp only [Int.ofNat_lt, show i < l.len by omega, decide_true, cond_true, Int.natCast_nonneg, Int.toNat_natCast, s43, tkOut_ret, tkBool_b, wrS (show i < Big by omega), ih (i + 1) fu (by omega) (by omega), allF, cNand, Bool.not_not]
    refine b3 ?_
    simp only [Bool.decide_and, Bool.and_assoc]
theorem s17 (s : Site) (l : Sl Stt) (hB : l.len < Big) (hF : l.len < F) : E F (d + 2) 17 [.agg (eSite s), sl eStt 6 l] = some (.ret (.bool (decide (StatesOk s l)))) := by
  rw [E_succ, t17, show L17x0 (E F (d + 1)) F s l F 0 = _ from l17 F d s l hB l.len 0 F (by omega) hF]
  refine b3 (b2 ?_)
  rw [allF_0, decide_eq_true_iff, decide_eq_true_iff]
  exact ⟨fun h => ⟨h.2, fun i hi => of_decide_eq_true (h.1 i hi)⟩, fun h => ⟨fun i hi => decide_eq_true (h.2 i hi), h.1⟩⟩

theorem l12 (l : Sl Day) (m : Int) (hB : l.len < Big) : ∀ n i fu, l.len = i + n → n < fu →
    L12x0 (E F d) F l m fu (i : Int) = some (.ret (.bool (allF (fun k => decide ((l.el k).press.len ≤ 10 ∧ (l.el k).warm.len ≤ 10)) (decide ((l.len : Int) ≤ m ∨ 60 < l.len ∧ l.len ≤ 65)) n i))) := by
  intro n
  induction n with
  | zero =>
    intro i fu h hf
    obtain ⟨fu, rfl⟩ : ∃ k, fu = k + 1 := ⟨fu - 1, by omega⟩
    rw [L12x0s]
    simp only [Int.ofNat_lt, show ¬ i < l.len by omega, decide_false, cond_false, allF, cAnd, cOr]
    refine b3 ?_
    simp only [Bool.decide_or, Bool.decide_and, gt_iff_lt, show ((60 : Int) < (l.len : Int)) ↔ 60 < l.len by omega, show ((l.len : Int) ≤ 65) ↔ l.len ≤ 65 by omega]
  | succ n ih =>
    intro i fu h hf
    obtain ⟨fu, rfl⟩ : ∃ k, fu = k + 1 := ⟨fu - 1, by omega⟩
    rw [L12x0s]
    simp only [Int.ofNat_lt, show i < l.len by omega, decide_true, cond_true, Int.natCast_nonneg, Int.toNat_natCast, wrS (show i < Big by omega), ih (i + 1) fu (by omega) (by omega), allF, cNand]
    refine b3 ?_
    simp only [gt_iff_lt, show ∀ k : Nat, ((10 : Int) < (k : Int)) ↔ ¬ k ≤ 10 by omega, decide_not, Bool.not_not, Bool.decide_and, Bool.and_assoc]
abbrev Few (l : Sl Day) (m : Int) : Prop := (∀ k, k < l.len → (l.el k).press.len ≤ 10 ∧ (l.el k).warm.len ≤ 10) ∧ ((l.len : Int) ≤ m ∨ 60 < l.len ∧ l.len ≤ 65)
theorem s12 (l : Sl Day) (m : Int) (hB : l.len < Big) (hF : l.len < F) : E F (d + 1) 12 [sl eDay 2 l, .int .i64 m] = some (.ret (.bool (decide (Few l m)))) := by
  rw [E_succ, t12, show L12x0 (E F d) F l m F 0 = _ from l12 F d l m hB l.len 0 F (by omega) hF]
  refine b3 (b2 ?_)
  rw [allF_0, decide_eq_true_iff, decide_eq_true_iff]
  exact ⟨fun h => ⟨fun i hi => of_decide_eq_true (h.1 i hi), h.2⟩, fun h => ⟨fun i hi => decide_eq_true (h.1 i hi), h.2⟩⟩
theorem s11 (s : Site) : E F (d + 1) 11 [.agg (eSite s)] = some (.ret (.bool (decide (s.cavs.len ≤ 10 ∧ s.rows.len ≤ 12 ∧ s.heats.len ≤ 12 ∧ s.rings.len ≤ 12 ∧ s.houses.len ≤ 10)))) := by
  rw [E_succ, t11]
  simp only [cAnd, Bool.decide_and, show ∀ k : Nat, ((k : Int) ≤ 10) ↔ k ≤ 10 by omega, show ∀ k : Nat, ((k : Int) ≤ 12) ↔ k ≤ 12 by omega]

theorem l20 (s : Site) (y : Day) (hp : y.press.len = s.cavs.len) (hw : y.warm.len = s.cavs.len) (hB : s.cavs.len < Big) : ∀ n i fu, s.cavs.len = i + n → n < fu →
    L20x0 (E F (d + 1)) F s y fu (i : Int) = some (.ret (.bool (allF (fun k => decide (SpanIn (y.press.el k) 0 50000 ∧ SpanIn (y.warm.el k) 0 10000)) true n i))) := by
  intro n
  induction n with
  | zero =>
    intro i fu h hf
    obtain ⟨fu, rfl⟩ : ∃ k, fu = k + 1 := ⟨fu - 1, by omega⟩
    rw [L20x0s]
    simp only [Int.ofNat_lt, show ¬ i < s.cavs.len by omega, decide_false, cond_false, allF]
  | succ n ih =>
    intro i fu h hf
    obtain ⟨fu, rfl⟩ : ∃ k, fu = k + 1 := ⟨fu - 1, by omega⟩
    rw [L20x0s]
    simp only [Int.ofNat_lt, hp, hw, show i < s.cavs.len by omega, decide_true, cond_true, Int.natCast_nonneg, Int.toNat_natCast, s43, tkOut_ret, tkBool_b, wrS (show i < Big by omega), ih (i + 1) fu (by omega) (by omega), allF, cNand, Bool.not_not]
    refine b3 ?_
    simp only [Bool.decide_and, Bool.and_assoc]
theorem bneN (a b : Nat) : (((a : Nat) : Int) != ((b : Nat) : Int)) = !decide (a = b) := by rw [bne, beqN]
theorem s20 (s : Site) (y : Day) (hB : s.cavs.len < Big) (hF : s.cavs.len < F) : E F (d + 2) 20 [.agg (eSite s), .agg (eDay y)] = some (.ret (.bool (decide (DayOk s y)))) := by
  rw [E_succ, t20]
  by_cases hp : y.press.len = s.cavs.len
  · by_cases hw : y.warm.len = s.cavs.len
    · rw [show L20x0 (E F (d + 1)) F s y F 0 = _ from l20 F d s y hp hw hB s.cavs.len 0 F (by omega) hF]
      simp only [bneN, hp, hw, decide_true, Bool.not_true, cond_false]
      refine b3 (b2 ?_)
      rw [allF_0, decide_eq_true_iff]
      constructor
      · rintro ⟨h, _⟩
        exact ⟨⟨hp, fun i hi => (of_decide_eq_true (h i (by omega))).1⟩, hw, fun i hi => (of_decide_eq_true (h i (by omega))).2⟩
      · rintro ⟨⟨_, h1⟩, _, h2⟩
        exact ⟨fun k hk => decide_eq_true ⟨h1 k (by omega), h2 k (by omega)⟩, rfl⟩
    · simp only [bneN, hp, hw, decide_true, decide_false, Bool.not_true, Bool.not_false, cond_false, cond_true]
      exact b3 (decide_eq_false fun h => hw h.2.1).symm
  · simp only [bneN, hp, decide_false, Bool.not_false, cond_true]
    exact b3 (decide_eq_false fun h => hp h.1.1).symm

/-- Two states are the same. -/
abbrev SameStt (a b : Stt) : Prop := a.rad.lo = b.rad.lo ∧ a.rad.hi = b.rad.hi ∧ a.vol.lo = b.vol.lo ∧ a.vol.hi = b.vol.hi ∧ a.lost.lo = b.lost.lo ∧ a.lost.hi = b.lost.hi
theorem beqI (a b : Int) : (a == b) = decide (a = b) := rfl
theorem sameStt (a b : Stt) : ((a.rad.lo == b.rad.lo) && ((a.rad.hi == b.rad.hi) && ((a.vol.lo == b.vol.lo) && ((a.vol.hi == b.vol.hi) && ((a.lost.lo == b.lost.lo) && ((a.lost.hi == b.lost.hi) && true)))))) = decide (SameStt a b) := by
  simp only [beqI, Bool.and_true, Bool.decide_and]
theorem l22 (a b : Sl Stt) (hl : a.len = b.len) (hB : a.len < Big) : ∀ n i fu, a.len = i + n → n < fu →
    L22x0 (E F d) F a b fu (i : Int) = some (.ret (.bool (allF (fun k => decide (SameStt (a.el k) (b.el k))) true n i))) := by
  intro n
  induction n with
  | zero =>
    intro i fu h hf
    obtain ⟨fu, rfl⟩ : ∃ k, fu = k + 1 := ⟨fu - 1, by omega⟩
    rw [L22x0s]
    simp only [Int.ofNat_lt, show ¬ i < a.len by omega, decide_false, cond_false, allF]
  | succ n ih =>
    intro i fu h hf
    obtain ⟨fu, rfl⟩ : ∃ k, fu = k + 1 := ⟨fu - 1, by omega⟩
    rw [L22x0s]
    simp only [Int.ofNat_lt, ← hl, show i < a.len by omega, decide_true, cond_true, Int.natCast_nonneg, Int.toNat_natCast, wrS (show i < Big by omega), ih (i + 1) fu (by omega) (by omega), allF, cNand, Bool.not_not, sameStt]
theorem s22 (a b : Sl Stt) (hB : a.len < Big) (hF : a.len < F) : E F (d + 1) 22 [sl eStt 6 a, sl eStt 6 b] = some (.ret (.bool (decide (a.len = b.len ∧ ∀ i, i < a.len → SameStt (a.el i) (b.el i))))) := by
  rw [E_succ, t22]
  by_cases hl : a.len = b.len
  · rw [show L22x0 (E F d) F a b F 0 = _ from l22 F d a b hl hB a.len 0 F (by omega) hF]
    simp only [bneN, hl, decide_true, Bool.not_true, cond_false, true_and]
    refine b3 (b2 ?_)
    rw [allF_0, decide_eq_true_iff]
    exact ⟨fun h i hi => of_decide_eq_true (h.1 i hi), fun h => ⟨fun i hi => decide_eq_true (h i hi), rfl⟩⟩
  · simp only [bneN, hl, decide_false, Bool.not_false, cond_true, false_and]
end Go.Sim.Cr

/-
  Rings, subsidence, searches by halves, square roots and walls, in plain terms.
-/
namespace Go.Sim.Cr
open Go.Proofs
variable (F d : Nat)
theorem mulB {a b A B : Int} (ha : 0 ≤ a ∧ a ≤ A) (hb : 0 ≤ b ∧ b ≤ B) : 0 ≤ a * b ∧ a * b ≤ A * B :=
  ⟨Int.mul_nonneg ha.1 hb.1, Int.mul_le_mul ha.2 hb.2 hb.1 (Int.le_trans ha.1 ha.2)⟩
theorem sqB {u A : Int} (h : -A ≤ u ∧ u ≤ A) : 0 ≤ u * u ∧ u * u ≤ A * A := by
  rcases Int.le_total 0 u with h0 | h0
  · exact mulB ⟨h0, h.2⟩ ⟨h0, h.2⟩
  · have := @mulB (-u) (-u) A A ⟨by omega, by omega⟩ ⟨by omega, by omega⟩
    rwa [Int.neg_mul_neg] at this

/-! ### rings -/
def dist2 (c : Cav) (x y : Int) : Int := (c.x - x) * (c.x - x) + (c.y - y) * (c.y - y)
def ringFrom (s : Site) (c : Cav) (x y : Int) : Nat → Nat → Option Span
  | 0, _ => none
  | n + 1, i => bif decide (dist2 c x y ≤ (s.rings.el i).away * (s.rings.el i).away) then some (s.rings.el i).share else ringFrom s c x y n (i + 1)
/-- The share of a cavern at a place. -/
def ringOf (s : Site) (c : Cav) (x y : Int) : Option Span := ringFrom s c x y s.rings.len 0
abbrev AwayOk (s : Site) : Prop := ∀ i, i < s.rings.len → 0 ≤ (s.rings.el i).away ∧ (s.rings.el i).away ≤ 40000
abbrev zSpan : Span := ⟨0, 0⟩
theorem dist_wr (c : Cav) (x y : Int) (hc : Place c.x c.y) (hp : Place x y) :
    IntKind.i64.wrap (c.x - x) = c.x - x ∧ IntKind.i64.wrap (c.y - y) = c.y - y ∧ IntKind.i64.wrap ((c.x - x) * (c.x - x)) = (c.x - x) * (c.x - x) ∧ IntKind.i64.wrap ((c.y - y) * (c.y - y)) = (c.y - y) * (c.y - y) ∧
    IntKind.i64.wrap ((c.x - x) * (c.x - x) + (c.y - y) * (c.y - y)) = dist2 c x y := by
  have h1 := @sqB (c.x - x) 20000 (by omega)
  have h2 := @sqB (c.y - y) 20000 (by omega)
  exact ⟨wr (by omega), wr (by omega), wr (by omega), wr (by omega), wr (by omega)⟩
theorem l29 (s : Site) (c : Nat) (x y : Int) (ha : AwayOk s) (hc : Place (s.cavs.el c).x (s.cavs.el c).y) (hp : Place x y) (hB : s.rings.len < Big) : ∀ n i fu, s.rings.len = i + n → n < fu →
    L29x0 (E F d) F s (c : Int) x y fu (i : Int) = some (.ret (match ringFrom s (s.cavs.el c) x y n i with
      | some q => .tup [.agg (eSpan q), .bool true]
      | none => .tup [.agg [.int .i64 0, .int .i64 0], .bool false])) := by
  obtain ⟨w1, w2, w3, w4, w5⟩ := dist_wr _ _ _ hc hp
  intro n
  induction n with
  | zero =>
    intro i fu h hf
    obtain ⟨fu, rfl⟩ : ∃ k, fu = k + 1 := ⟨fu - 1, by omega⟩
    rw [L29x0s]
    simp only [Int.ofNat_lt, show ¬ i < s.rings.len by omega, decide_false, cond_false, ringFrom]
  | succ n ih =>
    intro i fu h hf
    obtain ⟨fu, rfl⟩ : ∃ k, fu = k + 1 := ⟨fu - 1, by omega⟩
    rw [L29x0s]
    have h1 := @sqB (s.rings.el i).away 40000 (by have := ha i (by omega); omega)
    simp only [Int.toNat_natCast, w1, w2, w3, w4, w5, Int.ofNat_lt, show i < s.rings.len by omega, decide_true, cond_true, Int.natCast_nonneg, wr (show _ ∧ (s.rings.el i).away * (s.rings.el i).away ≤ _ by omega), wrS (show i < Big by omega), ih (i + 1) fu (by omega) (by omega), ringFrom, ge_iff_le]
    cases decide (dist2 (s.cavs.el c) x y ≤ (s.rings.el i).away * (s.rings.el i).away) <;> rfl
theorem s29 (s : Site) (c : Nat) (x y : Int) (ha : AwayOk s) (hlt : c < s.cavs.len) (hc : Place (s.cavs.el c).x (s.cavs.el c).y) (hp : Place x y) (hB : s.rings.len < Big) (hF : s.rings.len < F) :
    E F (d + 1) 29 [.agg (eSite s), .int .i64 (c : Int), .int .i64 x, .int .i64 y] = some (.ret (match ringOf s (s.cavs.el c) x y with
      | some q => .tup [.agg (eSpan q), .bool true]
      | none => .tup [.agg [.int .i64 0, .int .i64 0], .bool false])) := by
  rw [E_succ, t29, show L29x0 (E F d) F s (c : Int) x y F 0 = _ from l29 F d s c x y ha hc hp hB s.rings.len 0 F (by omega) hF]
  simp only [Int.natCast_nonneg, Int.ofNat_lt, hlt, decide_true, cond_true]
  rfl
theorem l92 (s : Site) (c : Cav) (x y : Int) (ha : AwayOk s) (hc : Place c.x c.y) (hp : Place x y) (hB : s.rings.len < Big) : ∀ n i fu, s.rings.len = i + n → n < fu →
    L92x0 (E F d) F s c x y fu (i : Int) = some (.ret (.agg (eSpan ((ringFrom s c x y n i).getD zSpan)))) := by
  obtain ⟨w1, w2, w3, w4, w5⟩ := dist_wr _ _ _ hc hp
  intro n
  induction n with
  | zero =>
    intro i fu h hf
    obtain ⟨fu, rfl⟩ : ∃ k, fu = k + 1 := ⟨fu - 1, by omega⟩
    rw [L92x0s]
    simp only [Int.ofNat_lt, show ¬ i < s.rings.len by omega, decide_false, cond_false, ringFrom]
    rfl
  | succ n ih =>
    intro i fu h hf
    obtain ⟨fu, rfl⟩ : ∃ k, fu = k + 1 := ⟨fu - 1, by omega⟩
    rw [L92x0s]
    have h1 := @sqB (s.rings.el i).away 40000 (by have := ha i (by omega); omega)
    simp only [Int.toNat_natCast, w1, w2, w3, w4, w5, Int.ofNat_lt, show i < s.rings.len by omega, decide_true, cond_true, Int.natCast_nonneg, wr (show _ ∧ (s.rings.el i).away * (s.rings.el i).away ≤ _ by omega), wrS (show i < Big by omega), ih (i + 1) fu (by omega) (by omega), ringFrom, ge_iff_le]
    cases decide (dist2 c x y ≤ (s.rings.el i).away * (s.rings.el i).away) <;> rfl
theorem s92 (s : Site) (c : Cav) (x y : Int) (ha : AwayOk s) (hc : Place c.x c.y) (hp : Place x y) (hB : s.rings.len < Big) (hF : s.rings.len < F) :
    E F (d + 1) 92 [pSite s, .agg (eCav c), .int .i64 x, .int .i64 y] = some (.ret (.agg (eSpan ((ringOf s c x y).getD zSpan)))) := by
  rw [E_succ, t92, show L92x0 (E F d) F s c x y F 0 = _ from l92 F d s c x y ha hc hp hB s.rings.len 0 F (by omega) hF]
  rfl
/-! ### searches by halves -/
theorem mid_wr {i j : Int} (h1 : -2305843009213693952 ≤ i) (h2 : i ≤ j) (h3 : j ≤ 2305843009213693952) : IntKind.i64.wrap (i + IntKind.i64.wrap (Int.tdiv (IntKind.i64.wrap (j - i)) 2)) = i + (j - i) / 2 := by
  rw [wr (show _ ∧ j - i ≤ _ by omega), Int.tdiv_eq_ediv_of_nonneg (by omega), wr (show _ ∧ (j - i) / 2 ≤ _ by omega), wr (by omega)]
theorem firstLaw (L : Nat → Int → Int → Option Out) (p : Int → Bool) (lo hi : Int)
    (hstep : ∀ fu i j, lo ≤ i → i ≤ j → j ≤ hi → L (fu + 1) i j = bif decide (i < j) then (bif p (i + (j - i) / 2) then L fu i (i + (j - i) / 2) else L fu (i + (j - i) / 2 + 1) j) else some (.ret (.int .i64 i))) :
    ∀ k fu i j, (j - i).toNat ≤ k → k < fu → lo ≤ i → i ≤ j → j ≤ hi → ∃ r, L fu i j = some (.ret (.int .i64 r)) ∧ i ≤ r ∧ r ≤ j ∧ (r < j → p r = true) ∧ (i < r → p (r - 1) = false) := by
  intro k
  induction k with
  | zero =>
    intro fu i j h hf h1 h2 h3
    obtain ⟨fu, rfl⟩ : ∃ k, fu = k + 1 := ⟨fu - 1, by omega⟩
    refine ⟨i, ?_, by omega, by omega, fun h => by omega, fun h => by omega⟩
    rw [hstep _ _ _ h1 h2 h3, decide_eq_false (by omega), cond_false]
  | succ k ih =>
    intro fu i j h hf h1 h2 h3
    obtain ⟨fu, rfl⟩ : ∃ k, fu = k + 1 := ⟨fu - 1, by omega⟩
    by_cases hij : i < j
    · rw [hstep _ _ _ h1 h2 h3, decide_eq_true hij, cond_true]
      cases hp : p (i + (j - i) / 2)
      · rw [cond_false]
        obtain ⟨r, e, r1, r2, r3, r4⟩ := ih fu (i + (j - i) / 2 + 1) j (by omega) (by omega) (by omega) (by omega) (by omega)
        refine ⟨r, e, by omega, r2, r3, fun _ => ?_⟩
        rcases Int.lt_or_eq_of_le r1 with hlt | heq
        · exact r4 hlt
        · rw [← heq, show i + (j - i) / 2 + 1 - 1 = i + (j - i) / 2 by omega]; exact hp
      · rw [cond_true]
        obtain ⟨r, e, r1, r2, r3, r4⟩ := ih fu i (i + (j - i) / 2) (by omega) (by omega) (by omega) (by omega) (by omega)
        refine ⟨r, e, r1, by omega, fun _ => ?_, r4⟩
        rcases Int.lt_or_eq_of_le r2 with hlt | heq
        · exact r3 hlt
        · rw [heq]; exact hp
    · refine ⟨i, ?_, by omega, by omega, fun h => by omega, fun h => by omega⟩
      rw [hstep _ _ _ h1 h2 h3, decide_eq_false hij, cond_false]
/-! ### roots -/
abbrev IsRoot (n r : Int) : Prop := 0 ≤ r ∧ r * r ≤ n ∧ n < (r + 1) * (r + 1)
theorem isRoot_uniq {n r q : Int} (h : IsRoot n r) (g : IsRoot n q) : r = q := by
  have key : ∀ {a b : Int}, IsRoot n a → IsRoot n b → ¬ a < b := by
    intro a b h g hlt
    have := Int.mul_le_mul (show a + 1 ≤ b by omega) (show a + 1 ≤ b by omega) (by omega) (by omega)
    omega
  have h1 := key h g
  have h2 := key g h
  omega
def rootGo (n : Int) : Nat → Int → Int
  | 0, r => r
  | k + 1, r => bif decide ((r + ((2 ^ k : Nat) : Int)) * (r + ((2 ^ k : Nat) : Int)) ≤ n) then rootGo n k (r + ((2 ^ k : Nat) : Int)) else rootGo n k r
theorem rootGo_ok {n : Int} : ∀ {k : Nat} {r : Int}, 0 ≤ r → r * r ≤ n → n < (r + ((2 ^ k : Nat) : Int)) * (r + ((2 ^ k : Nat) : Int)) → IsRoot n (rootGo n k r) := by
  intro k
  induction k with
  | zero => intro r h0 h1 h2; exact ⟨h0, h1, h2⟩
  | succ k ih =>
    intro r h0 h1 h2
    unfold rootGo
    by_cases h : (r + ((2 ^ k : Nat) : Int)) * (r + ((2 ^ k : Nat) : Int)) ≤ n
    · rw [decide_eq_true h, cond_true]
      have hp : (0 : Int) ≤ ((2 ^ k : Nat) : Int) := Int.natCast_nonneg _
      refine ih (Int.add_nonneg h0 hp) h ?_
      rw [show r + ((2 ^ k : Nat) : Int) + ((2 ^ k : Nat) : Int) = r + ((2 ^ (k + 1) : Nat) : Int) by rw [Nat.pow_succ]; omega]
      exact h2
    · rw [decide_eq_false h, cond_false]
      exact ih h0 h1 (by omega)
/-- The greatest number whose square is at most a number (that is less than 2^80). -/
def rootI (n : Int) : Int := rootGo n 40 0
theorem rootI_eq {n r : Int} (h : IsRoot n r) (hr : r < 1099511627776) : rootI n = r := by
  have h2 := Int.mul_le_mul (show r + 1 ≤ 1099511627776 by omega) (show r + 1 ≤ 1099511627776 by omega) (by omega) (by omega)
  have h3 := Int.mul_nonneg h.1 h.1
  refine isRoot_uniq (rootGo_ok (k := 40) (r := 0) (Int.le_refl 0) (by omega) ?_) h
  rw [show (0 : Int) + ((2 ^ 40 : Nat) : Int) = 1099511627776 by decide]
  omega
theorem s115 (x n : Int) (hx : 0 ≤ x ∧ x ≤ 67108864) : E F (d + 1) 115 [.int .i64 x, .rptr 1 1 (fun _ => [.int .i64 n]) 0 0] = some (.ret (.bool (decide (n < x * x)))) := by
  have h := mulB hx hx
  rw [E_succ, t115, wr (by omega)]
theorem s105 (n : Int) (h0 : 0 ≤ n) (h1 : n < 67108863 * 67108863) (hF : 67108864 < F) : E F (d + 3) 105 [.int .i64 n] = some (.ret (.int .i64 (rootI n))) ∧ IsRoot n (rootI n) := by
  obtain ⟨r, e, r1, r2, r3, r4⟩ := firstLaw (fun fu i j => L7601x0 (E F (d + 1)) F 1 67108864 n fu i j) (fun x => decide (n < x * x)) 1 67108864 (by
    intro fu i j a1 a2 a3
    rw [L7601x0s]
    by_cases hij : i < j
    · simp only [mid_wr (show -2305843009213693952 ≤ i by omega) a2 (by omega), wr (show _ ∧ i + (j - i) / 2 + 1 ≤ _ by omega), s115 F d _ n (show 0 ≤ i + (j - i) / 2 ∧ _ by omega), tkOut_ret, tkBool_b]
    · simp only [hij, decide_false, cond_false]) 67108863 F 1 67108864 (by omega) (by omega) (by omega) (by omega) (by omega)
  have hr : IsRoot n (r - 1) := by
    refine ⟨by omega, ?_, ?_⟩
    · by_cases h : 1 < r
      · have := of_decide_eq_false (r4 h); omega
      · have : r - 1 = 0 := by omega
        rw [this]; omega
    · rw [show r - 1 + 1 = r by omega]
      by_cases h : r < 67108864
      · exact of_decide_eq_true (r3 h)
      · have : r = 67108864 := by omega
        rw [this]; omega
  refine ⟨?_, rootI_eq hr (by omega) ▸ hr⟩
  have e' : L7601x0 (E F (d + 1)) F 1 67108864 n F 1 67108864 = _ := e
  rw [E_succ, t105, E_succ, t7601, e']
  simp only [tkOut_ret, tkInt_i, decide_true, cond_true]
  rw [wr (by omega), rootI_eq hr (by omega)]
theorem l104 (n : Int) (h0 : 0 ≤ n) (h1 : n < 2147483648 * 2147483648) : ∀ k fu i j, (j - i).toNat ≤ k → k < fu → 0 ≤ i → i ≤ j → j ≤ 2147483648 → i * i ≤ n → n < (j + 1) * (j + 1) →
    L104x0 (E F d) F n fu i j = some (.ret (.int .i64 (rootI n))) ∧ IsRoot n (rootI n) := by
  intro k
  induction k with
  | zero =>
    intro fu i j h hf g0 g1 g2 g3 g4
    obtain ⟨fu, rfl⟩ : ∃ k, fu = k + 1 := ⟨fu - 1, by omega⟩
    have : j = i := by omega
    subst this
    have hr : IsRoot n j := ⟨g0, g3, g4⟩
    rw [L104x0s, rootI_eq hr (by omega), decide_eq_false (by omega), cond_false]
    exact ⟨rfl, hr⟩
  | succ k ih =>
    intro fu i j h hf g0 g1 g2 g3 g4
    obtain ⟨fu, rfl⟩ : ∃ k, fu = k + 1 := ⟨fu - 1, by omega⟩
    rw [L104x0s]
    by_cases hij : i < j
    · have hm : IntKind.i64.wrap (Int.tdiv (IntKind.i64.wrap (IntKind.i64.wrap (i + j) + 1)) 2) = (i + j + 1) / 2 := by
        rw [wr (show _ ∧ i + j ≤ _ by omega), wr (show _ ∧ i + j + 1 ≤ _ by omega), Int.tdiv_eq_ediv_of_nonneg (by omega), wr (by omega)]
      have hmm := @mulB ((i + j + 1) / 2) ((i + j + 1) / 2) 2147483648 2147483648 (by omega) (by omega)
      rw [hm, wr (show _ ∧ (i + j + 1) / 2 * ((i + j + 1) / 2) ≤ _ by omega), wr (show _ ∧ (i + j + 1) / 2 - 1 ≤ _ by omega), decide_eq_true hij, cond_true]
      by_cases hc : (i + j + 1) / 2 * ((i + j + 1) / 2) ≤ n
      · rw [decide_eq_true hc, cond_true]
        exact ih fu _ _ (by omega) (by omega) (by omega) (by omega) (by omega) hc g4
      · rw [decide_eq_false hc, cond_false]
        refine ih fu _ _ (by omega) (by omega) (by omega) (by omega) (by omega) g3 ?_
        rw [show (i + j + 1) / 2 - 1 + 1 = (i + j + 1) / 2 by omega]; omega
    · have : j = i := by omega
      subst this
      have hr : IsRoot n j := ⟨g0, g3, g4⟩
      rw [rootI_eq hr (by omega), decide_eq_false (by omega), cond_false]
      exact ⟨rfl, hr⟩
theorem s104 (n : Int) (h0 : 0 ≤ n) (h1 : n < 2147483648 * 2147483648) (hF : 2147483648 < F) : E F (d + 1) 104 [.int .i64 n] = some (.ret (.int .i64 (rootI n))) := by
  rw [E_succ, t104]
  exact (l104 F d n h0 h1 2147483648 F 0 2147483648 (by omega) hF (by omega) (by omega) (by omega) (by omega) (by omega)).1
/-! ### walls -/
/-- The distance of two caverns, in millimetres. -/
def distI (a b : Cav) : Int := rootI (1000 * (a.x - b.x) * (1000 * (a.x - b.x)) + 1000 * (a.y - b.y) * (1000 * (a.y - b.y)))
theorem wall_wr (a b : Cav) (ha : Place a.x a.y) (hb : Place b.x b.y) :
    IntKind.i64.wrap (a.x - b.x) = a.x - b.x ∧ IntKind.i64.wrap (a.y - b.y) = a.y - b.y ∧ IntKind.i64.wrap (1000 * (a.x - b.x)) = 1000 * (a.x - b.x) ∧ IntKind.i64.wrap (1000 * (a.y - b.y)) = 1000 * (a.y - b.y) ∧
    IntKind.i64.wrap (1000 * (a.x - b.x) * (1000 * (a.x - b.x))) = 1000 * (a.x - b.x) * (1000 * (a.x - b.x)) ∧ IntKind.i64.wrap (1000 * (a.y - b.y) * (1000 * (a.y - b.y))) = 1000 * (a.y - b.y) * (1000 * (a.y - b.y)) ∧
    IntKind.i64.wrap (1000 * (a.x - b.x) * (1000 * (a.x - b.x)) + 1000 * (a.y - b.y) * (1000 * (a.y - b.y))) = 1000 * (a.x - b.x) * (1000 * (a.x - b.x)) + 1000 * (a.y - b.y) * (1000 * (a.y - b.y)) ∧
    0 ≤ 1000 * (a.x - b.x) * (1000 * (a.x - b.x)) + 1000 * (a.y - b.y) * (1000 * (a.y - b.y)) ∧ 1000 * (a.x - b.x) * (1000 * (a.x - b.x)) + 1000 * (a.y - b.y) * (1000 * (a.y - b.y)) < 67108863 * 67108863 := by
  have h1 := @sqB (1000 * (a.x - b.x)) 20000000 (by omega)
  have h2 := @sqB (1000 * (a.y - b.y)) 20000000 (by omega)
  exact ⟨wr (by omega), wr (by omega), wr (by omega), wr (by omega), wr (by omega), wr (by omega), wr (by omega), by omega, by omega⟩
theorem distI_le (a b : Cav) (ha : Place a.x a.y) (hb : Place b.x b.y) : 0 ≤ distI a b ∧ distI a b < 67108863 := by
  obtain ⟨_, _, _, _, _, _, _, w8, w9⟩ := wall_wr a b ha hb
  obtain ⟨_, h1, h2, h3⟩ := s105 67108865 0 _ w8 w9 (by omega)
  refine ⟨h1, Int.not_le.1 fun h => ?_⟩
  have := Int.mul_le_mul h h (by omega) h1
  unfold distI at this
  omega
theorem s73 (s : Site) (i j : Nat) (a b : Int) (hi : i < s.cavs.len) (hj : j < s.cavs.len) (pi : Place (s.cavs.el i).x (s.cavs.el i).y) (pj : Place (s.cavs.el j).x (s.cavs.el j).y)
    (ha : 0 ≤ a ∧ a ≤ 1000000) (hb : 0 ≤ b ∧ b ≤ 1000000) (hF : 67108864 < F) :
    E F (d + 4) 73 [pSite s, .int .i64 (i : Int), .int .i64 (j : Int), .int .i64 a, .int .i64 b] = some (.ret (.int .i64 (distI (s.cavs.el i) (s.cavs.el j) - a - b))) := by
  obtain ⟨w1, w2, w3, w4, w5, w6, w7, w8, w9⟩ := wall_wr _ _ pi pj
  have hd := distI_le _ _ pi pj
  rw [E_succ, t73]
  simp only [Int.natCast_nonneg, Int.ofNat_lt, hi, hj, decide_true, cond_true, Int.toNat_natCast, w1, w2, w3, w4, w5, w6, w7, (s105 F d _ w8 w9 hF).1, tkOut_ret, tkInt_i]
  refine congrArg (fun x => some (Out.ret (.int .i64 x))) ?_
  unfold distI at hd ⊢
  rw [wr (show _ ∧ rootI _ - a ≤ _ by omega), wr (by omega)]
theorem s71 (s : Site) (i j : Nat) (hi : i < s.cavs.len) (hj : j < s.cavs.len) (pi : Place (s.cavs.el i).x (s.cavs.el i).y) (pj : Place (s.cavs.el j).x (s.cavs.el j).y) (hF : 2147483648 < F) :
    E F (d + 2) 71 [.agg (eSite s), .int .i64 (i : Int), .int .i64 (j : Int)] = some (.ret (.int .i64 (distI (s.cavs.el i) (s.cavs.el j)))) := by
  obtain ⟨w1, w2, w3, w4, w5, w6, w7, w8, w9⟩ := wall_wr _ _ pi pj
  rw [E_succ, t71]
  simp only [Int.natCast_nonneg, Int.ofNat_lt, hi, hj, decide_true, cond_true, Int.toNat_natCast, w1, w2, w3, w4, w5, w6, w7, s104 F d _ w8 (by omega) hF, tkOut_ret, tkInt_i]
  rfl
theorem s40 (s : Site) (i j : Nat) (p q : Span) (hi : i < s.cavs.len) (hj : j < s.cavs.len) (pi : Place (s.cavs.el i).x (s.cavs.el i).y) (pj : Place (s.cavs.el j).x (s.cavs.el j).y)
    (hp : SpanIn p 0 1000000) (hq : SpanIn q 0 1000000) (hF : 2147483648 < F) :
    E F (d + 3) 40 [.agg (eSite s), .int .i64 (i : Int), .int .i64 (j : Int), .agg (eSpan p), .agg (eSpan q)] =
      some (.ret (.agg [.int .i64 (distI (s.cavs.el i) (s.cavs.el j) - p.hi - q.hi), .int .i64 (distI (s.cavs.el i) (s.cavs.el j) - p.lo - q.lo)])) := by
  have hd := distI_le _ _ pi pj
  rw [E_succ, t40]
  simp only [s71 F d s i j hi hj pi pj hF, tkOut_ret, tkInt_i, decide_true, cond_true]
  rw [wr (show _ ∧ distI (s.cavs.el i) (s.cavs.el j) - p.hi ≤ _ by omega), wr (show _ ∧ distI (s.cavs.el i) (s.cavs.el j) - p.lo ≤ _ by omega), wr (show _ ∧ distI (s.cavs.el i) (s.cavs.el j) - p.hi - q.hi ≤ _ by omega), wr (show _ ∧ distI (s.cavs.el i) (s.cavs.el j) - p.lo - q.lo ≤ _ by omega)]
end Go.Sim.Cr

/-
  What the evaluator says of these functions (printed by a private program; each row is checked by the kernel).
-/
set_option maxRecDepth 100000
namespace Go.Sim.Cr
open Go.Proofs

noncomputable def L78x0 (env : Env) (F : Nat) (s : Site) (fu : Nat) (i0 : Int) : Option Out := atLoop Try.prog (cfg F) env 78 [.r, .l, .r, .d] [] fu { tm := tmL 182 0 [(1, (.optr 0 0 0)), (10, (sl eRow 5 (Site.rows s))), (11, (.int .i64 (((Sl.len (Site.rows s)) : Nat) : Int))), (12, (.int .i64 i0))], hp := [(.box 28 (eSite s) true)] }
noncomputable def L78x1 (env : Env) (F : Nat) (s : Site) (fu : Nat) (i0 : Int) : Option Out := atLoop Try.prog (cfg F) env 78 [.r, .r, .l, .r, .d] [] fu { tm := tmL 182 0 [(1, (.optr 0 0 0)), (84, (sl eHeat 3 (Site.heats s))), (85, (.int .i64 (((Sl.len (Site.heats s)) : Nat) : Int))), (86, (.int .i64 i0))], hp := [(.box 28 (eSite s) true)] }
noncomputable def L78x2 (env : Env) (F : Nat) (s : Site) (fu : Nat) (i0 : Int) : Option Out := atLoop Try.prog (cfg F) env 78 [.r, .r, .r, .l, .r, .d] [] fu { tm := tmL 182 0 [(1, (.optr 0 0 0)), (132, (sl eRing 3 (Site.rings s))), (133, (.int .i64 (((Sl.len (Site.rings s)) : Nat) : Int))), (134, (.int .i64 i0))], hp := [(.box 28 (eSite s) true)] }
theorem t78 (env : Env) (F : Nat) (s : Site) : (evFun Try.prog (cfg F) env 78 [(.agg (eSite s))]) =
  (L78x0 env F s F (0 : Int)) := by kernel_rfl
theorem L78x0s (env : Env) (F : Nat) (s : Site) (fu : Nat) (i0 : Int) : L78x0 env F s (fu + 1) i0 =
  (bif (decide (i0 < (((Sl.len (Site.rows s)) : Nat) : Int))) then (bif (decide ((0 : Int) ≤ i0)) then (bif (decide (i0 < (((Sl.len (Site.rows s)) : Nat) : Int))) then (tkOut (env 72 [(.int .i64 (Row.deficit (Sl.el (Site.rows s) (Int.toNat i0)))), (.int .i64 (0 : Int)), (.int .i64 (50000 : Int))]) none (fun v5 => (tkBool v5 none fun b6 => (bif (!b6) then some (.ret (.bool false))
            else (tkOut (env 74 [(.agg (eSpan (Row.rate (Sl.el (Site.rows s) (Int.toNat i0))))), (.int .i64 (100000 : Int))]) none (fun v7 => (tkBool v7 none fun b8 => (bif (!b8) then some (.ret (.bool false))
                  else (tkOut (env 74 [(.agg (eSpan (Row.spall (Sl.el (Site.rows s) (Int.toNat i0))))), (.int .i64 (1000 : Int))]) none (fun v9 => (tkBool v9 none fun b10 => (bif (!b10) then some (.ret (.bool false))
                        else (bif (i0 == (0 : Int)) then (bif ((Row.deficit (Sl.el (Site.rows s) (Int.toNat i0))) != (0 : Int)) then some (.ret (.bool false))
                            else (bif (decide (i0 > (0 : Int))) then (bif (decide ((0 : Int) ≤ (IntKind.wrap .i64 (i0 - (1 : Int))))) then (bif (decide ((IntKind.wrap .i64 (i0 - (1 : Int))) < (((Sl.len (Site.rows s)) : Nat) : Int))) then (bif (decide ((Row.deficit (Sl.el (Site.rows s) (Int.toNat i0))) ≤ (Row.deficit (Sl.el (Site.rows s) (Int.toNat (IntKind.wrap .i64 (i0 - (1 : Int)))))))) then some (.ret (.bool false))
                                    else (bif (decide ((0 : Int) ≤ (IntKind.wrap .i64 (i0 - (1 : Int))))) then (bif (decide ((IntKind.wrap .i64 (i0 - (1 : Int))) < (((Sl.len (Site.rows s)) : Nat) : Int))) then (tkOut (env 107 [(.agg (eSpan (Row.rate (Sl.el (Site.rows s) (Int.toNat i0))))), (.agg (eSpan (Row.rate (Sl.el (Site.rows s) (Int.toNat (IntKind.wrap .i64 (i0 - (1 : Int))))))))]) none (fun v11 => (tkBool v11 none fun b12 => (bif (!b12) then some (.ret (.bool false))
                                              else (bif (decide ((0 : Int) ≤ (IntKind.wrap .i64 (i0 - (1 : Int))))) then (bif (decide ((IntKind.wrap .i64 (i0 - (1 : Int))) < (((Sl.len (Site.rows s)) : Nat) : Int))) then (tkOut (env 107 [(.agg (eSpan (Row.spall (Sl.el (Site.rows s) (Int.toNat i0))))), (.agg (eSpan (Row.spall (Sl.el (Site.rows s) (Int.toNat (IntKind.wrap .i64 (i0 - (1 : Int))))))))]) none (fun v13 => (tkBool v13 none fun b14 => (bif (!b14) then some (.ret (.bool false))
                                                        else (L78x0 env F s fu (IntKind.wrap .i64 (i0 + (1 : Int)))))))
                                                    (fun p13 => (tkIfc p13 none fun t14 x15 => (bif (flatP (.iface t14 x15)) then some (.pan (.iface t14 x15))
                                                        else none))))
                                                  else none)
                                                else none))))
                                          (fun p11 => (tkIfc p11 none fun t12 x13 => (bif (flatP (.iface t12 x13)) then some (.pan (.iface t12 x13))
                                              else none))))
                                        else none)
                                      else none))
                                  else none)
                                else none)
                              else (L78x0 env F s fu (IntKind.wrap .i64 (i0 + (1 : Int))))))
                          else (bif (decide (i0 > (0 : Int))) then (bif (decide ((0 : Int) ≤ (IntKind.wrap .i64 (i0 - (1 : Int))))) then (bif (decide ((IntKind.wrap .i64 (i0 - (1 : Int))) < (((Sl.len (Site.rows s)) : Nat) : Int))) then (bif (decide ((Row.deficit (Sl.el (Site.rows s) (Int.toNat i0))) ≤ (Row.deficit (Sl.el (Site.rows s) (Int.toNat (IntKind.wrap .i64 (i0 - (1 : Int)))))))) then some (.ret (.bool false))
                                  else (bif (decide ((0 : Int) ≤ (IntKind.wrap .i64 (i0 - (1 : Int))))) then (bif (decide ((IntKind.wrap .i64 (i0 - (1 : Int))) < (((Sl.len (Site.rows s)) : Nat) : Int))) then (tkOut (env 107 [(.agg (eSpan (Row.rate (Sl.el (Site.rows s) (Int.toNat i0))))), (.agg (eSpan (Row.rate (Sl.el (Site.rows s) (Int.toNat (IntKind.wrap .i64 (i0 - (1 : Int))))))))]) none (fun v11 => (tkBool v11 none fun b12 => (bif (!b12) then some (.ret (.bool false))
                                            else (bif (decide ((0 : Int) ≤ (IntKind.wrap .i64 (i0 - (1 : Int))))) then (bif (decide ((IntKind.wrap .i64 (i0 - (1 : Int))) < (((Sl.len (Site.rows s)) : Nat) : Int))) then (tkOut (env 107 [(.agg (eSpan (Row.spall (Sl.el (Site.rows s) (Int.toNat i0))))), (.agg (eSpan (Row.spall (Sl.el (Site.rows s) (Int.toNat (IntKind.wrap .i64 (i0 - (1 : Int))))))))]) none (fun v13 => (tkBool v13 none fun b14 => (bif (!b14) then some (.ret (.bool false))
                                                      else (L78x0 env F s fu (IntKind.wrap .i64 (i0 + (1 : Int)))))))
                                                  (fun p13 => (tkIfc p13 none fun t14 x15 => (bif (flatP (.iface t14 x15)) then some (.pan (.iface t14 x15))
                                                      else none))))
                                                else none)
                                              else none))))
                                        (fun p11 => (tkIfc p11 none fun t12 x13 => (bif (flatP (.iface t12 x13)) then some (.pan (.iface t12 x13))
                                            else none))))
                                      else none)
                                    else none))
                                else none)
                              else none)
                            else (L78x0 env F s fu (IntKind.wrap .i64 (i0 + (1 : Int)))))))))
                    (fun p9 => (tkIfc p9 none fun t10 x11 => (bif (flatP (.iface t10 x11)) then some (.pan (.iface t10 x11))
                        else none)))))))
              (fun p7 => (tkIfc p7 none fun t8 x9 => (bif (flatP (.iface t8 x9)) then some (.pan (.iface t8 x9))
                  else none)))))))
        (fun p5 => (tkIfc p5 none fun t6 x7 => (bif (flatP (.iface t6 x7)) then some (.pan (.iface t6 x7))
            else none))))
      else none)
    else none)
  else (L78x1 env F s F (0 : Int))) := by kernel_rfl
theorem L78x1s (env : Env) (F : Nat) (s : Site) (fu : Nat) (i0 : Int) : L78x1 env F s (fu + 1) i0 =
  (bif (decide (i0 < (((Sl.len (Site.heats s)) : Nat) : Int))) then (bif (decide ((0 : Int) ≤ i0)) then (bif (decide (i0 < (((Sl.len (Site.heats s)) : Nat) : Int))) then (tkOut (env 72 [(.int .i64 (Heat.warmth (Sl.el (Site.heats s) (Int.toNat i0)))), (.int .i64 (0 : Int)), (.int .i64 (10000 : Int))]) none (fun v5 => (tkBool v5 none fun b6 => (bif (!b6) then some (.ret (.bool false))
            else (tkOut (env 74 [(.agg (eSpan (Heat.factor (Sl.el (Site.heats s) (Int.toNat i0))))), (.int .i64 (10000 : Int))]) none (fun v7 => (tkBool v7 none fun b8 => (bif (!b8) then some (.ret (.bool false))
                  else (bif (decide (i0 > (0 : Int))) then (bif (decide ((0 : Int) ≤ (IntKind.wrap .i64 (i0 - (1 : Int))))) then (bif (decide ((IntKind.wrap .i64 (i0 - (1 : Int))) < (((Sl.len (Site.heats s)) : Nat) : Int))) then (bif (decide ((Heat.warmth (Sl.el (Site.heats s) (Int.toNat i0))) ≤ (Heat.warmth (Sl.el (Site.heats s) (Int.toNat (IntKind.wrap .i64 (i0 - (1 : Int)))))))) then some (.ret (.bool false))
                          else (bif (decide ((0 : Int) ≤ (IntKind.wrap .i64 (i0 - (1 : Int))))) then (bif (decide ((IntKind.wrap .i64 (i0 - (1 : Int))) < (((Sl.len (Site.heats s)) : Nat) : Int))) then (tkOut (env 107 [(.agg (eSpan (Heat.factor (Sl.el (Site.heats s) (Int.toNat i0))))), (.agg (eSpan (Heat.factor (Sl.el (Site.heats s) (Int.toNat (IntKind.wrap .i64 (i0 - (1 : Int))))))))]) none (fun v9 => (tkBool v9 none fun b10 => (bif (!b10) then some (.ret (.bool false))
                                    else (L78x1 env F s fu (IntKind.wrap .i64 (i0 + (1 : Int)))))))
                                (fun p9 => (tkIfc p9 none fun t10 x11 => (bif (flatP (.iface t10 x11)) then some (.pan (.iface t10 x11))
                                    else none))))
                              else none)
                            else none))
                        else none)
                      else none)
                    else (L78x1 env F s fu (IntKind.wrap .i64 (i0 + (1 : Int))))))))
              (fun p7 => (tkIfc p7 none fun t8 x9 => (bif (flatP (.iface t8 x9)) then some (.pan (.iface t8 x9))
                  else none)))))))
        (fun p5 => (tkIfc p5 none fun t6 x7 => (bif (flatP (.iface t6 x7)) then some (.pan (.iface t6 x7))
            else none))))
      else none)
    else none)
  else (L78x2 env F s F (0 : Int))) := by kernel_rfl
theorem L78x2s (env : Env) (F : Nat) (s : Site) (fu : Nat) (i0 : Int) : L78x2 env F s (fu + 1) i0 =
  (bif (decide (i0 < (((Sl.len (Site.rings s)) : Nat) : Int))) then (bif (decide ((0 : Int) ≤ i0)) then (bif (decide (i0 < (((Sl.len (Site.rings s)) : Nat) : Int))) then (tkOut (env 72 [(.int .i64 (Ring.away (Sl.el (Site.rings s) (Int.toNat i0)))), (.int .i64 (0 : Int)), (.int .i64 (40000 : Int))]) none (fun v5 => (tkBool v5 none fun b6 => (bif (!b6) then some (.ret (.bool false))
            else (tkOut (env 74 [(.agg (eSpan (Ring.share (Sl.el (Site.rings s) (Int.toNat i0))))), (.int .i64 (1000000 : Int))]) none (fun v7 => (tkBool v7 none fun b8 => (bif (!b8) then some (.ret (.bool false))
                  else (bif (decide (i0 > (0 : Int))) then (bif (decide ((0 : Int) ≤ (IntKind.wrap .i64 (i0 - (1 : Int))))) then (bif (decide ((IntKind.wrap .i64 (i0 - (1 : Int))) < (((Sl.len (Site.rings s)) : Nat) : Int))) then (bif (decide ((Ring.away (Sl.el (Site.rings s) (Int.toNat i0))) ≤ (Ring.away (Sl.el (Site.rings s) (Int.toNat (IntKind.wrap .i64 (i0 - (1 : Int)))))))) then some (.ret (.bool false))
                          else (L78x2 env F s fu (IntKind.wrap .i64 (i0 + (1 : Int)))))
                        else none)
                      else none)
                    else (L78x2 env F s fu (IntKind.wrap .i64 (i0 + (1 : Int))))))))
              (fun p7 => (tkIfc p7 none fun t8 x9 => (bif (flatP (.iface t8 x9)) then some (.pan (.iface t8 x9))
                  else none)))))))
        (fun p5 => (tkIfc p5 none fun t6 x7 => (bif (flatP (.iface t6 x7)) then some (.pan (.iface t6 x7))
            else none))))
      else none)
    else none)
  else (tkOut (env 72 [(.int .i64 (((Sl.len (Site.rows s)) : Nat) : Int)), (.int .i64 (1 : Int)), (.int .i64 (8 : Int))]) none (fun v5 => (tkBool v5 none fun b6 => (bif b6 then (tkOut (env 72 [(.int .i64 (((Sl.len (Site.heats s)) : Nat) : Int)), (.int .i64 (1 : Int)), (.int .i64 (8 : Int))]) none (fun v7 => (tkBool v7 none fun b8 => (bif b8 then some (.ret (.bool (decide ((((Sl.len (Site.rings s)) : Nat) : Int) ≤ (8 : Int)))))
              else some (.ret (.bool false)))))
          (fun p7 => (tkIfc p7 none fun t8 x9 => (bif (flatP (.iface t8 x9)) then some (.pan (.iface t8 x9))
              else none))))
        else some (.ret (.bool false)))))
    (fun p5 => (tkIfc p5 none fun t6 x7 => (bif (flatP (.iface t6 x7)) then some (.pan (.iface t6 x7))
        else none))))) := by kernel_rfl

end Go.Sim.Cr

/-
  Which sites are as defined, in plain terms: what the program says of it.
-/
namespace Go.Sim.Cr
open Go.Proofs
variable (F d : Nat)
def rowStep (s : Site) : Nat → Bool
  | 0 => decide ((s.rows.el 0).deficit = 0)
  | j + 1 => decide ((s.rows.el j).deficit < (s.rows.el (j + 1)).deficit) && (decide ((s.rows.el j).rate.lo ≤ (s.rows.el (j + 1)).rate.lo ∧ (s.rows.el j).rate.hi ≤ (s.rows.el (j + 1)).rate.hi) &&
      decide ((s.rows.el j).spall.lo ≤ (s.rows.el (j + 1)).spall.lo ∧ (s.rows.el j).spall.hi ≤ (s.rows.el (j + 1)).spall.hi))
def rowB (s : Site) (i : Nat) : Bool := decide (0 ≤ (s.rows.el i).deficit ∧ (s.rows.el i).deficit ≤ 50000) && (decide (SpanIn (s.rows.el i).rate 0 100000) && (decide (SpanIn (s.rows.el i).spall 0 1000) && rowStep s i))
def heatStep (s : Site) : Nat → Bool
  | 0 => true
  | j + 1 => decide ((s.heats.el j).warmth < (s.heats.el (j + 1)).warmth) && decide ((s.heats.el j).factor.lo ≤ (s.heats.el (j + 1)).factor.lo ∧ (s.heats.el j).factor.hi ≤ (s.heats.el (j + 1)).factor.hi)
def heatB (s : Site) (i : Nat) : Bool := decide (0 ≤ (s.heats.el i).warmth ∧ (s.heats.el i).warmth ≤ 10000) && (decide (SpanIn (s.heats.el i).factor 0 10000) && heatStep s i)
def ringStep (s : Site) : Nat → Bool
  | 0 => true
  | j + 1 => decide ((s.rings.el j).away < (s.rings.el (j + 1)).away)
def ringB (s : Site) (i : Nat) : Bool := decide (0 ≤ (s.rings.el i).away ∧ (s.rings.el i).away ≤ 40000) && (decide (SpanIn (s.rings.el i).share 0 1000000) && ringStep s i)
def lens (s : Site) : Bool := decide ((1 ≤ s.rows.len ∧ s.rows.len ≤ 8) ∧ (1 ≤ s.heats.len ∧ s.heats.len ≤ 8) ∧ s.rings.len ≤ 8)
def tablesB (s : Site) : Bool := allF (rowB s) (allF (heatB s) (allF (ringB s) (lens s) s.rings.len 0) s.heats.len 0) s.rows.len 0
theorem wrP (j : Nat) (h : j < Big) : IntKind.i64.wrap (((j + 1 : Nat) : Int) - 1) = (j : Int) := by
  have h' : j < 4611686018427387904 := h
  rw [wr (by omega)]; omega
theorem cNandL (a : Bool) {x : Option Out} {b : Bool} (h : x = some (.ret (.bool b))) : (bif a then some (Out.ret (.bool false)) else x) = some (.ret (.bool (!a && b))) := by subst h; exact cNand a b
theorem nle (a b : Int) : (!decide (a ≤ b)) = decide (b < a) := by apply b2; simp only [Bool.not_eq_true', decide_eq_false_iff_not, decide_eq_true_iff]; omega

theorem l78x2 (s : Site) (hB : s.rings.len < Big) : ∀ n i fu, s.rings.len = i + n → n < fu →
    L78x2 (E F (d + 1)) F s fu (i : Int) = some (.ret (.bool (allF (ringB s) (lens s) n i))) := by
  intro n
  induction n with
  | zero =>
    intro i fu h hf
    obtain ⟨fu, rfl⟩ : ∃ k, fu = k + 1 := ⟨fu - 1, by omega⟩
    rw [L78x2s]
    simp only [Int.ofNat_lt, show ¬ i < s.rings.len by omega, decide_false, cond_false, allF, s72, tkOut_ret, tkBool_b, cAnd]
    refine b3 ?_
    unfold lens
    simp only [Bool.decide_and, Bool.and_assoc, show ∀ k : Nat, ((1 : Int) ≤ (k : Int)) ↔ 1 ≤ k by omega, show ∀ k : Nat, ((k : Int) ≤ 8) ↔ k ≤ 8 by omega]
  | succ n ih =>
    intro i fu h hf
    obtain ⟨fu, rfl⟩ : ∃ k, fu = k + 1 := ⟨fu - 1, by omega⟩
    rw [L78x2s]
    match i with
    | 0 =>
      simp only [Int.ofNat_lt, show 0 < s.rings.len by omega, decide_true, cond_true, Int.natCast_nonneg, Int.toNat_natCast, s72, s74, tkOut_ret, tkBool_b, wrS (show 0 < Big by omega), ih (0 + 1) fu (by omega) (by omega), allF, cNand, Bool.not_not, ringB, ringStep, gt_iff_lt, Bool.and_true, Bool.and_assoc]
      simp only [show decide ((0 : Int) < ((0 : Nat) : Int)) = false from rfl, cond_false, cNand, Bool.not_not]
    | j + 1 =>
      simp only [Int.ofNat_lt, show j + 1 < s.rings.len by omega, show j < s.rings.len by omega, decide_true, cond_true, Int.natCast_nonneg, Int.toNat_natCast, s72, s74, tkOut_ret, tkBool_b, wrS (show j + 1 < Big by omega), wrP j (by omega), ih (j + 1 + 1) fu (by omega) (by omega), allF, cNand, Bool.not_not, ringB, ringStep, gt_iff_lt, show (0 : Int) < ((j + 1 : Nat) : Int) by omega, nle, Bool.and_assoc]
theorem l78x1 (s : Site) (hB : s.heats.len < Big) (hB2 : s.rings.len < Big) (hF2 : s.rings.len < F) : ∀ n i fu, s.heats.len = i + n → n < fu →
    L78x1 (E F (d + 1)) F s fu (i : Int) = some (.ret (.bool (allF (heatB s) (allF (ringB s) (lens s) s.rings.len 0) n i))) := by
  intro n
  induction n with
  | zero =>
    intro i fu h hf
    obtain ⟨fu, rfl⟩ : ∃ k, fu = k + 1 := ⟨fu - 1, by omega⟩
    rw [L78x1s]
    simp only [Int.ofNat_lt, show ¬ i < s.heats.len by omega, decide_false, cond_false, allF]
    exact l78x2 F d s hB2 s.rings.len 0 F (by omega) hF2
  | succ n ih =>
    intro i fu h hf
    obtain ⟨fu, rfl⟩ : ∃ k, fu = k + 1 := ⟨fu - 1, by omega⟩
    rw [L78x1s]
    match i with
    | 0 =>
      simp only [Int.ofNat_lt, show 0 < s.heats.len by omega, decide_true, cond_true, Int.natCast_nonneg, Int.toNat_natCast, s72, s74, tkOut_ret, tkBool_b, wrS (show 0 < Big by omega), ih (0 + 1) fu (by omega) (by omega), allF, cNand, Bool.not_not, heatB, heatStep, gt_iff_lt, Bool.and_true, Bool.and_assoc]
      simp only [show decide ((0 : Int) < ((0 : Nat) : Int)) = false from rfl, cond_false, cNand, Bool.not_not]
    | j + 1 =>
      simp only [Int.ofNat_lt, show j + 1 < s.heats.len by omega, show j < s.heats.len by omega, decide_true, cond_true, Int.natCast_nonneg, Int.toNat_natCast, s72, s74, s107, tkOut_ret, tkBool_b, wrS (show j + 1 < Big by omega), wrP j (by omega), ih (j + 1 + 1) fu (by omega) (by omega), allF, cNand, Bool.not_not, heatB, heatStep, gt_iff_lt, show (0 : Int) < ((j + 1 : Nat) : Int) by omega, nle, Bool.and_assoc]
theorem l78x0 (s : Site) (hB0 : s.rows.len < Big) (hB : s.heats.len < Big) (hF : s.heats.len < F) (hB2 : s.rings.len < Big) (hF2 : s.rings.len < F) : ∀ n i fu, s.rows.len = i + n → n < fu →
    L78x0 (E F (d + 1)) F s fu (i : Int) = some (.ret (.bool (allF (rowB s) (allF (heatB s) (allF (ringB s) (lens s) s.rings.len 0) s.heats.len 0) n i))) := by
  intro n
  induction n with
  | zero =>
    intro i fu h hf
    obtain ⟨fu, rfl⟩ : ∃ k, fu = k + 1 := ⟨fu - 1, by omega⟩
    rw [L78x0s]
    simp only [Int.ofNat_lt, show ¬ i < s.rows.len by omega, decide_false, cond_false, allF]
    exact l78x1 F d s hB hB2 hF2 s.heats.len 0 F (by omega) hF
  | succ n ih =>
    intro i fu h hf
    obtain ⟨fu, rfl⟩ : ∃ k, fu = k + 1 := ⟨fu - 1, by omega⟩
    rw [L78x0s]
    match i with
    | 0 =>
      simp only [Int.ofNat_lt, show 0 < s.rows.len by omega, decide_true, cond_true, Int.natCast_nonneg, Int.toNat_natCast, s72, s74, tkOut_ret, tkBool_b, wrS (show 0 < Big by omega), ih (0 + 1) fu (by omega) (by omega), allF, cNand, Bool.not_not, rowB, rowStep, gt_iff_lt, Bool.and_assoc]
      simp only [show decide ((0 : Int) < ((0 : Nat) : Int)) = false from rfl, show (((0 : Nat) : Int) == 0) = true from rfl, cond_false, cond_true, cNand, Bool.not_not, bne, beqI]
    | j + 1 =>
      simp only [Int.ofNat_lt, show j + 1 < s.rows.len by omega, show j < s.rows.len by omega, decide_true, cond_true, Int.natCast_nonneg, Int.toNat_natCast, s72, s74, s107, tkOut_ret, tkBool_b, wrS (show j + 1 < Big by omega), wrP j (by omega), ih (j + 1 + 1) fu (by omega) (by omega), allF, cNand, Bool.not_not, rowB, rowStep, gt_iff_lt, show (0 : Int) < ((j + 1 : Nat) : Int) by omega, nle, Bool.and_assoc,
        show (((j + 1 : Nat) : Int) == 0) = false from beq_eq_false_iff_ne.2 (by omega), cond_false]
theorem s78 (s : Site) (hB0 : s.rows.len < Big) (hF0 : s.rows.len < F) (hB : s.heats.len < Big) (hF : s.heats.len < F) (hB2 : s.rings.len < Big) (hF2 : s.rings.len < F) :
    E F (d + 2) 78 [.agg (eSite s)] = some (.ret (.bool (tablesB s))) := by
  rw [E_succ, t78]
  exact l78x0 F d s hB0 hB hF hB2 hF2 s.rows.len 0 F (by omega) hF0

def cavB (s : Site) (i : Nat) : Bool := decide (CavOk (s.cavs.el i)) && decide (∀ k, k < i → ¬ ((s.cavs.el k).x = (s.cavs.el i).x ∧ (s.cavs.el k).y = (s.cavs.el i).y))
def housesB (s : Site) : Bool := decide (∀ i, i < s.houses.len → HouseOk (s.houses.el i))
/-- All lists are short enough to be counted. -/
structure Small (s : Site) (F : Nat) : Prop where
  cavs : s.cavs.len < Big
  rows : s.rows.len < Big
  heats : s.heats.len < Big
  rings : s.rings.len < Big
  houses : s.houses.len < Big
  cavsF : s.cavs.len < F
  rowsF : s.rows.len < F
  heatsF : s.heats.len < F
  ringsF : s.rings.len < F
  housesF : s.houses.len < F
def siteB (s : Site) : Bool := decide (1 ≤ s.cavs.len ∧ s.cavs.len ≤ 5) && (tablesB s && (decide (0 ≤ s.wall ∧ s.wall ≤ 1000000) && (decide (s.houses.len ≤ 5) && allF (cavB s) (housesB s) s.cavs.len 0)))
theorem l48 (s : Site) (hs : Small s F) : ∀ n i fu, s.cavs.len = i + n → n < fu →
    L48x0 (E F (d + 5)) F s fu (i : Int) = some (.ret (.bool (allF (cavB s) (housesB s) n i))) := by
  intro n
  induction n with
  | zero =>
    intro i fu h hf
    obtain ⟨fu, rfl⟩ : ∃ k, fu = k + 1 := ⟨fu - 1, by omega⟩
    rw [L48x0s]
    simp only [Int.ofNat_lt, show ¬ i < s.cavs.len by omega, decide_false, cond_false, allF, s82 F d s.houses hs.houses hs.housesF, tkOut_ret, tkBool_b, Bool.not_not, housesB]
  | succ n ih =>
    intro i fu h hf
    obtain ⟨fu, rfl⟩ : ∃ k, fu = k + 1 := ⟨fu - 1, by omega⟩
    rw [L48x0s]
    have h80 := s80 F (d + 2) ⟨s.cavs.nl, i, s.cavs.el⟩ (s.cavs.el i) (by show i < Big; have := hs.cavs; omega) (by show i < F; have := hs.cavsF; omega)
    simp only [Nat.add_assoc, Nat.reduceAdd] at h80
    have hb := hs.cavs
    simp only [Int.ofNat_lt, show i < s.cavs.len by omega, decide_true, cond_true, Int.natCast_nonneg, Int.toNat_natCast, s79, tkOut_ret, tkBool_b, wrS (show i < Big by omega), ih (i + 1) fu (by omega) (by omega), allF, cNand, Bool.not_not, Bool.true_or, Nat.zero_le, show i ≤ s.cavs.len by omega, Nat.sub_zero, h80, cavB, Bool.and_assoc]
theorem s48 (s : Site) (hs : Small s F) : E F (d + 6) 48 [.agg (eSite s)] = some (.ret (.bool (siteB s))) := by
  rw [E_succ, t48, show L48x0 (E F (d + 5)) F s F 0 = _ from l48 F d s hs s.cavs.len 0 F (by omega) hs.cavsF]
  simp only [s72, s78 F (d + 3) s hs.rows hs.rowsF hs.heats hs.heatsF hs.rings hs.ringsF, tkOut_ret, tkBool_b, cNand, Bool.not_not]
  refine b3 ?_
  simp only [siteB, Bool.and_assoc, Bool.decide_and, show ∀ k : Nat, ((1 : Int) ≤ (k : Int)) ↔ 1 ≤ k by omega, show ∀ k : Nat, ((k : Int) ≤ 5) ↔ k ≤ 5 by omega, gt_iff_lt, show ∀ k : Nat, ((5 : Int) < (k : Int)) ↔ ¬ k ≤ 5 by omega, decide_not, Bool.not_not]
end Go.Sim.Cr

/-
  Facts of a site that is as defined; the subsidence at a place, in plain terms.
-/
namespace Go.Sim.Cr
open Go.Proofs
variable (F d : Nat)
structure SiteF (s : Site) : Prop where
  cavs1 : 1 ≤ s.cavs.len
  cavs5 : s.cavs.len ≤ 5
  cav : ∀ i, i < s.cavs.len → CavOk (s.cavs.el i)
  apart : ∀ i k, i < s.cavs.len → k < i → ¬ ((s.cavs.el k).x = (s.cavs.el i).x ∧ (s.cavs.el k).y = (s.cavs.el i).y)
  wall : 0 ≤ s.wall ∧ s.wall ≤ 1000000
  houses5 : s.houses.len ≤ 5
  house : ∀ i, i < s.houses.len → HouseOk (s.houses.el i)
  row : ∀ i, i < s.rows.len → rowB s i = true
  heat : ∀ i, i < s.heats.len → heatB s i = true
  ring : ∀ i, i < s.rings.len → ringB s i = true
  rows1 : 1 ≤ s.rows.len
  rows8 : s.rows.len ≤ 8
  heats1 : 1 ≤ s.heats.len
  heats8 : s.heats.len ≤ 8
  rings8 : s.rings.len ≤ 8
theorem siteB_iff (s : Site) : siteB s = true ↔ SiteF s := by
  simp only [siteB, tablesB, lens, cavB, housesB, Bool.and_eq_true, allF_0, decide_eq_true_iff]
  constructor
  · rintro ⟨⟨h1, h2⟩, ⟨h3, h4, h5, ⟨h6, h7⟩, ⟨h8, h9⟩, h10⟩, h11, h12, h13, h14⟩
    exact ⟨h1, h2, fun i hi => (h13 i hi).1, fun i k hi hk => (h13 i hi).2 k hk, h11, h12, h14, h3, h4, h5, h6, h7, h8, h9, h10⟩
  · intro h
    exact ⟨⟨h.cavs1, h.cavs5⟩, ⟨h.row, h.heat, h.ring, ⟨h.rows1, h.rows8⟩, ⟨h.heats1, h.heats8⟩, h.rings8⟩, h.wall, h.houses5, fun k hk => ⟨h.cav k hk, fun j hj => h.apart k j hk hj⟩, h.house⟩
theorem SiteF.away {s : Site} (h : SiteF s) : AwayOk s := fun i hi => by
  have := h.ring i hi
  simp only [ringB, Bool.and_eq_true, decide_eq_true_iff] at this
  exact this.1
theorem SiteF.share {s : Site} (h : SiteF s) (i : Nat) (hi : i < s.rings.len) : SpanIn (s.rings.el i).share 0 1000000 := by
  have := h.ring i hi
  simp only [ringB, Bool.and_eq_true, decide_eq_true_iff] at this
  exact this.2.1
theorem ringFrom_ok {s : Site} (h : SiteF s) (c : Cav) (x y : Int) : ∀ n i, s.rings.len = i + n → SpanIn ((ringFrom s c x y n i).getD zSpan) 0 1000000 := by
  intro n
  induction n with
  | zero => intro i _; exact (by decide : SpanIn zSpan 0 1000000)
  | succ n ih =>
    intro i hi
    simp only [ringFrom]
    cases decide (dist2 c x y ≤ (s.rings.el i).away * (s.rings.el i).away)
    · exact ih (i + 1) (by omega)
    · exact h.share i (by omega)
/-- The share of a cavern at a place; nothing, if it is too far away. -/
abbrev shareOf (s : Site) (c : Cav) (x y : Int) : Span := (ringOf s c x y).getD zSpan
theorem shareOf_ok {s : Site} (h : SiteF s) (c : Cav) (x y : Int) : SpanIn (shareOf s c x y) 0 1000000 := ringFrom_ok h c x y s.rings.len 0 (by omega)

def sunkFrom (s : Site) (l : Sl Stt) (x y : Int) : Nat → Nat → Int → Int → Span
  | 0, _, a, b => ⟨a, b⟩
  | n + 1, i, a, b => sunkFrom s l x y n (i + 1) (a + (l.el i).lost.lo * (shareOf s (s.cavs.el i) x y).lo / 1000000) (b + ((l.el i).lost.hi * (shareOf s (s.cavs.el i) x y).hi + 999999) / 1000000)
/-- The bounds of the subsidence at a place. -/
def sunk (s : Site) (l : Sl Stt) (x y : Int) : Span := sunkFrom s l x y l.len 0 0 0
theorem lowW {v q a : Int} (hv : 0 ≤ v ∧ v ≤ 1000000000) (hq : 0 ≤ q ∧ q ≤ 1000000) (ha : 0 ≤ a ∧ a ≤ 1000000000000) : IntKind.i64.wrap (a + IntKind.i64.wrap (Int.tdiv (IntKind.i64.wrap (v * q)) 1000000)) = a + v * q / 1000000 := by
  have h := mulB hv hq
  rw [wr (show _ ∧ v * q ≤ _ by omega), Int.tdiv_eq_ediv_of_nonneg (by omega), wr (show _ ∧ v * q / 1000000 ≤ _ by omega), wr (by omega)]
theorem highW {v q a : Int} (hv : 0 ≤ v ∧ v ≤ 1000000000) (hq : 0 ≤ q ∧ q ≤ 1000000) (ha : 0 ≤ a ∧ a ≤ 1000000000000) : IntKind.i64.wrap (a + IntKind.i64.wrap (Int.tdiv (IntKind.i64.wrap (IntKind.i64.wrap (v * q) + 999999)) 1000000)) = a + (v * q + 999999) / 1000000 := by
  have h := mulB hv hq
  rw [wr (show _ ∧ v * q ≤ _ by omega), wr (show _ ∧ v * q + 999999 ≤ _ by omega), Int.tdiv_eq_ediv_of_nonneg (by omega), wr (show _ ∧ (v * q + 999999) / 1000000 ≤ _ by omega), wr (by omega)]
theorem div_ok {v q r : Int} (hv : 0 ≤ v ∧ v ≤ 1000000000) (hq : 0 ≤ q ∧ q ≤ 1000000) (hr : 0 ≤ r ∧ r ≤ 999999) : 0 ≤ (v * q + r) / 1000000 ∧ (v * q + r) / 1000000 ≤ 1000000000 := by
  have h := mulB hv hq
  omega
theorem l53 (s : Site) (l : Sl Stt) (x y : Int) (hS : SiteF s) (hl : l.len = s.cavs.len) (hb : ∀ i, i < l.len → SttOk (l.el i)) (hp : Place x y) (hF : s.rings.len < F) : ∀ n i fu a b, l.len = i + n → n < fu →
    0 ≤ a ∧ a ≤ (i : Int) * 1000000000 → 0 ≤ b ∧ b ≤ (i : Int) * 1000000000 →
    L53x0 (E F (d + 1)) F s l x y fu (i : Int) a b = some (.ret (.agg (eSpan (sunkFrom s l x y n i a b)))) := by
  have h5 := hS.cavs5
  have h8 := hS.rings8
  intro n
  induction n with
  | zero =>
    intro i fu a b h hf ha hb
    obtain ⟨fu, rfl⟩ : ∃ k, fu = k + 1 := ⟨fu - 1, by omega⟩
    rw [L53x0s]
    simp only [Int.ofNat_lt, show ¬ i < l.len by omega, decide_false, cond_false, sunkFrom]
  | succ n ih =>
    intro i fu a b h hf ha hb'
    obtain ⟨fu, rfl⟩ : ∃ k, fu = k + 1 := ⟨fu - 1, by omega⟩
    rw [L53x0s]
    have hq := shareOf_ok hS (s.cavs.el i) x y
    have hv := (hb i (by omega)).2.2
    have hi5 : (i : Int) ≤ 5 := by omega
    have d0 := @div_ok (l.el i).lost.lo (shareOf s (s.cavs.el i) x y).lo 0 (by omega) (by omega) (by omega)
    have d1 := @div_ok (l.el i).lost.hi (shareOf s (s.cavs.el i) x y).hi 999999 (by omega) (by omega) (by omega)
    rw [Int.add_zero] at d0
    simp only [Int.ofNat_lt, show i < l.len by omega, show i < s.cavs.len by omega, decide_true, cond_true, Int.natCast_nonneg, Int.toNat_natCast,
      s92 F d s (s.cavs.el i) x y hS.away (hS.cav i (by omega)).1 hp (show s.rings.len < 4611686018427387904 by omega) hF, tkOut_ret, tkAgg_a, tkCons_c, tkInt_i, tkNil_n,
      wrS (show i < 4611686018427387904 by omega), @lowW (l.el i).lost.lo (shareOf s (s.cavs.el i) x y).lo a (by omega) (by omega) (by omega), @highW (l.el i).lost.hi (shareOf s (s.cavs.el i) x y).hi b (by omega) (by omega) (by omega), sunkFrom]
    exact ih (i + 1) fu _ _ (by omega) (by omega) (by omega) (by omega)
theorem s53 (s : Site) (l : Sl Stt) (x y : Int) (hS : SiteF s) (hL : StatesOk s l) (hp : Place x y) (hF : 8 < F) :
    E F (d + 2) 53 [pSite s, sl eStt 6 l, .int .i64 x, .int .i64 y] = some (.ret (.agg (eSpan (sunk s l x y)))) := by
  have h5 := hS.cavs5
  have h8 := hS.rings8
  have hl := hL.1
  rw [E_succ, t53]
  exact l53 F d s l x y hS hL.1 hL.2 hp (by omega) l.len 0 F 0 0 (by omega) (by omega) (by omega) (by omega)
theorem l19 (s : Site) (l : Sl Stt) (x y : Int) (hS : SiteF s) (hl : l.len = s.cavs.len) (hb : ∀ i, i < l.len → SttOk (l.el i)) (hp : Place x y) (hF : s.rings.len < F) : ∀ n i fu a b, l.len = i + n → n < fu →
    0 ≤ a ∧ a ≤ (i : Int) * 1000000000 → 0 ≤ b ∧ b ≤ (i : Int) * 1000000000 →
    L19x0 (E F (d + 1)) F s l x y fu (i : Int) a b = some (.ret (.agg (eSpan (sunkFrom s l x y n i a b)))) := by
  have h5 := hS.cavs5
  have h8 := hS.rings8
  intro n
  induction n with
  | zero =>
    intro i fu a b h hf ha hb
    obtain ⟨fu, rfl⟩ : ∃ k, fu = k + 1 := ⟨fu - 1, by omega⟩
    rw [L19x0s]
    simp only [Int.ofNat_lt, show ¬ i < l.len by omega, decide_false, cond_false, sunkFrom]
  | succ n ih =>
    intro i fu a b h hf ha hb'
    obtain ⟨fu, rfl⟩ : ∃ k, fu = k + 1 := ⟨fu - 1, by omega⟩
    rw [L19x0s]
    have hq := shareOf_ok hS (s.cavs.el i) x y
    have hv := (hb i (by omega)).2.2
    have hi5 : (i : Int) ≤ 5 := by omega
    simp only [Int.ofNat_lt, show i < l.len by omega, decide_true, cond_true, Int.natCast_nonneg, Int.toNat_natCast,
      s29 F d s i x y hS.away (by omega) (hS.cav i (by omega)).1 hp (show s.rings.len < 4611686018427387904 by omega) hF, tkOut_ret, sunkFrom]
    have d0 := @div_ok (l.el i).lost.lo (shareOf s (s.cavs.el i) x y).lo 0 (by omega) (by omega) (by omega)
    have d1 := @div_ok (l.el i).lost.hi (shareOf s (s.cavs.el i) x y).hi 999999 (by omega) (by omega) (by omega)
    rw [Int.add_zero] at d0
    have e0 := @lowW (l.el i).lost.lo (shareOf s (s.cavs.el i) x y).lo a (by omega) (by omega) (by omega)
    have e1 := @highW (l.el i).lost.hi (shareOf s (s.cavs.el i) x y).hi b (by omega) (by omega) (by omega)
    have next := ih (i + 1) fu _ _ (by omega) (by omega) (show 0 ≤ a + (l.el i).lost.lo * (shareOf s (s.cavs.el i) x y).lo / 1000000 ∧ _ by omega) (show 0 ≤ b + ((l.el i).lost.hi * (shareOf s (s.cavs.el i) x y).hi + 999999) / 1000000 ∧ _ by omega)
    unfold shareOf at next e0 e1 ⊢
    cases hr : ringOf s (s.cavs.el i) x y with
    | none =>
      rw [hr] at next
      simp only [tkTup_t, tkCons_c, tkAgg_a, tkInt_i, tkNil_n, tkBool_b, cond_false, wrS (show i < 4611686018427387904 by omega)]
      simpa using next
    | some q =>
      rw [hr] at next e0 e1
      simp only [Option.getD_some] at e0 e1 next
      simp only [tkTup_t, tkCons_c, tkAgg_a, tkInt_i, tkNil_n, tkBool_b, cond_true, decide_true, wrS (show i < 4611686018427387904 by omega), e0, e1, Option.getD_some]
      exact next
theorem s19 (s : Site) (l : Sl Stt) (x y : Int) (hS : SiteF s) (hL : StatesOk s l) (hp : Place x y) (hF : 8 < F) :
    E F (d + 2) 19 [.agg (eSite s), sl eStt 6 l, .int .i64 x, .int .i64 y] = some (.ret (.agg (eSpan (sunk s l x y)))) := by
  have h5 := hS.cavs5
  have h8 := hS.rings8
  have hl := hL.1
  rw [E_succ, t19]
  exact l19 F d s l x y hS hL.1 hL.2 hp (by omega) l.len 0 F 0 0 (by omega) (by omega) (by omega) (by omega)
/-- What 'Sunk' answers. -/
theorem s15 (s : Site) (l : Sl Stt) (x y : Int) (hs : Small s F) (hB : l.len < Big) (hlF : l.len < F) (hF : 8 < F) :
    E F (d + 7) 15 [.agg (eSite s), sl eStt 6 l, .int .i64 x, .int .i64 y] = some (.ret (bif siteB s && (decide (StatesOk s l) && decide (Place x y)) then .tup [.agg (eSpan (sunk s l x y)), .int .i64 0] else .tup [.agg (eSpan zSpan), .int .i64 2])) := by
  rw [E_succ, t15]
  simp only [s48 F d s hs, tkOut_ret, tkBool_b, s49 F d s l hB hlF, s52, Nat.reduceAdd]
  cases h1 : siteB s
  · rfl
  · by_cases h2 : StatesOk s l
    · by_cases h3 : Place x y
      · simp only [decide_eq_true h2, decide_eq_true h3, Bool.not_true, cond_false, Bool.and_self, cond_true, s53 F (d + 4) s l x y ((siteB_iff s).1 h1) h2 h3 hF, tkOut_ret, tkAgg_a, tkCons_c, tkInt_i, tkNil_n]
      · simp only [decide_eq_true h2, decide_eq_false h3, Bool.not_true, Bool.not_false, cond_false, cond_true, Bool.and_false]
    · simp only [decide_eq_false h2, Bool.not_true, Bool.not_false, cond_false, cond_true, Bool.and_false, Bool.false_and]
end Go.Sim.Cr

/-
  Looking up numbers in tables, in plain terms.
-/
namespace Go.Sim.Cr
open Go.Proofs
variable (F d : Nat)
/-- Ever greater numbers. -/
abbrev Inc (num : Nat → Int) (n : Nat) : Prop := ∀ i, i + 1 < n → num i < num (i + 1)
theorem Inc.lt {num : Nat → Int} {n : Nat} (h : Inc num n) : ∀ {j i : Nat}, i < j → j < n → num i < num j := by
  intro j
  induction j with
  | zero => intro i h1; omega
  | succ j ih =>
    intro i h1 h2
    have h3 := h j h2
    by_cases h4 : i = j
    · subst h4; exact h3
    · have := @ih i (by omega) (by omega); omega
/-- The last index whose number is at most one. -/
def lastIx (num : Nat → Int) (x : Int) : Nat → Nat
  | 0 => 0
  | n + 1 => bif decide (num n ≤ x) then n else lastIx num x n
/-- The first index whose number is at least one, of so many from one on. -/
def firstIx (num : Nat → Int) (x : Int) : Nat → Nat → Nat
  | 0, i => i
  | n + 1, i => bif decide (x ≤ num i) then i else firstIx num x n (i + 1)
theorem lastIx_eq {num : Nat → Int} {x : Int} : ∀ {n i : Nat}, i < n → num i ≤ x → (∀ j, i < j → j < n → x < num j) → lastIx num x n = i := by
  intro n
  induction n with
  | zero => intro i h; omega
  | succ n ih =>
    intro i h1 h2 h3
    by_cases h4 : i = n
    · subst h4; rw [lastIx, decide_eq_true h2, cond_true]
    · rw [lastIx, decide_eq_false (by have := h3 n (by omega) (by omega); omega), cond_false]
      exact ih (by omega) h2 fun j h5 h6 => h3 j h5 (by omega)
theorem lastIx_ok {num : Nat → Int} {x : Int} : ∀ {n : Nat}, 0 < n → num 0 ≤ x → lastIx num x n < n ∧ num (lastIx num x n) ≤ x ∧ ∀ j, lastIx num x n < j → j < n → x < num j := by
  intro n
  induction n with
  | zero => intro h; omega
  | succ n ih =>
    intro _ h0
    by_cases h : num n ≤ x
    · rw [lastIx, decide_eq_true h, cond_true]
      exact ⟨by omega, h, fun j h1 h2 => by omega⟩
    · rw [lastIx, decide_eq_false h, cond_false]
      have hn : 0 < n := by
        rcases Nat.eq_zero_or_pos n with rfl | h
        · exact (h h0).elim
        · exact h
      obtain ⟨h1, h2, h3⟩ := ih hn h0
      refine ⟨by omega, h2, fun j h4 h5 => ?_⟩
      by_cases h6 : j = n
      · subst h6; omega
      · exact h3 j h4 (by omega)
theorem firstIx_eq {num : Nat → Int} {x : Int} : ∀ {n i k : Nat}, i ≤ k → k < i + n → x ≤ num k → (∀ j, i ≤ j → j < k → num j < x) → firstIx num x n i = k := by
  intro n
  induction n with
  | zero => intro i k h1 h2; omega
  | succ n ih =>
    intro i k h1 h2 h3 h4
    by_cases h5 : i = k
    · subst h5; rw [firstIx, decide_eq_true h3, cond_true]
    · rw [firstIx, decide_eq_false (by have := h4 i (by omega) (by omega); omega), cond_false]
      exact ih (by omega) (by omega) h3 fun j h6 h7 => h4 j (by omega) h7
theorem firstIx_ok {num : Nat → Int} {x : Int} : ∀ {n i : Nat}, 0 < n → x ≤ num (i + n - 1) → i ≤ firstIx num x n i ∧ firstIx num x n i < i + n ∧ x ≤ num (firstIx num x n i) ∧ ∀ j, i ≤ j → j < firstIx num x n i → num j < x := by
  intro n
  induction n with
  | zero => intro i h; omega
  | succ n ih =>
    intro i _ h0
    by_cases h : x ≤ num i
    · rw [firstIx, decide_eq_true h, cond_true]
      exact ⟨by omega, by omega, h, fun j h1 h2 => by omega⟩
    · rw [firstIx, decide_eq_false h, cond_false]
      have hn : 0 < n := by
        rcases Nat.eq_zero_or_pos n with rfl | h'
        · rw [show i + (0 + 1) - 1 = i by omega] at h0; exact (h h0).elim
        · exact h'
      obtain ⟨h1, h2, h3, h4⟩ := @ih (i + 1) hn (by rw [show i + 1 + n - 1 = i + (n + 1) - 1 by omega]; exact h0)
      refine ⟨by omega, by omega, h3, fun j h5 h6 => ?_⟩
      by_cases h7 : j = i
      · subst h7; omega
      · exact h4 j (by omega) h6
/-- Is a span beyond a table? -/
def offB (num : Nat → Int) (n : Nat) (lo hi : Int) : Bool := decide (lo < num 0) || decide (num (n - 1) < hi)

abbrev rowN (s : Site) : Nat → Int := fun i => (s.rows.el i).deficit
theorem s117 (s : Site) (i : Int) (h0 : 0 ≤ i) (h1 : i < (s.rows.len : Int)) : E F (d + 1) 117 [.int .i64 i, .rptr 1 1 (fun _ => [pSite s]) 0 0] = some (.ret (.int .i64 (rowN s i.toNat))) := by
  rw [E_succ, t117, decide_eq_true h0, decide_eq_true h1]; rfl
theorem s1191 (s : Site) (i lo : Int) (h0 : 0 ≤ i) (h1 : i < (s.rows.len : Int)) : E F (d + 2) 119 [.int .i64 i, .rptr 1 1 (fun _ => [cMap 117 s]) 0 0, .rptr 1 1 (fun _ => [.int .i64 lo]) 0 0] = some (.ret (.bool (decide (lo < rowN s i.toNat)))) := by
  rw [E_succ, t1191, s117 F d s i h0 h1]; rfl
theorem s1201 (s : Site) (i hi : Int) (h0 : 0 ≤ i) (h1 : i < (s.rows.len : Int)) : E F (d + 2) 120 [.int .i64 i, .rptr 1 1 (fun _ => [cMap 117 s]) 0 0, .rptr 1 1 (fun _ => [.int .i64 hi]) 0 0] = some (.ret (.bool (decide (hi ≤ rowN s i.toNat)))) := by
  rw [E_succ, t1201, s117 F d s i h0 h1]; rfl
theorem s7621 (s : Site) (lo : Int) (h1 : 1 ≤ s.rows.len) (h8 : s.rows.len ≤ 8) (hF : 8 < F) : ∃ r, E F (d + 3) 76 [.int .i64 0, .int .i64 (s.rows.len : Int), .fn (.func 119) [] [.rptr 1 1 (fun _ => [cMap 117 s]) 0 0, .rptr 1 1 (fun _ => [.int .i64 lo]) 0 0]] = some (.ret (.int .i64 r)) ∧
    0 ≤ r ∧ r ≤ (s.rows.len : Int) ∧ (r < (s.rows.len : Int) → lo < rowN s r.toNat) ∧ (0 < r → rowN s (r - 1).toNat ≤ lo) := by
  obtain ⟨r, e, r1, r2, r3, r4⟩ := firstLaw (fun fu i j => L7621x0 (E F (d + 2)) F 0 (s.rows.len : Int) lo s fu i j) (fun x => decide (lo < rowN s x.toNat)) 0 (s.rows.len : Int) (by
    intro fu i j a1 a2 a3
    rw [L7621x0s]
    by_cases hij : i < j
    · simp only [mid_wr (show -2305843009213693952 ≤ i by omega) a2 (by omega), wr (show _ ∧ i + (j - i) / 2 + 1 ≤ _ by omega), s1191 F d s (i + (j - i) / 2) lo (by omega) (by omega), tkOut_ret, tkBool_b]
    · simp only [hij, decide_false, cond_false]) 8 F 0 (s.rows.len : Int) (by omega) (by omega) (by omega) (by omega) (by omega)
  refine ⟨r, ?_, r1, r2, fun h => of_decide_eq_true (r3 h), fun h => ?_⟩
  · rw [E_succ, t7621]; exact e
  · have := of_decide_eq_false (r4 h); omega
theorem s7631 (s : Site) (hi : Int) (h1 : 1 ≤ s.rows.len) (h8 : s.rows.len ≤ 8) (hF : 8 < F) : ∃ r, E F (d + 3) 76 [.int .i64 0, .int .i64 (s.rows.len : Int), .fn (.func 120) [] [.rptr 1 1 (fun _ => [cMap 117 s]) 0 0, .rptr 1 1 (fun _ => [.int .i64 hi]) 0 0]] = some (.ret (.int .i64 r)) ∧
    0 ≤ r ∧ r ≤ (s.rows.len : Int) ∧ (r < (s.rows.len : Int) → hi ≤ rowN s r.toNat) ∧ (0 < r → rowN s (r - 1).toNat < hi) := by
  obtain ⟨r, e, r1, r2, r3, r4⟩ := firstLaw (fun fu i j => L7631x0 (E F (d + 2)) F 0 (s.rows.len : Int) hi s fu i j) (fun x => decide (hi ≤ rowN s x.toNat)) 0 (s.rows.len : Int) (by
    intro fu i j a1 a2 a3
    rw [L7631x0s]
    by_cases hij : i < j
    · simp only [mid_wr (show -2305843009213693952 ≤ i by omega) a2 (by omega), wr (show _ ∧ i + (j - i) / 2 + 1 ≤ _ by omega), s1201 F d s (i + (j - i) / 2) hi (by omega) (by omega), tkOut_ret, tkBool_b]
    · simp only [hij, decide_false, cond_false]) 8 F 0 (s.rows.len : Int) (by omega) (by omega) (by omega) (by omega) (by omega)
  refine ⟨r, ?_, r1, r2, fun h => of_decide_eq_true (r3 h), fun h => ?_⟩
  · rw [E_succ, t7631]; exact e
  · have := of_decide_eq_false (r4 h); omega
/-- What 'between' answers. -/
theorem s1161 (s : Site) (lo hi : Int) (hm : Inc (rowN s) s.rows.len) (h1 : 1 ≤ s.rows.len) (h8 : s.rows.len ≤ 8) (hF : 8 < F) : E F (d + 4) 116 [.int .i64 (s.rows.len : Int), cMap 117 s, .int .i64 lo, .int .i64 hi] =
    some (bif offB (rowN s) s.rows.len lo hi then .pan (.iface 146 (.agg [.int .i64 lo])) else .ret (.tup [.int .i64 (lastIx (rowN s) lo s.rows.len : Int), .int .i64 (firstIx (rowN s) hi s.rows.len 0 : Int)])) := by
  obtain ⟨r, e, r1, r2, r3, r4⟩ := s7621 F d s lo h1 h8 hF
  obtain ⟨q, e', q1, q2, q3, q4⟩ := s7631 F d s hi h1 h8 hF
  have z1 : r = 0 ↔ lo < rowN s 0 := by
    constructor
    · intro h; have := r3 (by omega); rw [h] at this; exact this
    · intro h
      rcases Int.lt_or_eq_of_le r1 with h2 | h2
      · have h3 := r4 h2
        by_cases h4 : (r - 1).toNat = 0
        · rw [h4] at h3; omega
        · have := hm.lt (show 0 < (r - 1).toNat by omega) (by omega); omega
      · exact h2.symm
  have z2 : 0 < r → r - 1 = (lastIx (rowN s) lo s.rows.len : Int) := by
    intro h
    have := lastIx_eq (n := s.rows.len) (i := (r - 1).toNat) (by omega) (r4 h) fun j h2 h3 => by
      have h4 := r3 (by omega)
      rcases Nat.lt_or_ge r.toNat j with h5 | h5
      · have := hm.lt h5 h3; omega
      · rw [show j = r.toNat by omega]; exact h4
    omega
  have z3 : q = (s.rows.len : Int) ↔ rowN s (s.rows.len - 1) < hi := by
    constructor
    · intro h; have := q4 (by omega); rw [show (q - 1).toNat = s.rows.len - 1 by omega] at this; exact this
    · intro h
      rcases Int.lt_or_eq_of_le q2 with h2 | h2
      · have h3 := q3 h2
        by_cases h4 : q.toNat = s.rows.len - 1
        · rw [h4] at h3; omega
        · have := hm.lt (show q.toNat < s.rows.len - 1 by omega) (by omega); omega
      · exact h2
  have z4 : q < (s.rows.len : Int) → q = (firstIx (rowN s) hi s.rows.len 0 : Int) := by
    intro h
    have := firstIx_eq (n := s.rows.len) (i := 0) (k := q.toNat) (by omega) (by omega) (q3 h) fun j _ h3 => by
      have h4 := q4 (by omega)
      rcases Nat.lt_or_ge j (q - 1).toNat with h5 | h5
      · have := hm.lt h5 (by omega); omega
      · rw [show j = (q - 1).toNat by omega]; exact h4
    omega
  rw [E_succ, t1161]
  simp only [e, e', tkOut_ret, tkInt_i, decide_true, cond_true, wr (show _ ∧ r - 1 ≤ _ by omega)]
  unfold offB
  by_cases a1 : lo < rowN s 0
  · rw [decide_eq_true a1, decide_eq_true (show r - 1 < 0 by have := z1.2 a1; omega)]; rfl
  · rw [decide_eq_false a1, decide_eq_false (show ¬ r - 1 < 0 by have := mt z1.1 a1; omega), Bool.false_or, cond_false]
    by_cases a2 : rowN s (s.rows.len - 1) < hi
    · rw [decide_eq_true a2, show (q == (s.rows.len : Int)) = true from beq_iff_eq.2 (z3.2 a2)]; rfl
    · rw [decide_eq_false a2, show (q == (s.rows.len : Int)) = false from beq_eq_false_iff_ne.2 (mt z3.1 a2), z2 (by have := mt z1.1 a1; omega), ← z4 (by have := mt z3.1 a2; omega)]; rfl

abbrev heatN (s : Site) : Nat → Int := fun i => (s.heats.el i).warmth
theorem s118 (s : Site) (i : Int) (h0 : 0 ≤ i) (h1 : i < (s.heats.len : Int)) : E F (d + 1) 118 [.int .i64 i, .rptr 1 1 (fun _ => [pSite s]) 0 0] = some (.ret (.int .i64 (heatN s i.toNat))) := by
  rw [E_succ, t118, decide_eq_true h0, decide_eq_true h1]; rfl
theorem s1192 (s : Site) (i lo : Int) (h0 : 0 ≤ i) (h1 : i < (s.heats.len : Int)) : E F (d + 2) 119 [.int .i64 i, .rptr 1 1 (fun _ => [cMap 118 s]) 0 0, .rptr 1 1 (fun _ => [.int .i64 lo]) 0 0] = some (.ret (.bool (decide (lo < heatN s i.toNat)))) := by
  rw [E_succ, t1192, s118 F d s i h0 h1]; rfl
theorem s1202 (s : Site) (i hi : Int) (h0 : 0 ≤ i) (h1 : i < (s.heats.len : Int)) : E F (d + 2) 120 [.int .i64 i, .rptr 1 1 (fun _ => [cMap 118 s]) 0 0, .rptr 1 1 (fun _ => [.int .i64 hi]) 0 0] = some (.ret (.bool (decide (hi ≤ heatN s i.toNat)))) := by
  rw [E_succ, t1202, s118 F d s i h0 h1]; rfl
theorem s7622 (s : Site) (lo : Int) (h1 : 1 ≤ s.heats.len) (h8 : s.heats.len ≤ 8) (hF : 8 < F) : ∃ r, E F (d + 3) 76 [.int .i64 0, .int .i64 (s.heats.len : Int), .fn (.func 119) [] [.rptr 1 1 (fun _ => [cMap 118 s]) 0 0, .rptr 1 1 (fun _ => [.int .i64 lo]) 0 0]] = some (.ret (.int .i64 r)) ∧
    0 ≤ r ∧ r ≤ (s.heats.len : Int) ∧ (r < (s.heats.len : Int) → lo < heatN s r.toNat) ∧ (0 < r → heatN s (r - 1).toNat ≤ lo) := by
  obtain ⟨r, e, r1, r2, r3, r4⟩ := firstLaw (fun fu i j => L7622x0 (E F (d + 2)) F 0 (s.heats.len : Int) lo s fu i j) (fun x => decide (lo < heatN s x.toNat)) 0 (s.heats.len : Int) (by
    intro fu i j a1 a2 a3
    rw [L7622x0s]
    by_cases hij : i < j
    · simp only [mid_wr (show -2305843009213693952 ≤ i by omega) a2 (by omega), wr (show _ ∧ i + (j - i) / 2 + 1 ≤ _ by omega), s1192 F d s (i + (j - i) / 2) lo (by omega) (by omega), tkOut_ret, tkBool_b]
    · simp only [hij, decide_false, cond_false]) 8 F 0 (s.heats.len : Int) (by omega) (by omega) (by omega) (by omega) (by omega)
  refine ⟨r, ?_, r1, r2, fun h => of_decide_eq_true (r3 h), fun h => ?_⟩
  · rw [E_succ, t7622]; exact e
  · have := of_decide_eq_false (r4 h); omega
theorem s7632 (s : Site) (hi : Int) (h1 : 1 ≤ s.heats.len) (h8 : s.heats.len ≤ 8) (hF : 8 < F) : ∃ r, E F (d + 3) 76 [.int .i64 0, .int .i64 (s.heats.len : Int), .fn (.func 120) [] [.rptr 1 1 (fun _ => [cMap 118 s]) 0 0, .rptr 1 1 (fun _ => [.int .i64 hi]) 0 0]] = some (.ret (.int .i64 r)) ∧
    0 ≤ r ∧ r ≤ (s.heats.len : Int) ∧ (r < (s.heats.len : Int) → hi ≤ heatN s r.toNat) ∧ (0 < r → heatN s (r - 1).toNat < hi) := by
  obtain ⟨r, e, r1, r2, r3, r4⟩ := firstLaw (fun fu i j => L7632x0 (E F (d + 2)) F 0 (s.heats.len : Int) hi s fu i j) (fun x => decide (hi ≤ heatN s x.toNat)) 0 (s.heats.len : Int) (by
    intro fu i j a1 a2 a3
    rw [L7632x0s]
    by_cases hij : i < j
    · simp only [mid_wr (show -2305843009213693952 ≤ i by omega) a2 (by omega), wr (show _ ∧ i + (j - i) / 2 + 1 ≤ _ by omega), s1202 F d s (i + (j - i) / 2) hi (by omega) (by omega), tkOut_ret, tkBool_b]
    · simp only [hij, decide_false, cond_false]) 8 F 0 (s.heats.len : Int) (by omega) (by omega) (by omega) (by omega) (by omega)
  refine ⟨r, ?_, r1, r2, fun h => of_decide_eq_true (r3 h), fun h => ?_⟩
  · rw [E_succ, t7632]; exact e
  · have := of_decide_eq_false (r4 h); omega
/-- What 'between' answers. -/
theorem s1162 (s : Site) (lo hi : Int) (hm : Inc (heatN s) s.heats.len) (h1 : 1 ≤ s.heats.len) (h8 : s.heats.len ≤ 8) (hF : 8 < F) : E F (d + 4) 116 [.int .i64 (s.heats.len : Int), cMap 118 s, .int .i64 lo, .int .i64 hi] =
    some (bif offB (heatN s) s.heats.len lo hi then .pan (.iface 146 (.agg [.int .i64 lo])) else .ret (.tup [.int .i64 (lastIx (heatN s) lo s.heats.len : Int), .int .i64 (firstIx (heatN s) hi s.heats.len 0 : Int)])) := by
  obtain ⟨r, e, r1, r2, r3, r4⟩ := s7622 F d s lo h1 h8 hF
  obtain ⟨q, e', q1, q2, q3, q4⟩ := s7632 F d s hi h1 h8 hF
  have z1 : r = 0 ↔ lo < heatN s 0 := by
    constructor
    · intro h; have := r3 (by omega); rw [h] at this; exact this
    · intro h
      rcases Int.lt_or_eq_of_le r1 with h2 | h2
      · have h3 := r4 h2
        by_cases h4 : (r - 1).toNat = 0
        · rw [h4] at h3; omega
        · have := hm.lt (show 0 < (r - 1).toNat by omega) (by omega); omega
      · exact h2.symm
  have z2 : 0 < r → r - 1 = (lastIx (heatN s) lo s.heats.len : Int) := by
    intro h
    have := lastIx_eq (n := s.heats.len) (i := (r - 1).toNat) (by omega) (r4 h) fun j h2 h3 => by
      have h4 := r3 (by omega)
      rcases Nat.lt_or_ge r.toNat j with h5 | h5
      · have := hm.lt h5 h3; omega
      · rw [show j = r.toNat by omega]; exact h4
    omega
  have z3 : q = (s.heats.len : Int) ↔ heatN s (s.heats.len - 1) < hi := by
    constructor
    · intro h; have := q4 (by omega); rw [show (q - 1).toNat = s.heats.len - 1 by omega] at this; exact this
    · intro h
      rcases Int.lt_or_eq_of_le q2 with h2 | h2
      · have h3 := q3 h2
        by_cases h4 : q.toNat = s.heats.len - 1
        · rw [h4] at h3; omega
        · have := hm.lt (show q.toNat < s.heats.len - 1 by omega) (by omega); omega
      · exact h2
  have z4 : q < (s.heats.len : Int) → q = (firstIx (heatN s) hi s.heats.len 0 : Int) := by
    intro h
    have := firstIx_eq (n := s.heats.len) (i := 0) (k := q.toNat) (by omega) (by omega) (q3 h) fun j _ h3 => by
      have h4 := q4 (by omega)
      rcases Nat.lt_or_ge j (q - 1).toNat with h5 | h5
      · have := hm.lt h5 (by omega); omega
      · rw [show j = (q - 1).toNat by omega]; exact h4
    omega
  rw [E_succ, t1162]
  simp only [e, e', tkOut_ret, tkInt_i, decide_true, cond_true, wr (show _ ∧ r - 1 ≤ _ by omega)]
  unfold offB
  by_cases a1 : lo < heatN s 0
  · rw [decide_eq_true a1, decide_eq_true (show r - 1 < 0 by have := z1.2 a1; omega)]; rfl
  · rw [decide_eq_false a1, decide_eq_false (show ¬ r - 1 < 0 by have := mt z1.1 a1; omega), Bool.false_or, cond_false]
    by_cases a2 : heatN s (s.heats.len - 1) < hi
    · rw [decide_eq_true a2, show (q == (s.heats.len : Int)) = true from beq_iff_eq.2 (z3.2 a2)]; rfl
    · rw [decide_eq_false a2, show (q == (s.heats.len : Int)) = false from beq_eq_false_iff_ne.2 (mt z3.1 a2), z2 (by have := mt z1.1 a1; omega), ← z4 (by have := mt z3.1 a2; omega)]; rfl
end Go.Sim.Cr

/-
  What the evaluator says of these functions (printed by a private program; each row is checked by the kernel).
-/
set_option maxRecDepth 100000
namespace Go.Sim.Cr
open Go.Proofs

theorem t112 (env : Env) (F : Nat) (s : Site) (c : Cav) (p : Span) (q : Span) : (evFun Try.prog (cfg F) env 112 [(pSite s), (.agg (eCav c)), (.agg (eSpan p)), (.agg (eSpan q))]) =
  (tkOut (env 116 [(.int .i64 (((Sl.len (Site.rows s)) : Nat) : Int)), (.fn (.func 117) [] [(.rptr 1 1 (fun u6 => [(pSite s)]) 0 0)]), (.int .i64 (IntKind.wrap .i64 ((Cav.rock c) - (Span.hi p)))), (.int .i64 (IntKind.wrap .i64 ((Cav.rock c) - (Span.lo p))))]) none (fun v6 => (tkTup v6 none fun l7 => (tkCons l7 none fun v8 r9 => (tkInt v8 none fun q10 n11 => (tkCons r9 none fun v12 r13 => (tkInt v12 none fun q14 n15 => (tkNil r13 none ((tkOut (env 116 [(.int .i64 (((Sl.len (Site.heats s)) : Nat) : Int)), (.fn (.func 118) [] [(.rptr 1 1 (fun u16 => [(pSite s)]) 0 0)]), (.int .i64 (Span.lo q)), (.int .i64 (Span.hi q))]) none (fun v16 => (tkTup v16 none fun l17 => (tkCons l17 none fun v18 r19 => (tkInt v18 none fun q20 n21 => (tkCons r19 none fun v22 r23 => (tkInt v22 none fun q24 n25 => (tkNil r23 none ((bif (decide ((0 : Int) ≤ n11)) then (bif (decide (n11 < (((Sl.len (Site.rows s)) : Nat) : Int))) then (bif (decide ((0 : Int) ≤ n15)) then (bif (decide (n15 < (((Sl.len (Site.rows s)) : Nat) : Int))) then (bif (decide ((0 : Int) ≤ n11)) then (bif (decide (n11 < (((Sl.len (Site.rows s)) : Nat) : Int))) then (bif (decide ((0 : Int) ≤ n15)) then (bif (decide (n15 < (((Sl.len (Site.rows s)) : Nat) : Int))) then (bif (decide ((0 : Int) ≤ n21)) then (bif (decide (n21 < (((Sl.len (Site.heats s)) : Nat) : Int))) then (bif (decide ((0 : Int) ≤ n25)) then (bif (decide (n25 < (((Sl.len (Site.heats s)) : Nat) : Int))) then (bif ((decide (4 < 110)) && true) then some (.ret (.agg [(.int .i64 (Span.lo (Row.rate (Sl.el (Site.rows s) (Int.toNat n11))))), (.int .i64 (Span.hi (Row.rate (Sl.el (Site.rows s) (Int.toNat n15))))), (.int .i64 (Span.lo (Row.spall (Sl.el (Site.rows s) (Int.toNat n11))))), (.int .i64 (Span.hi (Row.spall (Sl.el (Site.rows s) (Int.toNat n15))))), (.int .i64 (Span.lo (Heat.factor (Sl.el (Site.heats s) (Int.toNat n21))))), (.int .i64 (Span.hi (Heat.factor (Sl.el (Site.heats s) (Int.toNat n25)))))]))
                                                      else none)
                                                    else none)
                                                  else none)
                                                else none)
                                              else none)
                                            else none)
                                          else none)
                                        else none)
                                      else none)
                                    else none)
                                  else none)
                                else none)
                              else none)))))))))
                (fun p16 => (tkIfc p16 none fun t17 x18 => (bif (flatP (.iface t17 x18)) then some (.pan (.iface t17 x18))
                    else none))))))))))))
  (fun p6 => (tkIfc p6 none fun t7 x8 => (bif (flatP (.iface t7 x8)) then some (.pan (.iface t7 x8))
      else none)))) := by kernel_rfl

theorem t91 (env : Env) (F : Nat) (s : Site) (c : Int) (x : Stt) (p : Span) (q : Span) : (evFun Try.prog (cfg F) env 91 [(pSite s), (.int .i64 c), (.agg (eStt x)), (.agg (eSpan p)), (.agg (eSpan q))]) =
  (bif (decide ((0 : Int) ≤ c)) then (bif (decide (c < (((Sl.len (Site.cavs s)) : Nat) : Int))) then (tkOut (env 112 [(pSite s), (.agg (eCav (Sl.el (Site.cavs s) (Int.toNat c)))), (.agg (eSpan p)), (.agg (eSpan q))]) none (fun v7 => (tkAgg v7 none fun l8 => (tkCons l8 none fun v9 r10 => (tkInt v9 none fun q11 n12 => (tkCons r10 none fun v13 r14 => (tkInt v13 none fun q15 n16 => (tkCons r14 none fun v17 r18 => (tkInt v17 none fun q19 n20 => (tkCons r18 none fun v21 r22 => (tkInt v21 none fun q23 n24 => (tkCons r22 none fun v25 r26 => (tkInt v25 none fun q27 n28 => (tkCons r26 none fun v29 r30 => (tkInt v29 none fun q31 n32 => (tkNil r30 none ((bif ((decide (16 < 18)) && true) then (bif ((decide (16 < 18)) && true) then (bif (decide (.i64 = q19)) then (bif (decide (.i64 = q23)) then (tkOut (env 113 [(.int .i64 (Span.lo (Stt.vol x))), (.int q15 n16), (.int q31 n32), (.int .i64 (999999999 : Int))]) none (fun v33 => (tkInt v33 none fun q34 n35 => (bif (decide (.i64 = q34)) then (tkOut (env 113 [(.int .i64 (Span.hi (Stt.vol x))), (.int q11 n12), (.int q27 n28), (.int .i64 (0 : Int))]) none (fun v36 => (tkInt v36 none fun q37 n38 => (bif (decide (.i64 = q37)) then (tkOut (env 113 [(.int .i64 (Span.lo (Stt.vol x))), (.int q11 n12), (.int q27 n28), (.int .i64 (0 : Int))]) none (fun v39 => (tkInt v39 none fun q40 n41 => (bif (decide (.i64 = q40)) then (tkOut (env 113 [(.int .i64 (Span.hi (Stt.vol x))), (.int q15 n16), (.int q31 n32), (.int .i64 (999999999 : Int))]) none (fun v42 => (tkInt v42 none fun q43 n44 => (bif (decide (.i64 = q43)) then (bif ((decide (3 < 101)) && true) then some (.ret (.agg [(.int .i64 (if (IntKind.wrap .i64 ((Span.lo (Stt.rad x)) + n20)) < (400000 : Int) then (IntKind.wrap .i64 ((Span.lo (Stt.rad x)) + n20)) else (400000 : Int))), (.int .i64 (if (IntKind.wrap .i64 ((Span.hi (Stt.rad x)) + n24)) < (400000 : Int) then (IntKind.wrap .i64 ((Span.hi (Stt.rad x)) + n24)) else (400000 : Int))), (.int .i64 (IntKind.wrap .i64 ((Span.lo (Stt.vol x)) - n35))), (.int .i64 (IntKind.wrap .i64 ((Span.hi (Stt.vol x)) - n38))), (.int .i64 (if (IntKind.wrap .i64 ((Span.lo (Stt.lost x)) + n41)) < (1000000000 : Int) then (IntKind.wrap .i64 ((Span.lo (Stt.lost x)) + n41)) else (1000000000 : Int))), (.int .i64 (if (IntKind.wrap .i64 ((Span.hi (Stt.lost x)) + n44)) < (1000000000 : Int) then (IntKind.wrap .i64 ((Span.hi (Stt.lost x)) + n44)) else (1000000000 : Int)))]))
                                                                    else none)
                                                                  else none)))
                                                              (fun p42 => (tkIfc p42 none fun t43 x44 => (bif (flatP (.iface t43 x44)) then some (.pan (.iface t43 x44))
                                                                  else none))))
                                                            else none)))
                                                        (fun p39 => (tkIfc p39 none fun t40 x41 => (bif (flatP (.iface t40 x41)) then none
                                                            else none))))
                                                      else none)))
                                                  (fun p36 => (tkIfc p36 none fun t37 x38 => (bif (flatP (.iface t37 x38)) then none
                                                      else none))))
                                                else none)))
                                            (fun p33 => (tkIfc p33 none fun t34 x35 => (bif (flatP (.iface t34 x35)) then none
                                                else none))))
                                          else none)
                                        else none)
                                      else none)
                                    else none)))))))))))))))))
      (fun p7 => (tkIfc p7 none fun t8 x9 => (bif (flatP (.iface t8 x9)) then some (.pan (.iface t8 x9))
          else none))))
    else none)
  else none) := by kernel_rfl

end Go.Sim.Cr

/-
  What a day does to a cavern: what the program says of it, in plain terms.
-/
namespace Go.Sim.Cr
open Go.Proofs
variable (F d : Nat)
theorem SiteF.incRow {s : Site} (h : SiteF s) : Inc (rowN s) s.rows.len := fun i hi => by
  have := h.row (i + 1) hi
  simp only [rowB, rowStep, Bool.and_eq_true, decide_eq_true_iff] at this
  exact this.2.2.2.1
theorem SiteF.incHeat {s : Site} (h : SiteF s) : Inc (heatN s) s.heats.len := fun i hi => by
  have := h.heat (i + 1) hi
  simp only [heatB, heatStep, Bool.and_eq_true, decide_eq_true_iff] at this
  exact this.2.2.1
theorem SiteF.rowOk {s : Site} (h : SiteF s) {i : Nat} (hi : i < s.rows.len) : (0 ≤ (s.rows.el i).deficit ∧ (s.rows.el i).deficit ≤ 50000) ∧ SpanIn (s.rows.el i).rate 0 100000 ∧ SpanIn (s.rows.el i).spall 0 1000 := by
  have := h.row i hi
  simp only [rowB, Bool.and_eq_true, decide_eq_true_iff] at this
  exact ⟨this.1, this.2.1, this.2.2.1⟩
theorem SiteF.heatOk {s : Site} (h : SiteF s) {i : Nat} (hi : i < s.heats.len) : (0 ≤ (s.heats.el i).warmth ∧ (s.heats.el i).warmth ≤ 10000) ∧ SpanIn (s.heats.el i).factor 0 10000 := by
  have := h.heat i hi
  simp only [heatB, Bool.and_eq_true, decide_eq_true_iff] at this
  exact ⟨this.1, this.2.1⟩
/-- Is something beyond the tables? -/
def farB (s : Site) (c : Cav) (p q : Span) : Bool := offB (rowN s) s.rows.len (c.rock - p.hi) (c.rock - p.lo) || offB (heatN s) s.heats.len q.lo q.hi
abbrev rowLo (s : Site) (c : Cav) (p : Span) : Nat := lastIx (rowN s) (c.rock - p.hi) s.rows.len
abbrev rowHi (s : Site) (c : Cav) (p : Span) : Nat := firstIx (rowN s) (c.rock - p.lo) s.rows.len 0
abbrev heatLo (s : Site) (q : Span) : Nat := lastIx (heatN s) q.lo s.heats.len
abbrev heatHi (s : Site) (q : Span) : Nat := firstIx (heatN s) q.hi s.heats.len 0
def rateOf (s : Site) (c : Cav) (p : Span) : Span := ⟨(s.rows.el (rowLo s c p)).rate.lo, (s.rows.el (rowHi s c p)).rate.hi⟩
def fallOf (s : Site) (c : Cav) (p : Span) : Span := ⟨(s.rows.el (rowLo s c p)).spall.lo, (s.rows.el (rowHi s c p)).spall.hi⟩
def factorOf (s : Site) (q : Span) : Span := ⟨(s.heats.el (heatLo s q)).factor.lo, (s.heats.el (heatHi s q)).factor.hi⟩
theorem near {num : Nat → Int} {n : Nat} {lo hi : Int} (hn : 0 < n) (h : offB num n lo hi = false) : lastIx num lo n < n ∧ firstIx num hi n 0 < n := by
  unfold offB at h
  rw [Bool.or_eq_false_iff, decide_eq_false_iff_not, decide_eq_false_iff_not] at h
  refine ⟨(lastIx_ok hn (by omega)).1, ?_⟩
  have := (@firstIx_ok num hi n 0 hn (by rw [Nat.zero_add]; omega)).2.1
  omega
theorem far_split {s : Site} {c : Cav} {p q : Span} (h : farB s c p q = false) : offB (rowN s) s.rows.len (c.rock - p.hi) (c.rock - p.lo) = false ∧ offB (heatN s) s.heats.len q.lo q.hi = false := by
  unfold farB at h
  rwa [Bool.or_eq_false_iff] at h
abbrev eSix (s : Site) (c : Cav) (p q : Span) : List V := [.int .i64 (rateOf s c p).lo, .int .i64 (rateOf s c p).hi, .int .i64 (fallOf s c p).lo, .int .i64 (fallOf s c p).hi, .int .i64 (factorOf s q).lo, .int .i64 (factorOf s q).hi]
theorem s112 (s : Site) (c : Cav) (p q : Span) (hS : SiteF s) (hc : CavOk c) (hp : SpanIn p 0 50000) (hF : 8 < F) :
    (farB s c p q = false → E F (d + 5) 112 [pSite s, .agg (eCav c), .agg (eSpan p), .agg (eSpan q)] = some (.ret (.agg (eSix s c p q)))) ∧
    (farB s c p q = true → ∃ n, E F (d + 5) 112 [pSite s, .agg (eCav c), .agg (eSpan p), .agg (eSpan q)] = some (.pan (.iface 146 (.agg [.int .i64 n])))) := by
  have hr := hc.2.2.2.1
  have w1 : IntKind.i64.wrap (c.rock - p.hi) = c.rock - p.hi := wr (by omega)
  have w2 : IntKind.i64.wrap (c.rock - p.lo) = c.rock - p.lo := wr (by omega)
  have e1 := s1161 F d s (c.rock - p.hi) (c.rock - p.lo) hS.incRow hS.rows1 hS.rows8 hF
  have e2 := s1162 F d s q.lo q.hi hS.incHeat hS.heats1 hS.heats8 hF
  rw [E_succ, t112]
  constructor
  · intro hf
    obtain ⟨f1, f2⟩ := far_split hf
    obtain ⟨n1, n2⟩ := near hS.rows1 f1
    obtain ⟨n3, n4⟩ := near hS.heats1 f2
    rw [f1, cond_false] at e1
    rw [f2, cond_false] at e2
    simp only [w1, w2, e1, e2, tkOut_ret, tkTup_t, tkCons_c, tkInt_i, tkNil_n, Int.natCast_nonneg, Int.ofNat_lt, n1, n2, n3, n4, decide_true, cond_true, Int.toNat_natCast]
    rfl
  · intro hf
    unfold farB at hf
    cases f1 : offB (rowN s) s.rows.len (c.rock - p.hi) (c.rock - p.lo) with
    | true =>
      rw [f1, cond_true] at e1
      simp only [w1, w2, e1, tkOut_pan, tkIfc_i]
      exact ⟨_, rfl⟩
    | false =>
      rw [f1, Bool.false_or] at hf
      rw [f1, cond_false] at e1
      rw [hf, cond_true] at e2
      simp only [w1, w2, e1, e2, tkOut_ret, tkOut_pan, tkTup_t, tkCons_c, tkInt_i, tkNil_n, tkIfc_i]
      exact ⟨_, rfl⟩
def minI (a b : Int) : Int := if a < b then a else b
/-- What a volume loses, rounded with 'k', no more than it is. -/
def shrink (v r f k : Int) : Int := minI ((v * r * f + k) / 1000000000) v
theorem prod3 {v r f : Int} (hv : 0 ≤ v ∧ v ≤ 10000000) (hr : 0 ≤ r ∧ r ≤ 100000) (hf : 0 ≤ f ∧ f ≤ 10000) : (0 ≤ v * r ∧ v * r ≤ 1000000000000) ∧ 0 ≤ v * r * f ∧ v * r * f ≤ 10000000000000000 := by
  have h1 := mulB hv hr
  have h2 := mulB (show 0 ≤ v * r ∧ v * r ≤ 1000000000000 by omega) hf
  omega
theorem s113 (v r f k : Int) (hv : 0 ≤ v ∧ v ≤ 10000000) (hr : 0 ≤ r ∧ r ≤ 100000) (hf : 0 ≤ f ∧ f ≤ 10000) (hk : 0 ≤ k ∧ k ≤ 999999999) :
    E F (d + 1) 113 [.int .i64 v, .int .i64 r, .int .i64 f, .int .i64 k] = some (.ret (.int .i64 (shrink v r f k))) := by
  obtain ⟨h1, h2⟩ := prod3 hv hr hf
  rw [E_succ, t113, wr (show _ ∧ v * r ≤ _ by omega), wr (show _ ∧ v * r * f ≤ _ by omega), wr (show _ ∧ v * r * f + k ≤ _ by omega), Int.tdiv_eq_ediv_of_nonneg (by omega), wr (show _ ∧ (v * r * f + k) / 1000000000 ≤ _ by omega)]
  rfl
theorem shrink_ok {v r f k : Int} (hv : 0 ≤ v ∧ v ≤ 10000000) (hr : 0 ≤ r ∧ r ≤ 100000) (hf : 0 ≤ f ∧ f ≤ 10000) (hk : 0 ≤ k ∧ k ≤ 999999999) : 0 ≤ shrink v r f k ∧ shrink v r f k ≤ v := by
  obtain ⟨h1, h2⟩ := prod3 hv hr hf
  unfold shrink minI
  split <;> omega
/-- The state of a cavern after a day that is not beyond the tables. -/
def move1 (s : Site) (c : Cav) (x : Stt) (p q : Span) : Stt where
  rad := ⟨minI (x.rad.lo + (fallOf s c p).lo) 400000, minI (x.rad.hi + (fallOf s c p).hi) 400000⟩
  vol := ⟨x.vol.lo - shrink x.vol.lo (rateOf s c p).hi (factorOf s q).hi 999999999, x.vol.hi - shrink x.vol.hi (rateOf s c p).lo (factorOf s q).lo 0⟩
  lost := ⟨minI (x.lost.lo + shrink x.vol.lo (rateOf s c p).lo (factorOf s q).lo 0) 1000000000, minI (x.lost.hi + shrink x.vol.hi (rateOf s c p).hi (factorOf s q).hi 999999999) 1000000000⟩
theorem rates_ok {s : Site} (hS : SiteF s) {c : Cav} {p q : Span} (hf : farB s c p q = false) : (0 ≤ (rateOf s c p).lo ∧ (rateOf s c p).lo ≤ 100000) ∧ (0 ≤ (rateOf s c p).hi ∧ (rateOf s c p).hi ≤ 100000) ∧
    (0 ≤ (fallOf s c p).lo ∧ (fallOf s c p).lo ≤ 1000) ∧ (0 ≤ (fallOf s c p).hi ∧ (fallOf s c p).hi ≤ 1000) ∧ (0 ≤ (factorOf s q).lo ∧ (factorOf s q).lo ≤ 10000) ∧ (0 ≤ (factorOf s q).hi ∧ (factorOf s q).hi ≤ 10000) := by
  obtain ⟨f1, f2⟩ := far_split hf
  obtain ⟨n1, n2⟩ := near hS.rows1 f1
  obtain ⟨n3, n4⟩ := near hS.heats1 f2
  have r1 := hS.rowOk (show rowLo s c p < s.rows.len from n1)
  have r2 := hS.rowOk (show rowHi s c p < s.rows.len from n2)
  have r3 := hS.heatOk (show heatLo s q < s.heats.len from n3)
  have r4 := hS.heatOk (show heatHi s q < s.heats.len from n4)
  refine ⟨?_, ?_, ?_, ?_, ?_, ?_⟩
  · show 0 ≤ (s.rows.el (rowLo s c p)).rate.lo ∧ (s.rows.el (rowLo s c p)).rate.lo ≤ 100000; omega
  · show 0 ≤ (s.rows.el (rowHi s c p)).rate.hi ∧ (s.rows.el (rowHi s c p)).rate.hi ≤ 100000; omega
  · show 0 ≤ (s.rows.el (rowLo s c p)).spall.lo ∧ (s.rows.el (rowLo s c p)).spall.lo ≤ 1000; omega
  · show 0 ≤ (s.rows.el (rowHi s c p)).spall.hi ∧ (s.rows.el (rowHi s c p)).spall.hi ≤ 1000; omega
  · show 0 ≤ (s.heats.el (heatLo s q)).factor.lo ∧ (s.heats.el (heatLo s q)).factor.lo ≤ 10000; omega
  · show 0 ≤ (s.heats.el (heatHi s q)).factor.hi ∧ (s.heats.el (heatHi s q)).factor.hi ≤ 10000; omega
theorem s91 (s : Site) (i : Nat) (x : Stt) (p q : Span) (hS : SiteF s) (hi : i < s.cavs.len) (hx : SttOk x) (hp : SpanIn p 0 50000) (hF : 8 < F) :
    (farB s (s.cavs.el i) p q = false → E F (d + 6) 91 [pSite s, .int .i64 (i : Int), .agg (eStt x), .agg (eSpan p), .agg (eSpan q)] = some (.ret (.agg (eStt (move1 s (s.cavs.el i) x p q))))) ∧
    (farB s (s.cavs.el i) p q = true → ∃ n, E F (d + 6) 91 [pSite s, .int .i64 (i : Int), .agg (eStt x), .agg (eSpan p), .agg (eSpan q)] = some (.pan (.iface 146 (.agg [.int .i64 n])))) := by
  obtain ⟨g1, g2⟩ := s112 F d s (s.cavs.el i) p q hS (hS.cav i hi) hp hF
  rw [E_succ, t91]
  constructor
  · intro hf
    obtain ⟨k1, k2, k3, k4, k5, k6⟩ := rates_ok hS hf
    have a1 := @shrink_ok x.vol.lo (rateOf s (s.cavs.el i) p).hi (factorOf s q).hi 999999999 (by omega) k2 k6 (by omega)
    have a2 := @shrink_ok x.vol.hi (rateOf s (s.cavs.el i) p).lo (factorOf s q).lo 0 (by omega) k1 k5 (by omega)
    have a3 := @shrink_ok x.vol.lo (rateOf s (s.cavs.el i) p).lo (factorOf s q).lo 0 (by omega) k1 k5 (by omega)
    have a4 := @shrink_ok x.vol.hi (rateOf s (s.cavs.el i) p).hi (factorOf s q).hi 999999999 (by omega) k2 k6 (by omega)
    simp only [Int.natCast_nonneg, Int.ofNat_lt, hi, decide_true, cond_true, Int.toNat_natCast, g1 hf, tkOut_ret, tkAgg_a, tkCons_c, tkInt_i, tkNil_n,
      s113 F (d + 4) x.vol.lo (rateOf s (s.cavs.el i) p).hi (factorOf s q).hi 999999999 (by omega) k2 k6 (by omega),
      s113 F (d + 4) x.vol.hi (rateOf s (s.cavs.el i) p).lo (factorOf s q).lo 0 (by omega) k1 k5 (by omega),
      s113 F (d + 4) x.vol.lo (rateOf s (s.cavs.el i) p).lo (factorOf s q).lo 0 (by omega) k1 k5 (by omega),
      s113 F (d + 4) x.vol.hi (rateOf s (s.cavs.el i) p).hi (factorOf s q).hi 999999999 (by omega) k2 k6 (by omega),
      wr (show _ ∧ x.rad.lo + (fallOf s (s.cavs.el i) p).lo ≤ _ by omega), wr (show _ ∧ x.rad.hi + (fallOf s (s.cavs.el i) p).hi ≤ _ by omega),
      wr (show _ ∧ x.vol.lo - shrink x.vol.lo (rateOf s (s.cavs.el i) p).hi (factorOf s q).hi 999999999 ≤ _ by omega), wr (show _ ∧ x.vol.hi - shrink x.vol.hi (rateOf s (s.cavs.el i) p).lo (factorOf s q).lo 0 ≤ _ by omega),
      wr (show _ ∧ x.lost.lo + shrink x.vol.lo (rateOf s (s.cavs.el i) p).lo (factorOf s q).lo 0 ≤ _ by omega), wr (show _ ∧ x.lost.hi + shrink x.vol.hi (rateOf s (s.cavs.el i) p).hi (factorOf s q).hi 999999999 ≤ _ by omega)]
    rfl
  · intro hf
    obtain ⟨n, e⟩ := g2 hf
    simp only [Int.natCast_nonneg, Int.ofNat_lt, hi, decide_true, cond_true, Int.toNat_natCast, e, tkOut_pan, tkIfc_i]
    exact ⟨n, rfl⟩
end Go.Sim.Cr

/-
  The specification's own looking up in tables: the same as the program's, in plain terms.
-/
namespace Go.Sim.Cr
open Go.Proofs
variable (F d : Nat)
theorem s61 (v r f : Int) (hv : 0 ≤ v ∧ v ≤ 10000000) (hr : 0 ≤ r ∧ r ≤ 100000) (hf : 0 ≤ f ∧ f ≤ 10000) : E F (d + 1) 61 [.int .i64 v, .int .i64 r, .int .i64 f] = some (.ret (.int .i64 (v * r * f / 1000000000))) := by
  obtain ⟨h1, h2⟩ := prod3 hv hr hf
  rw [E_succ, t61, wr (show _ ∧ v * r ≤ _ by omega), wr (show _ ∧ v * r * f ≤ _ by omega), Int.tdiv_eq_ediv_of_nonneg (by omega), wr (by omega)]
theorem s62 (v r f : Int) (hv : 0 ≤ v ∧ v ≤ 10000000) (hr : 0 ≤ r ∧ r ≤ 100000) (hf : 0 ≤ f ∧ f ≤ 10000) : E F (d + 1) 62 [.int .i64 v, .int .i64 r, .int .i64 f] = some (.ret (.int .i64 ((v * r * f + 999999999) / 1000000000))) := by
  obtain ⟨h1, h2⟩ := prod3 hv hr hf
  rw [E_succ, t62, wr (show _ ∧ v * r ≤ _ by omega), wr (show _ ∧ v * r * f ≤ _ by omega), wr (show _ ∧ v * r * f + 999999999 ≤ _ by omega), Int.tdiv_eq_ediv_of_nonneg (by omega), wr (by omega)]
theorem l93 (s : Site) (x : Int) (h0 : rowN s 0 ≤ x) (hB : s.rows.len < Big) : ∀ n fu, n < s.rows.len → n < fu → L93x0 (E F d) F s x fu (n : Int) = some (.ret (.agg (eRow (s.rows.el (lastIx (rowN s) x (n + 1)))))) := by
  intro n
  induction n with
  | zero =>
    intro fu h hf
    obtain ⟨fu, rfl⟩ : ∃ k, fu = k + 1 := ⟨fu - 1, by omega⟩
    rw [L93x0s]
    have e : lastIx (rowN s) x (0 + 1) = 0 := by rw [lastIx, decide_eq_true h0, cond_true]
    simp only [Int.natCast_nonneg, Int.ofNat_lt, h, decide_true, cond_true, Int.toNat_natCast, show ¬ (s.rows.el 0).deficit > x by have : (s.rows.el 0).deficit ≤ x := h0; omega, decide_false, cond_false, e]
  | succ n ih =>
    intro fu h hf
    obtain ⟨fu, rfl⟩ : ∃ k, fu = k + 1 := ⟨fu - 1, by omega⟩
    rw [L93x0s]
    simp only [Int.natCast_nonneg, Int.ofNat_lt, h, decide_true, cond_true, Int.toNat_natCast, wrP n (by omega), ih fu (by omega) (by omega)]
    by_cases hx : (s.rows.el (n + 1)).deficit ≤ x
    · rw [lastIx.eq_2 _ _ (n + 1), decide_eq_true (show rowN s (n + 1) ≤ x from hx), cond_true, decide_eq_false (by omega), cond_false]
    · rw [lastIx.eq_2 _ _ (n + 1), decide_eq_false (show ¬ rowN s (n + 1) ≤ x from hx), cond_false, decide_eq_true (by omega), cond_true]
theorem s93 (s : Site) (x : Int) (h0 : rowN s 0 ≤ x) (h1 : 1 ≤ s.rows.len) (h8 : s.rows.len ≤ 8) (hF : 8 < F) : E F (d + 1) 93 [.agg (eSite s), .int .i64 x] = some (.ret (.agg (eRow (s.rows.el (lastIx (rowN s) x s.rows.len))))) := by
  rw [E_succ, t93, wr (by omega), show (s.rows.len : Int) - 1 = ((s.rows.len - 1 : Nat) : Int) by omega, l93 F d s x h0 (show s.rows.len < 4611686018427387904 by omega) (s.rows.len - 1) F (by omega) (by omega), show s.rows.len - 1 + 1 = s.rows.len by omega]
theorem l94 (s : Site) (x : Int) (h0 : x ≤ rowN s (s.rows.len - 1)) (hB : s.rows.len < Big) : ∀ n i fu, s.rows.len = i + n → 0 < n → n < fu → L94x0 (E F d) F s x fu (i : Int) = some (.ret (.agg (eRow (s.rows.el (firstIx (rowN s) x n i))))) := by
  intro n
  induction n with
  | zero => intro i fu _ h; omega
  | succ n ih =>
    intro i fu h _ hf
    obtain ⟨fu, rfl⟩ : ∃ k, fu = k + 1 := ⟨fu - 1, by omega⟩
    rw [L94x0s]
    simp only [Int.natCast_nonneg, Int.ofNat_lt, show i < s.rows.len by omega, decide_true, cond_true, Int.toNat_natCast, wrS (show i < Big by omega)]
    by_cases hx : x ≤ (s.rows.el i).deficit
    · rw [firstIx, decide_eq_true (show x ≤ rowN s i from hx), cond_true, decide_eq_false (by omega), cond_false]
    · have hn : 0 < n := by
        rcases Nat.eq_zero_or_pos n with rfl | h'
        · rw [show s.rows.len - 1 = i by omega] at h0; exact (hx h0).elim
        · exact h'
      rw [firstIx, decide_eq_false (show ¬ x ≤ rowN s i from hx), cond_false, decide_eq_true (by omega), cond_true]
      exact ih (i + 1) fu (by omega) hn (by omega)
theorem s94 (s : Site) (x : Int) (h0 : x ≤ rowN s (s.rows.len - 1)) (h1 : 1 ≤ s.rows.len) (h8 : s.rows.len ≤ 8) (hF : 8 < F) : E F (d + 1) 94 [.agg (eSite s), .int .i64 x] = some (.ret (.agg (eRow (s.rows.el (firstIx (rowN s) x s.rows.len 0))))) := by
  rw [E_succ, t94]
  exact l94 F d s x h0 (show s.rows.len < 4611686018427387904 by omega) s.rows.len 0 F (by omega) (by omega) (by omega)
theorem not_off {num : Nat → Int} {n : Nat} {lo hi : Int} (h : offB num n lo hi = false) : num 0 ≤ lo ∧ hi ≤ num (n - 1) := by
  unfold offB at h
  rw [Bool.or_eq_false_iff, decide_eq_false_iff_not, decide_eq_false_iff_not] at h
  omega
theorem s58 (s : Site) (p : Span) (hS : SiteF s) (hf : offB (rowN s) s.rows.len p.lo p.hi = false) (hF : 8 < F) : E F (d + 2) 58 [.agg (eSite s), .agg (eSpan p)] =
    some (.ret (.agg [.int .i64 (s.rows.el (lastIx (rowN s) p.lo s.rows.len)).rate.lo, .int .i64 (s.rows.el (firstIx (rowN s) p.hi s.rows.len 0)).rate.hi])) := by
  obtain ⟨h1, h2⟩ := not_off hf
  rw [E_succ, t58]
  simp only [s93 F d s p.lo h1 hS.rows1 hS.rows8 hF, s94 F d s p.hi h2 hS.rows1 hS.rows8 hF, tkOut_ret, tkAgg_a, tkCons_c, tkInt_i, tkNil_n]
theorem s60 (s : Site) (p : Span) (hS : SiteF s) (hf : offB (rowN s) s.rows.len p.lo p.hi = false) (hF : 8 < F) : E F (d + 2) 60 [.agg (eSite s), .agg (eSpan p)] =
    some (.ret (.agg [.int .i64 (s.rows.el (lastIx (rowN s) p.lo s.rows.len)).spall.lo, .int .i64 (s.rows.el (firstIx (rowN s) p.hi s.rows.len 0)).spall.hi])) := by
  obtain ⟨h1, h2⟩ := not_off hf
  rw [E_succ, t60]
  simp only [s93 F d s p.lo h1 hS.rows1 hS.rows8 hF, s94 F d s p.hi h2 hS.rows1 hS.rows8 hF, tkOut_ret, tkAgg_a, tkCons_c, tkInt_i, tkNil_n]
theorem l59x1 (s : Site) (p : Span) (a : Nat) (ha : a < s.heats.len) (h0 : p.hi ≤ heatN s (s.heats.len - 1)) (hB : s.heats.len < Big) : ∀ n i fu, s.heats.len = i + n → 0 < n → n < fu →
    L59x1 (E F d) F s p fu (a : Int) (i : Int) = some (.ret (.agg [.int .i64 (s.heats.el a).factor.lo, .int .i64 (s.heats.el (firstIx (heatN s) p.hi n i)).factor.hi])) := by
  intro n
  induction n with
  | zero => intro i fu _ h; omega
  | succ n ih =>
    intro i fu h _ hf
    obtain ⟨fu, rfl⟩ : ∃ k, fu = k + 1 := ⟨fu - 1, by omega⟩
    rw [L59x1s]
    simp only [Int.natCast_nonneg, Int.ofNat_lt, ha, show i < s.heats.len by omega, decide_true, cond_true, Int.toNat_natCast, wrS (show i < Big by omega)]
    by_cases hx : p.hi ≤ (s.heats.el i).warmth
    · rw [firstIx, decide_eq_true (show p.hi ≤ heatN s i from hx), cond_true, decide_eq_false (by omega), cond_false]
    · have hn : 0 < n := by
        rcases Nat.eq_zero_or_pos n with rfl | h'
        · rw [show s.heats.len - 1 = i by omega] at h0; exact (hx h0).elim
        · exact h'
      rw [firstIx, decide_eq_false (show ¬ p.hi ≤ heatN s i from hx), cond_false, decide_eq_true (by omega), cond_true]
      exact ih (i + 1) fu (by omega) hn (by omega)
theorem l59x0 (s : Site) (p : Span) (hl : heatN s 0 ≤ p.lo) (h0 : p.hi ≤ heatN s (s.heats.len - 1)) (hB : s.heats.len < Big) (hF : s.heats.len < F) : ∀ n fu, n < s.heats.len → n < fu →
    L59x0 (E F d) F s p fu (n : Int) = some (.ret (.agg [.int .i64 (s.heats.el (lastIx (heatN s) p.lo (n + 1))).factor.lo, .int .i64 (s.heats.el (firstIx (heatN s) p.hi s.heats.len 0)).factor.hi])) := by
  intro n
  induction n with
  | zero =>
    intro fu h hf
    obtain ⟨fu, rfl⟩ : ∃ k, fu = k + 1 := ⟨fu - 1, by omega⟩
    rw [L59x0s]
    have e : lastIx (heatN s) p.lo (0 + 1) = 0 := by rw [lastIx, decide_eq_true hl, cond_true]
    simp only [Int.natCast_nonneg, Int.ofNat_lt, h, decide_true, cond_true, Int.toNat_natCast, show ¬ (s.heats.el 0).warmth > p.lo by have : (s.heats.el 0).warmth ≤ p.lo := hl; omega, decide_false, cond_false, e]
    exact l59x1 F d s p 0 h h0 hB s.heats.len 0 F (by omega) (by omega) hF
  | succ n ih =>
    intro fu h hf
    obtain ⟨fu, rfl⟩ : ∃ k, fu = k + 1 := ⟨fu - 1, by omega⟩
    rw [L59x0s]
    simp only [Int.natCast_nonneg, Int.ofNat_lt, h, decide_true, cond_true, Int.toNat_natCast, wrP n (by omega), ih fu (by omega) (by omega)]
    by_cases hx : (s.heats.el (n + 1)).warmth ≤ p.lo
    · rw [lastIx.eq_2 _ _ (n + 1), decide_eq_true (show heatN s (n + 1) ≤ p.lo from hx), cond_true, decide_eq_false (by omega), cond_false]
      exact l59x1 F d s p (n + 1) h h0 hB s.heats.len 0 F (by omega) (by omega) hF
    · rw [lastIx.eq_2 _ _ (n + 1), decide_eq_false (show ¬ heatN s (n + 1) ≤ p.lo from hx), cond_false, decide_eq_true (by omega), cond_true]
theorem s59 (s : Site) (q : Span) (hS : SiteF s) (hf : offB (heatN s) s.heats.len q.lo q.hi = false) (hF : 8 < F) : E F (d + 1) 59 [.agg (eSite s), .agg (eSpan q)] = some (.ret (.agg (eSpan (factorOf s q)))) := by
  obtain ⟨h1, h2⟩ := not_off hf
  have g1 := hS.heats1
  have g8 := hS.heats8
  rw [E_succ, t59, wr (by omega), show (s.heats.len : Int) - 1 = ((s.heats.len - 1 : Nat) : Int) by omega, l59x0 F d s q h1 h2 (show s.heats.len < 4611686018427387904 by omega) (by omega) (s.heats.len - 1) F (by omega) (by omega), show s.heats.len - 1 + 1 = s.heats.len by omega]
  rfl
theorem s70 (s : Site) (i : Nat) (p : Span) (hS : SiteF s) (hi : i < s.cavs.len) (hp : SpanIn p 0 50000) : E F (d + 1) 70 [.agg (eSite s), .int .i64 (i : Int), .agg (eSpan p)] =
    some (.ret (.agg [.int .i64 ((s.cavs.el i).rock - p.hi), .int .i64 ((s.cavs.el i).rock - p.lo)])) := by
  have hr := (hS.cav i hi).2.2.2.1
  rw [E_succ, t70]
  simp only [Int.natCast_nonneg, Int.ofNat_lt, hi, decide_true, cond_true, Int.toNat_natCast, wr (show _ ∧ (s.cavs.el i).rock - p.hi ≤ _ by omega), wr (show _ ∧ (s.cavs.el i).rock - p.lo ≤ _ by omega)]
theorem s32 (s : Site) (i : Nat) (p q : Span) (hS : SiteF s) (hi : i < s.cavs.len) (hp : SpanIn p 0 50000) : E F (d + 2) 32 [.agg (eSite s), .int .i64 (i : Int), .agg (eSpan p), .agg (eSpan q)] = some (.ret (.bool (farB s (s.cavs.el i) p q))) := by
  have h0 : rowN s 0 = 0 := by
    have := hS.row 0 (by have := hS.rows1; omega)
    simp only [rowB, rowStep, Bool.and_eq_true, decide_eq_true_iff] at this
    exact this.2.2.2
  have r1 := hS.rows1
  have r8 := hS.rows8
  have g1 := hS.heats1
  have g8 := hS.heats8
  rw [E_succ, t32]
  simp only [s70 F d s i p hS hi hp, tkOut_ret, tkAgg_a, tkCons_c, tkInt_i, tkNil_n, decide_true, cond_true, wr (show _ ∧ (s.rows.len : Int) - 1 ≤ _ by omega), wr (show _ ∧ (s.heats.len : Int) - 1 ≤ _ by omega),
    show (0 : Int) ≤ (s.rows.len : Int) - 1 by omega, show (s.rows.len : Int) - 1 < (s.rows.len : Int) by omega, show (0 : Int) ≤ (s.heats.len : Int) - 1 by omega, show (s.heats.len : Int) - 1 < (s.heats.len : Int) by omega,
    show (0 : Int) < (s.heats.len : Int) by omega, show ((s.rows.len : Int) - 1).toNat = s.rows.len - 1 by omega, show ((s.heats.len : Int) - 1).toNat = s.heats.len - 1 by omega, cOr]
  refine b3 ?_
  simp only [farB, offB, h0, Bool.or_assoc, gt_iff_lt]
end Go.Sim.Cr
