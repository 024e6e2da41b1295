import Derived.Test.YtpgpaficdabmkaaAb
import Derived.Test.YtpgpaficdabmkaaProg
import Derived.KernelRfl
set_option linter.unusedVariables false
set_option linter.unusedSimpArgs false
set_option linter.unusedSectionVars false
/-
  This program: what the evaluator wants to know of it; which '==' of structs go cell by cell.
-/
namespace Go.Sim.Cr
open Go.RowKit Go.Proofs

/-- For each function and each of its loops (by its first region): the temporaries that are wanted at its head. -/
def keepTab : List (Nat × List (Nat × List Nat)) := [
  (4, [(8, [1, 2, 3, 4, 5, 11, 13, 14]), (14, [1, 2, 3, 4, 5, 11, 13, 16, 17]), (25, [1, 2, 3, 4, 5, 13, 16, 17, 18, 20, 21, 22])]),
  (5, [(10, [1, 2, 5, 6, 7, 8, 9])]),
  (6, [(4, [1, 2, 3, 7]), (13, [1, 2, 3, 8, 9, 11, 12]), (19, [1, 2, 3, 8, 9, 11, 14, 15]), (23, [1, 2, 3, 8, 9, 11, 14, 15, 16, 17])]),
  (7, [(9, [1, 3, 4, 5, 6, 7, 9, 15, 17, 18, 19]), (17, [1, 5, 6, 7, 15, 20, 22])]),
  (10, [(19, [3, 7, 11, 18, 19, 20])]),
  (12, [(2, [0, 1, 5])]),
  (16, [(4, [1, 3]), (10, [1, 3, 4, 5]), (15, [1, 6]), (23, [1, 8]), (29, [1, 10]), (35, [1, 12])]),
  (17, [(2, [1, 2, 5])]),
  (19, [(3, [1, 2, 3, 4, 8, 9, 10])]),
  (20, [(4, [2, 3, 5])]),
  (21, [(3, [1, 3, 5, 8, 9])]),
  (22, [(4, [0, 1, 5])]),
  (23, [(2, [0, 3])]),
  (29, [(3, [4, 8, 10, 11, 12])]),
  (30, [(11, [4, 5, 7, 8, 9, 10, 11, 12, 41, 42, 43])]),
  (31, [(3, [1, 2, 3, 6, 7, 8])]),
  (33, [(2, [1, 2, 3, 4, 9]), (8, [1, 2, 3, 4, 9, 11]), (13, [1, 4, 12]), (17, [1, 4, 12, 13, 14, 15])]),
  (38, [(3, [1, 3, 4])]),
  (44, [(7, [1, 3, 4, 6, 10, 11])]),
  (45, [(6, [1, 4, 6, 7, 9, 10, 11]), (12, [1, 4, 6, 7, 9, 10, 11, 12])]),
  (48, [(4, [1, 28, 29, 30])]),
  (51, [(3, [0, 5, 6, 7, 11, 12, 13])]),
  (53, [(3, [0, 2, 3, 8, 9, 13, 14, 15])]),
  (57, [(3, [3, 10, 11, 12])]),
  (59, [(2, [2, 3, 4, 5]), (5, [2, 3, 4, 5, 6])]),
  (65, [(3, [1, 2, 6, 26, 27])]),
  (68, [(3, [2, 3, 4, 6, 8, 9]), (8, [2, 3, 4, 6, 8, 10]), (14, [2, 3, 4, 6, 8, 13])]),
  (69, [(2, [2, 3, 4, 6, 8]), (7, [2, 3, 4, 6, 9]), (10, [2, 3, 4, 6, 9, 10]), (15, [2, 3, 4, 6, 11])]),
  (75, [(6, [0, 1, 4, 7, 8, 10, 11, 12]), (10, [0, 1, 4, 7, 8, 10, 11, 12, 61, 62, 63])]),
  (76, [(1, [0, 1, 2])]),
  (78, [(2, [1, 10, 11, 12]), (10, [1, 84, 85, 86]), (16, [1, 132, 133, 134])]),
  (92, [(3, [8, 9, 10, 25, 26, 27])]),
  (93, [(2, [1, 2, 4, 5])]),
  (94, [(2, [1, 2, 4, 5])]),
  (95, [(2, [0, 1, 7, 8])]),
  (96, [(3, [0, 3, 16, 17, 18])]),
  (97, [(3, [0, 3, 14, 15, 16])]),
  (98, [(3, [0, 3, 11, 12, 13])]),
  (99, [(3, [0, 3, 10, 11, 12])]),
  (101, [(5, [0, 3, 19, 20, 21])]),
  (102, [(2, [0, 1, 7, 8])]),
  (104, [(2, [0, 3, 4])]),
  (108, [(2, [0, 1, 7, 8])]),
  (109, [(2, [0, 1, 7, 8])]),
  (110, [(2, [0, 1, 7, 8])]),
  (111, [(2, [0, 1, 7, 8])]),
  (114, [(1, [0, 1, 14, 15]), (4, [0, 1, 4, 5, 14, 15])])]
def look {α : Type} (n : Nat) : List (Nat × α) → (d : α) → α
  | [], d => d
  | (m, a) :: r, d => bif n == m then a else look n r d
def eqT (t n : Nat) : Bool := (t == 41 && n == 2) || (t == 65 && n == 6) || (t == 71 && n == 4)
/-- F: how many rounds a loop has at most. -/
def cfg (F f : Nat) : Cfg := { eqT := eqT, keep := fun r => look r (look f keepTab []) [], fuel := F, marks := f == 100 }
noncomputable def E (F d : Nat) : Env := envN Try.prog (cfg F) d
theorem E_succ (F d f : Nat) (a : List V) : E F (d + 1) f a = evFun Try.prog (cfg F) (E F d) f a := rfl

theorem names : OkNames Try.prog := okNames_of (by kernel_rfl)

section
variable (w : World)
theorem part3 (cs : Array Value) (off : Nat) (v : Value) (h : cs[off]? = some v) : (part 3 cs off).run Try.prog w = .ok v w := by
  unfold part; simp [Try.isAgg3, h]
theorem part69 (cs : Array Value) (off : Nat) (v : Value) (h : cs[off]? = some v) : (part 69 cs off).run Try.prog w = .ok v w := by
  unfold part; simp [Try.isAgg69, h]
theorem extract2 {cs : Array Value} {off : Nat} {u v : Value} (h0 : cs[off]? = some u) (h1 : cs[off + 1]? = some v) : cs.extract off (off + 2) = #[u, v] := by
  refine Array.ext_getElem? fun i => ?_
  have hl : off + 1 < cs.size := (Array.getElem?_eq_some_iff.1 h1).1
  rw [Array.getElem?_extract]
  match i with
  | 0 => rw [if_pos (by omega)]; simpa using h0
  | 1 => rw [if_pos (by omega)]; simpa using h1
  | n + 2 => rw [if_neg (by omega)]; simp
theorem part41 (cs : Array Value) (off : Nat) (u v : Value) (h0 : cs[off]? = some u) (h1 : cs[off + 1]? = some v) : (part 41 cs off).run Try.prog w = .ok (.agg #[u, v]) w := by
  unfold part; simp [Try.isAgg41, Try.sizeOf41, extract2 h0 h1]
theorem int3 (d : Nat) (k : IntKind) (a b : Int) : (Op.equalIn (d + 1) 3 (.int k a) (.int k b)).run Try.prog w = .ok (a == b) w := run_equalIn_int w d 3 k .i64 a b Try.underlying3
theorem int69 (d : Nat) (k : IntKind) (a b : Int) : (Op.equalIn (d + 1) 69 (.int k a) (.int k b)).run Try.prog w = .ok (a == b) w := run_equalIn_int w d 69 k .i64 a b Try.underlying69
theorem fieldsOf_ {t : TypeId} {fs : Array Field} (h : Try.prog.underlying t = some (.struct fs)) : Try.prog.fieldsOf t = fs := by simp [Program.fieldsOf, h]
theorem eqS {d : Nat} {t : TypeId} {fs : Array Field} (xs ys : Array Value) (h : Try.prog.underlying t = some (.struct fs)) (hp : Try.prog.stoodInHeld t = false) : (Op.equalIn (d + 1) t (.agg xs) (.agg ys)).run Try.prog w = (Op.eqFields d xs ys fs.toList).run Try.prog w := by
  rw [run_equalIn_struct w d t xs ys (by rw [fieldsOf_ h]; exact h) hp, fieldsOf_ h]
theorem eqF {d : Nat} {xs ys : Array Value} {f : Field} {fs : List Field} {a b : Value} {r : Bool} (hn : f.name ≠ "_") (ha : (part f.type xs f.offset).run Try.prog w = .ok a w) (hb : (part f.type ys f.offset).run Try.prog w = .ok b w)
    (he : (Op.equalIn d f.type a b).run Try.prog w = .ok r w) {q : Bool} (hr : (Op.eqFields d xs ys fs).run Try.prog w = .ok q w) : (Op.eqFields d xs ys (f :: fs)).run Try.prog w = .ok (r && q) w := by
  simp only [Op.eqFields, if_pos hn, Sem.run_bind, ha, hb, he, Result.andThen_ok]
  cases r
  · simp
  · simp [hr]
theorem eqN {d : Nat} {xs ys : Array Value} : (Op.eqFields d xs ys []).run Try.prog w = .ok true w := rfl
set_option maxRecDepth 100000 in
theorem eq41 (d : Nat) (k0 k1 : IntKind) (a b c e : Int) : (Op.equalIn (d + 2) 41 (.agg #[.int k0 a, .int k1 b]) (.agg #[.int k0 c, .int k1 e])).run Try.prog w = .ok (a == c && (b == e && true)) w :=
  (eqS w _ _ Try.underlying41 Try.stoodInHeld41).trans (eqF w (by simp) (part3 w _ _ _ rfl) (part3 w _ _ _ rfl) (int3 ..) (eqF w (by simp) (part3 w _ _ _ rfl) (part3 w _ _ _ rfl) (int3 ..) (eqN w)))
set_option maxRecDepth 100000 in
theorem eq71 (d : Nat) (k0 k1 k2 k3 : IntKind) (a0 a1 a2 a3 b0 b1 b2 b3 : Int) : (Op.equalIn (d + 2) 71 (.agg #[.int k0 a0, .int k1 a1, .int k2 a2, .int k3 a3]) (.agg #[.int k0 b0, .int k1 b1, .int k2 b2, .int k3 b3])).run Try.prog w =
    .ok (a0 == b0 && (a1 == b1 && (a2 == b2 && (a3 == b3 && true)))) w := by
  rw [eqS w (d := d + 1) _ _ Try.underlying71 Try.stoodInHeld71]
  refine eqF w ?_ (part3 w _ _ (.int k0 a0) ?_) (part3 w _ _ (.int k0 b0) ?_) (int3 w d k0 a0 b0) (eqF w ?_ (part69 w _ _ (.int k1 a1) ?_) (part69 w _ _ (.int k1 b1) ?_) (int69 w d k1 a1 b1)
    (eqF w ?_ (part3 w _ _ (.int k2 a2) ?_) (part3 w _ _ (.int k2 b2) ?_) (int3 w d k2 a2 b2) (eqF w ?_ (part3 w _ _ (.int k3 a3) ?_) (part3 w _ _ (.int k3 b3) ?_) (int3 w d k3 a3 b3) (eqN w))))
  all_goals simp
set_option maxRecDepth 100000 in
theorem eq65 (d : Nat) (k0 k1 k2 k3 k4 k5 : IntKind) (a0 a1 a2 a3 a4 a5 b0 b1 b2 b3 b4 b5 : Int) : (Op.equalIn (d + 3) 65 (.agg #[.int k0 a0, .int k1 a1, .int k2 a2, .int k3 a3, .int k4 a4, .int k5 a5]) (.agg #[.int k0 b0, .int k1 b1, .int k2 b2, .int k3 b3, .int k4 b4, .int k5 b5])).run Try.prog w =
    .ok ((a0 == b0 && (a1 == b1 && true)) && ((a2 == b2 && (a3 == b3 && true)) && ((a4 == b4 && (a5 == b5 && true)) && true))) w :=
  (eqS w _ _ Try.underlying65 Try.stoodInHeld65).trans (eqF w (by simp) (part41 w _ _ _ _ rfl rfl) (part41 w _ _ _ _ rfl rfl) (eq41 w d k0 k1 ..) (eqF w (by simp) (part41 w _ _ _ _ rfl rfl) (part41 w _ _ _ _ rfl rfl) (eq41 w d k2 k3 ..)
    (eqF w (by simp) (part41 w _ _ _ _ rfl rfl) (part41 w _ _ _ _ rfl rfl) (eq41 w d k4 k5 ..) (eqN w))))

set_option maxRecDepth 100000 in
theorem okEq : OkEq Try.prog eqT := by
  intro t op xs ys x y w bs cs r het hcs pv ρ hx hy
  obtain ⟨l, rfl, rfl, rfl⟩ := eqCs_inv hcs
  have hx' := relL_ints (l := l.map fun p => (p.1, p.2.1)) (by simpa [List.map_map, Function.comp_def] using hx)
  have hy' := relL_ints (l := l.map fun p => (p.1, p.2.2)) (by simpa [List.map_map, Function.comp_def] using hy)
  subst hx' hy'
  clear hx hy hcs
  have fin : Try.prog.eqGuardType Try.prog.depth t = false → (Op.equalIn 10000 t (.agg ((l.map fun p => (p.1, p.2.1)).map fun p => Value.int p.1 p.2).toArray) (.agg ((l.map fun p => (p.1, p.2.2)).map fun p => Value.int p.1 p.2).toArray)).run Try.prog w = .ok (l.all fun p => p.2.1 == p.2.2) w →
      (op = .eql → (do eqGuard op t x y (.agg ((l.map fun p => (p.1, p.2.1)).map fun p => Value.int p.1 p.2).toArray) (.agg ((l.map fun p => (p.1, p.2.2)).map fun p => Value.int p.1 p.2).toArray); binOp op t (.agg ((l.map fun p => (p.1, p.2.1)).map fun p => Value.int p.1 p.2).toArray) (.agg ((l.map fun p => (p.1, p.2.2)).map fun p => Value.int p.1 p.2).toArray) : Sem Value).run Try.prog w = .ok (.bool (l.all fun p => p.2.1 == p.2.2)) w) ∧
      (op = .neq → (do eqGuard op t x y (.agg ((l.map fun p => (p.1, p.2.1)).map fun p => Value.int p.1 p.2).toArray) (.agg ((l.map fun p => (p.1, p.2.2)).map fun p => Value.int p.1 p.2).toArray); binOp op t (.agg ((l.map fun p => (p.1, p.2.1)).map fun p => Value.int p.1 p.2).toArray) (.agg ((l.map fun p => (p.1, p.2.2)).map fun p => Value.int p.1 p.2).toArray) : Sem Value).run Try.prog w = .ok (.bool (!(l.all fun p => p.2.1 == p.2.2))) w) := by
    intro hg he
    constructor
    · rintro rfl
      rw [Sem.run_bind, run_eqGuard_agg w _ _ _ _ _ _ hg, Result.andThen_ok, run_eql_struct, he]; rfl
    · rintro rfl
      rw [Sem.run_bind, run_eqGuard_agg w _ _ _ _ _ _ hg, Result.andThen_ok, run_neq_struct, he]; rfl
  simp only [eqT, Bool.or_eq_true, Bool.and_eq_true, beq_iff_eq, List.length_map] at het
  have l2 : l.length = 2 → ∃ p0 p1, l = [p0, p1] := fun h => by match l, h with | [p0, p1], _ => exact ⟨p0, p1, rfl⟩
  have l4 : l.length = 4 → ∃ p0 p1 p2 p3, l = [p0, p1, p2, p3] := fun h => by match l, h with | [p0, p1, p2, p3], _ => exact ⟨p0, p1, p2, p3, rfl⟩
  have l6 : l.length = 6 → ∃ p0 p1 p2 p3 p4 p5, l = [p0, p1, p2, p3, p4, p5] := fun h => by match l, h with | [p0, p1, p2, p3, p4, p5], _ => exact ⟨p0, p1, p2, p3, p4, p5, rfl⟩
  rcases het with (⟨rfl, hl⟩ | ⟨rfl, hl⟩) | ⟨rfl, hl⟩
  · obtain ⟨p0, p1, rfl⟩ := l2 hl
    exact fin Try.eqGuardType41 (eq41 w 9998 p0.1 p1.1 p0.2.1 p1.2.1 p0.2.2 p1.2.2)
  · obtain ⟨p0, p1, p2, p3, p4, p5, rfl⟩ := l6 hl
    refine fin Try.eqGuardType65 ((eq65 w 9997 p0.1 p1.1 p2.1 p3.1 p4.1 p5.1 p0.2.1 p1.2.1 p2.2.1 p3.2.1 p4.2.1 p5.2.1 p0.2.2 p1.2.2 p2.2.2 p3.2.2 p4.2.2 p5.2.2).trans ?_)
    simp [Bool.and_assoc]
  · obtain ⟨p0, p1, p2, p3, rfl⟩ := l4 hl
    exact fin Try.eqGuardType71 (eq71 w 9998 p0.1 p1.1 p2.1 p3.1 p0.2.1 p1.2.1 p2.2.1 p3.2.1 p0.2.2 p1.2.2 p2.2.2 p3.2.2)
theorem okCfg (F : Nat) : OkCfg Try.prog (cfg F) := fun _ => okEq
theorem okE (F d : Nat) : OkEnv Try.prog (E F d) := envN_ok (okCfg F) names d
end
end Go.Sim.Cr

/-
  This program's data, plain; how the evaluator sees them.
-/
namespace Go.Sim.Cr

structure Span where
  lo : Int
  hi : Int
/-- A slice: whether it is nil, how long it is, its elements. -/
structure Sl (α : Type) where
  nl : Bool
  len : Nat
  el : Nat → α
structure Cav where
  x : Int
  y : Int
  rad : Span
  vol : Span
  rock : Int
  floor : Int
  gate : Span
  change : Int
structure Row where
  deficit : Int
  rate : Span
  spall : Span
structure Heat where
  warmth : Int
  factor : Span
structure Ring where
  away : Int
  share : Span
structure House where
  x : Int
  y : Int
  most : Int
structure Site where
  cavs : Sl Cav
  rows : Sl Row
  heats : Sl Heat
  wall : Int
  rings : Sl Ring
  houses : Sl House
structure Stt where
  rad : Span
  vol : Span
  lost : Span
structure Day where
  press : Sl Span
  warm : Sl Span
structure Fault where
  day : Int
  rule : Int
  of : Int
  wth : Int
structure Truth where
  rad : Int
  vol : Int
  lost : Int
structure Mark where
  at_ : Int
  wth : Int
  possible : Bool
  certain : Bool

abbrev i64 (n : Int) : V := .int .i64 n
abbrev eInt (n : Int) : List V := [.int .i64 n]
abbrev eSpan (s : Span) : List V := [.int .i64 s.lo, .int .i64 s.hi]
abbrev eCav (c : Cav) : List V := [.int .i64 c.x, .int .i64 c.y, .int .i64 c.rad.lo, .int .i64 c.rad.hi, .int .i64 c.vol.lo, .int .i64 c.vol.hi, .int .i64 c.rock, .int .i64 c.floor, .int .i64 c.gate.lo, .int .i64 c.gate.hi, .int .i64 c.change]
abbrev eRow (r : Row) : List V := [.int .i64 r.deficit, .int .i64 r.rate.lo, .int .i64 r.rate.hi, .int .i64 r.spall.lo, .int .i64 r.spall.hi]
abbrev eHeat (h : Heat) : List V := [.int .i64 h.warmth, .int .i64 h.factor.lo, .int .i64 h.factor.hi]
abbrev eRing (r : Ring) : List V := [.int .i64 r.away, .int .i64 r.share.lo, .int .i64 r.share.hi]
abbrev eHouse (h : House) : List V := [.int .i64 h.x, .int .i64 h.y, .int .i64 h.most]
abbrev eStt (s : Stt) : List V := [.int .i64 s.rad.lo, .int .i64 s.rad.hi, .int .i64 s.vol.lo, .int .i64 s.vol.hi, .int .i64 s.lost.lo, .int .i64 s.lost.hi]
abbrev eFault (f : Fault) : List V := [.int .i64 f.day, .int .i64 f.rule, .int .i64 f.of, .int .i64 f.wth]
abbrev eTruth (t : Truth) : List V := [.int .i64 t.rad, .int .i64 t.vol, .int .i64 t.lost]
abbrev eMark (m : Mark) : List V := [.int .i64 m.at_, .int .i64 m.wth, .bool m.possible, .bool m.certain]
abbrev sl {α : Type} (e : α → List V) (wd : Nat) (s : Sl α) : V := .row s.nl s.len wd fun i => e (s.el i)
abbrev eSite (s : Site) : List V := [sl eCav 11 s.cavs, sl eRow 5 s.rows, sl eHeat 3 s.heats, .int .i64 s.wall, sl eRing 3 s.rings, sl eHouse 3 s.houses]
abbrev eDay (d : Day) : List V := [sl eSpan 2 d.press, sl eSpan 2 d.warm]
/-- A pointer to a site that is looked at. -/
abbrev pSite (s : Site) : V := .rptr 1 6 (fun _ => eSite s) 0 0
structure Today where
  s : Site
  d : Day
  before : Sl Span
  behind : Sl Stt
abbrev eToday (t : Today) : List V := [pSite t.s, sl eSpan 2 t.d.press, sl eSpan 2 t.d.warm, sl eSpan 2 t.before, sl eStt 6 t.behind]
abbrev pToday (t : Today) : V := .rptr 1 5 (fun _ => eToday t) 0 0
/-- A number of a table: 'speed$1', 'speed$2'. -/
abbrev cMap (g : Nat) (s : Site) : V := .fn (.func g) [] [.rptr 1 1 (fun _ => [pSite s]) 0 0]
end Go.Sim.Cr

/-
  What the evaluator says of these functions (printed by a private program; each row is checked by the kernel).
-/
set_option maxRecDepth 100000
namespace Go.Sim.Cr
open Go.Proofs

noncomputable def L7601x0 (env : Env) (F : Nat) (a : Int) (b : Int) (n : Int) (fu : Nat) (i0 : Int) (i1 : Int) : Option Out := atLoop Try.prog (cfg F) env 76 [.r, .l, .d] [] fu { tm := tmL 24 0 [(0, (.int .i64 i0)), (1, (.int .i64 i1)), (2, (.fn (.func 115) [] [(.rptr 1 1 (fun u8 => [(.int .i64 n)]) 0 0)]))], hp := [] }
theorem t7601 (env : Env) (F : Nat) (a : Int) (b : Int) (n : Int) : (evFun Try.prog (cfg F) env 76 [(.int .i64 a), (.int .i64 b), (.fn (.func 115) [] [(.rptr 1 1 (fun u5 => [(.int .i64 n)]) 0 0)])]) =
  (L7601x0 env F a b n F a b) := by kernel_rfl
theorem L7601x0s (env : Env) (F : Nat) (a : Int) (b : Int) (n : Int) (fu : Nat) (i0 : Int) (i1 : Int) : L7601x0 env F a b n (fu + 1) i0 i1 =
  (bif (decide (i0 < i1)) then (tkOut (env 115 [(.int .i64 (IntKind.wrap .i64 (i0 + (IntKind.wrap .i64 (Int.tdiv (IntKind.wrap .i64 (i1 - i0)) (2 : Int)))))), (.rptr 1 1 (fun u8 => [(.int .i64 n)]) 0 0)]) none (fun v8 => (tkBool v8 none fun b9 => (bif b9 then (L7601x0 env F a b n fu i0 (IntKind.wrap .i64 (i0 + (IntKind.wrap .i64 (Int.tdiv (IntKind.wrap .i64 (i1 - i0)) (2 : Int))))))
        else (L7601x0 env F a b n fu (IntKind.wrap .i64 ((IntKind.wrap .i64 (i0 + (IntKind.wrap .i64 (Int.tdiv (IntKind.wrap .i64 (i1 - i0)) (2 : Int))))) + (1 : Int))) i1))))
    (fun p8 => (tkIfc p8 none fun t9 x10 => (bif (flatP (.iface t9 x10)) then some (.pan (.iface t9 x10))
        else none))))
  else some (.ret (.int .i64 i0))) := by kernel_rfl

theorem t54 (env : Env) (F : Nat) (x : Int) (y : Int) (z : Int) : (evFun Try.prog (cfg F) env 54 [(.int .i64 x), (.int .i64 y), (.int .i64 z)]) =
  (bif (decide (x ≥ y)) then some (.ret (.bool (decide (x ≤ z))))
  else some (.ret (.bool false))) := by kernel_rfl

theorem t18 (env : Env) (F : Nat) (x : Int) (y : Int) : (evFun Try.prog (cfg F) env 18 [(.int .i64 x), (.int .i64 y)]) =
  (tkOut (env 54 [(.int .i64 x), (.int .i64 (-(10000 : Int))), (.int .i64 (10000 : Int))]) none (fun v4 => (tkBool v4 none fun b5 => (bif b5 then (tkOut (env 54 [(.int .i64 y), (.int .i64 (-(10000 : Int))), (.int .i64 (10000 : Int))]) none (fun v6 => (tkBool v6 none fun b7 => some (.ret (.bool b7))))
        (fun p6 => (tkIfc p6 none fun t7 x8 => (bif (flatP (.iface t7 x8)) then some (.pan (.iface t7 x8))
            else none))))
      else some (.ret (.bool false)))))
  (fun p4 => (tkIfc p4 none fun t5 x6 => (bif (flatP (.iface t5 x6)) then some (.pan (.iface t5 x6))
      else none)))) := by kernel_rfl

theorem t61 (env : Env) (F : Nat) (x : Int) (y : Int) (z : Int) : (evFun Try.prog (cfg F) env 61 [(.int .i64 x), (.int .i64 y), (.int .i64 z)]) =
  some (.ret (.int .i64 (IntKind.wrap .i64 (Int.tdiv (IntKind.wrap .i64 ((IntKind.wrap .i64 (x * y)) * z)) (1000000000 : Int))))) := by kernel_rfl

theorem t62 (env : Env) (F : Nat) (x : Int) (y : Int) (z : Int) : (evFun Try.prog (cfg F) env 62 [(.int .i64 x), (.int .i64 y), (.int .i64 z)]) =
  some (.ret (.int .i64 (IntKind.wrap .i64 (Int.tdiv (IntKind.wrap .i64 ((IntKind.wrap .i64 ((IntKind.wrap .i64 (x * y)) * z)) + (999999999 : Int))) (1000000000 : Int))))) := by kernel_rfl

theorem t25 (env : Env) (F : Nat) (p : Span) (n : Int) : (evFun Try.prog (cfg F) env 25 [(.agg (eSpan p)), (.int .i64 n)]) =
  some (.ret (.int .i64 (IntKind.wrap .i64 ((Span.lo p) + (IntKind.wrap .i64 (Int.tdiv (IntKind.wrap .i64 ((IntKind.wrap .i64 ((Span.hi p) - (Span.lo p))) * n)) (100 : Int))))))) := by kernel_rfl

theorem t28 (env : Env) (F : Nat) (n : Int) (p : Span) : (evFun Try.prog (cfg F) env 28 [(.int .i64 n), (.agg (eSpan p))]) =
  (bif (decide (n ≥ (Span.lo p))) then some (.ret (.bool (decide (n ≤ (Span.hi p)))))
  else some (.ret (.bool false))) := by kernel_rfl

theorem t35 (env : Env) (F : Nat) (p : Span) (q : Span) : (evFun Try.prog (cfg F) env 35 [(.agg (eSpan p)), (.agg (eSpan q))]) =
  (bif (decide ((Span.lo p) ≥ (Span.lo q))) then some (.ret (.bool (decide ((Span.hi p) ≤ (Span.hi q)))))
  else some (.ret (.bool false))) := by kernel_rfl

theorem t72 (env : Env) (F : Nat) (x : Int) (y : Int) (z : Int) : (evFun Try.prog (cfg F) env 72 [(.int .i64 x), (.int .i64 y), (.int .i64 z)]) =
  (bif (decide (x ≥ y)) then some (.ret (.bool (decide (x ≤ z))))
  else some (.ret (.bool false))) := by kernel_rfl

theorem t52 (env : Env) (F : Nat) (x : Int) (y : Int) : (evFun Try.prog (cfg F) env 52 [(.int .i64 x), (.int .i64 y)]) =
  (tkOut (env 72 [(.int .i64 x), (.int .i64 (-(10000 : Int))), (.int .i64 (10000 : Int))]) none (fun v4 => (tkBool v4 none fun b5 => (bif b5 then (tkOut (env 72 [(.int .i64 y), (.int .i64 (-(10000 : Int))), (.int .i64 (10000 : Int))]) none (fun v6 => (tkBool v6 none fun b7 => some (.ret (.bool b7))))
        (fun p6 => (tkIfc p6 none fun t7 x8 => (bif (flatP (.iface t7 x8)) then some (.pan (.iface t7 x8))
            else none))))
      else some (.ret (.bool false)))))
  (fun p4 => (tkIfc p4 none fun t5 x6 => (bif (flatP (.iface t5 x6)) then some (.pan (.iface t5 x6))
      else none)))) := by kernel_rfl

theorem t74 (env : Env) (F : Nat) (p : Span) (n : Int) : (evFun Try.prog (cfg F) env 74 [(.agg (eSpan p)), (.int .i64 n)]) =
  (bif (decide ((Span.lo p) ≥ (0 : Int))) then (bif (decide ((Span.lo p) ≤ (Span.hi p))) then some (.ret (.bool (decide ((Span.hi p) ≤ n))))
    else some (.ret (.bool false)))
  else some (.ret (.bool false))) := by kernel_rfl

theorem t79 (env : Env) (F : Nat) (c : Cav) : (evFun Try.prog (cfg F) env 79 [(.agg (eCav c))]) =
  (tkOut (env 52 [(.int .i64 (Cav.x c)), (.int .i64 (Cav.y c))]) none (fun v3 => (tkBool v3 none fun b4 => (bif b4 then (tkOut (env 74 [(.agg (eSpan (Cav.rad c))), (.int .i64 (200000 : Int))]) none (fun v5 => (tkBool v5 none fun b6 => (bif b6 then (tkOut (env 74 [(.agg (eSpan (Cav.vol c))), (.int .i64 (10000000 : Int))]) none (fun v7 => (tkBool v7 none fun b8 => (bif b8 then (tkOut (env 72 [(.int .i64 (Cav.rock c)), (.int .i64 (0 : Int)), (.int .i64 (50000 : Int))]) none (fun v9 => (tkBool v9 none fun b10 => (bif b10 then (tkOut (env 72 [(.int .i64 (Cav.floor c)), (.int .i64 (0 : Int)), (.int .i64 (10000000 : Int))]) none (fun v11 => (tkBool v11 none fun b12 => (bif b12 then (tkOut (env 74 [(.agg (eSpan (Cav.gate c))), (.int .i64 (50000 : Int))]) none (fun v13 => (tkBool v13 none fun b14 => (bif b14 then (tkOut (env 72 [(.int .i64 (Cav.change c)), (.int .i64 (0 : Int)), (.int .i64 (50000 : Int))]) none (fun v15 => (tkBool v15 none fun b16 => some (.ret (.bool b16))))
                                      (fun p15 => (tkIfc p15 none fun t16 x17 => (bif (flatP (.iface t16 x17)) then some (.pan (.iface t16 x17))
                                          else none))))
                                    else some (.ret (.bool false)))))
                                (fun p13 => (tkIfc p13 none fun t14 x15 => (bif (flatP (.iface t14 x15)) then some (.pan (.iface t14 x15))
                                    else none))))
                              else some (.ret (.bool false)))))
                          (fun p11 => (tkIfc p11 none fun t12 x13 => (bif (flatP (.iface t12 x13)) then some (.pan (.iface t12 x13))
                              else none))))
                        else some (.ret (.bool false)))))
                    (fun p9 => (tkIfc p9 none fun t10 x11 => (bif (flatP (.iface t10 x11)) then some (.pan (.iface t10 x11))
                        else none))))
                  else some (.ret (.bool false)))))
              (fun p7 => (tkIfc p7 none fun t8 x9 => (bif (flatP (.iface t8 x9)) then some (.pan (.iface t8 x9))
                  else none))))
            else some (.ret (.bool false)))))
        (fun p5 => (tkIfc p5 none fun t6 x7 => (bif (flatP (.iface t6 x7)) then some (.pan (.iface t6 x7))
            else none))))
      else some (.ret (.bool false)))))
  (fun p3 => (tkIfc p3 none fun t4 x5 => (bif (flatP (.iface t4 x5)) then some (.pan (.iface t4 x5))
      else none)))) := by kernel_rfl

theorem t107 (env : Env) (F : Nat) (p : Span) (q : Span) : (evFun Try.prog (cfg F) env 107 [(.agg (eSpan p)), (.agg (eSpan q))]) =
  (bif (decide ((Span.lo p) ≥ (Span.lo q))) then some (.ret (.bool (decide ((Span.hi p) ≥ (Span.hi q)))))
  else some (.ret (.bool false))) := by kernel_rfl

theorem t113 (env : Env) (F : Nat) (x : Int) (y : Int) (z : Int) (u : Int) : (evFun Try.prog (cfg F) env 113 [(.int .i64 x), (.int .i64 y), (.int .i64 z), (.int .i64 u)]) =
  some (.ret (.int .i64 (if (IntKind.wrap .i64 (Int.tdiv (IntKind.wrap .i64 ((IntKind.wrap .i64 ((IntKind.wrap .i64 (x * y)) * z)) + u)) (1000000000 : Int))) < x then (IntKind.wrap .i64 (Int.tdiv (IntKind.wrap .i64 ((IntKind.wrap .i64 ((IntKind.wrap .i64 (x * y)) * z)) + u)) (1000000000 : Int))) else x))) := by kernel_rfl

theorem t115 (env : Env) (F : Nat) (x : Int) (n : Int) : (evFun Try.prog (cfg F) env 115 [(.int .i64 x), (.rptr 1 1 (fun u4 => [(.int .i64 n)]) 0 0)]) =
  some (.ret (.bool (decide ((IntKind.wrap .i64 (x * x)) > n)))) := by kernel_rfl

theorem t105 (env : Env) (F : Nat) (n : Int) : (evFun Try.prog (cfg F) env 105 [(.int .i64 n)]) =
  (tkOut (env 76 [(.int .i64 (1 : Int)), (.int .i64 (67108864 : Int)), (.fn (.func 115) [] [(.rptr 1 1 (fun u3 => [(.int .i64 n)]) 0 0)])]) none (fun v3 => (tkInt v3 none fun q4 n5 => (bif (decide (q4 = .i64)) then some (.ret (.int q4 (IntKind.wrap q4 (n5 - (1 : Int)))))
      else none)))
  (fun p3 => (tkIfc p3 none fun t4 x5 => (bif (flatP (.iface t4 x5)) then some (.pan (.iface t4 x5))
      else none)))) := by kernel_rfl

theorem t117 (env : Env) (F : Nat) (s : Site) (i : Int) : (evFun Try.prog (cfg F) env 117 [(.int .i64 i), (.rptr 1 1 (fun u4 => [(pSite s)]) 0 0)]) =
  (bif (decide ((0 : Int) ≤ i)) then (bif (decide (i < (((Sl.len (Site.rows s)) : Nat) : Int))) then some (.ret (.int .i64 (Row.deficit (Sl.el (Site.rows s) (Int.toNat i)))))
    else none)
  else none) := by kernel_rfl

theorem t118 (env : Env) (F : Nat) (s : Site) (i : Int) : (evFun Try.prog (cfg F) env 118 [(.int .i64 i), (.rptr 1 1 (fun u4 => [(pSite s)]) 0 0)]) =
  (bif (decide ((0 : Int) ≤ i)) then (bif (decide (i < (((Sl.len (Site.heats s)) : Nat) : Int))) then some (.ret (.int .i64 (Heat.warmth (Sl.el (Site.heats s) (Int.toNat i)))))
    else none)
  else none) := by kernel_rfl

theorem t1191 (env : Env) (F : Nat) (s : Site) (i : Int) (lo : Int) : (evFun Try.prog (cfg F) env 119 [(.int .i64 i), (.rptr 1 1 (fun u5 => [(cMap 117 s)]) 0 0), (.rptr 1 1 (fun u5 => [(.int .i64 lo)]) 0 0)]) =
  (tkOut (env 117 [(.int .i64 i), (.rptr 1 1 (fun u5 => [(pSite s)]) 0 0)]) none (fun v5 => (tkInt v5 none fun q6 n7 => (bif (decide (q6 = .i64)) then some (.ret (.bool (decide (n7 > lo))))
      else none)))
  (fun p5 => (tkIfc p5 none fun t6 x7 => (bif (flatP (.iface t6 x7)) then none
      else none)))) := by kernel_rfl

theorem t1192 (env : Env) (F : Nat) (s : Site) (i : Int) (lo : Int) : (evFun Try.prog (cfg F) env 119 [(.int .i64 i), (.rptr 1 1 (fun u5 => [(cMap 118 s)]) 0 0), (.rptr 1 1 (fun u5 => [(.int .i64 lo)]) 0 0)]) =
  (tkOut (env 118 [(.int .i64 i), (.rptr 1 1 (fun u5 => [(pSite s)]) 0 0)]) none (fun v5 => (tkInt v5 none fun q6 n7 => (bif (decide (q6 = .i64)) then some (.ret (.bool (decide (n7 > lo))))
      else none)))
  (fun p5 => (tkIfc p5 none fun t6 x7 => (bif (flatP (.iface t6 x7)) then none
      else none)))) := by kernel_rfl

theorem t1201 (env : Env) (F : Nat) (s : Site) (i : Int) (hi : Int) : (evFun Try.prog (cfg F) env 120 [(.int .i64 i), (.rptr 1 1 (fun u5 => [(cMap 117 s)]) 0 0), (.rptr 1 1 (fun u5 => [(.int .i64 hi)]) 0 0)]) =
  (tkOut (env 117 [(.int .i64 i), (.rptr 1 1 (fun u5 => [(pSite s)]) 0 0)]) none (fun v5 => (tkInt v5 none fun q6 n7 => (bif (decide (q6 = .i64)) then some (.ret (.bool (decide (n7 ≥ hi))))
      else none)))
  (fun p5 => (tkIfc p5 none fun t6 x7 => (bif (flatP (.iface t6 x7)) then none
      else none)))) := by kernel_rfl

theorem t1202 (env : Env) (F : Nat) (s : Site) (i : Int) (hi : Int) : (evFun Try.prog (cfg F) env 120 [(.int .i64 i), (.rptr 1 1 (fun u5 => [(cMap 118 s)]) 0 0), (.rptr 1 1 (fun u5 => [(.int .i64 hi)]) 0 0)]) =
  (tkOut (env 118 [(.int .i64 i), (.rptr 1 1 (fun u5 => [(pSite s)]) 0 0)]) none (fun v5 => (tkInt v5 none fun q6 n7 => (bif (decide (q6 = .i64)) then some (.ret (.bool (decide (n7 ≥ hi))))
      else none)))
  (fun p5 => (tkIfc p5 none fun t6 x7 => (bif (flatP (.iface t6 x7)) then none
      else none)))) := by kernel_rfl

theorem t1161 (env : Env) (F : Nat) (s : Site) (n : Int) (lo : Int) (hi : Int) : (evFun Try.prog (cfg F) env 116 [(.int .i64 n), (cMap 117 s), (.int .i64 lo), (.int .i64 hi)]) =
  (tkOut (env 76 [(.int .i64 (0 : Int)), (.int .i64 n), (.fn (.func 119) [] [(.rptr 1 1 (fun u6 => [(.fn (.func 117) [] [(.rptr 1 1 (fun u7 => [(pSite s)]) 0 0)])]) 0 0), (.rptr 1 1 (fun u6 => [(.int .i64 lo)]) 0 0)])]) none (fun v6 => (tkInt v6 none fun q7 n8 => (bif (decide (q7 = .i64)) then (tkOut (env 76 [(.int .i64 (0 : Int)), (.int .i64 n), (.fn (.func 120) [] [(.rptr 1 1 (fun u9 => [(.fn (.func 117) [] [(.rptr 1 1 (fun u10 => [(pSite s)]) 0 0)])]) 0 0), (.rptr 1 1 (fun u9 => [(.int .i64 hi)]) 0 0)])]) none (fun v9 => (tkInt v9 none fun q10 n11 => (bif (decide (q7 = .i64)) then (bif (decide ((IntKind.wrap q7 (n8 - (1 : Int))) < (0 : Int))) then some (.pan (.iface 146 (.agg [(.int .i64 lo)])))
              else (bif (decide (q10 = .i64)) then (bif (n11 == n) then some (.pan (.iface 146 (.agg [(.int .i64 lo)])))
                  else some (.ret (.tup [(.int q7 (IntKind.wrap q7 (n8 - (1 : Int)))), (.int q10 n11)])))
                else none))
            else none)))
        (fun p9 => (tkIfc p9 none fun t10 x11 => (bif (flatP (.iface t10 x11)) then some (.pan (.iface t10 x11))
            else none))))
      else none)))
  (fun p6 => (tkIfc p6 none fun t7 x8 => (bif (flatP (.iface t7 x8)) then some (.pan (.iface t7 x8))
      else none)))) := by kernel_rfl

theorem t1162 (env : Env) (F : Nat) (s : Site) (n : Int) (lo : Int) (hi : Int) : (evFun Try.prog (cfg F) env 116 [(.int .i64 n), (cMap 118 s), (.int .i64 lo), (.int .i64 hi)]) =
  (tkOut (env 76 [(.int .i64 (0 : Int)), (.int .i64 n), (.fn (.func 119) [] [(.rptr 1 1 (fun u6 => [(.fn (.func 118) [] [(.rptr 1 1 (fun u7 => [(pSite s)]) 0 0)])]) 0 0), (.rptr 1 1 (fun u6 => [(.int .i64 lo)]) 0 0)])]) none (fun v6 => (tkInt v6 none fun q7 n8 => (bif (decide (q7 = .i64)) then (tkOut (env 76 [(.int .i64 (0 : Int)), (.int .i64 n), (.fn (.func 120) [] [(.rptr 1 1 (fun u9 => [(.fn (.func 118) [] [(.rptr 1 1 (fun u10 => [(pSite s)]) 0 0)])]) 0 0), (.rptr 1 1 (fun u9 => [(.int .i64 hi)]) 0 0)])]) none (fun v9 => (tkInt v9 none fun q10 n11 => (bif (decide (q7 = .i64)) then (bif (decide ((IntKind.wrap q7 (n8 - (1 : Int))) < (0 : Int))) then some (.pan (.iface 146 (.agg [(.int .i64 lo)])))
              else (bif (decide (q10 = .i64)) then (bif (n11 == n) then some (.pan (.iface 146 (.agg [(.int .i64 lo)])))
                  else some (.ret (.tup [(.int q7 (IntKind.wrap q7 (n8 - (1 : Int)))), (.int q10 n11)])))
                else none))
            else none)))
        (fun p9 => (tkIfc p9 none fun t10 x11 => (bif (flatP (.iface t10 x11)) then some (.pan (.iface t10 x11))
            else none))))
      else none)))
  (fun p6 => (tkIfc p6 none fun t7 x8 => (bif (flatP (.iface t7 x8)) then some (.pan (.iface t7 x8))
      else none)))) := by kernel_rfl

noncomputable def L7621x0 (env : Env) (F : Nat) (a : Int) (b : Int) (lo : Int) (s : Site) (fu : Nat) (i0 : Int) (i1 : Int) : Option Out := atLoop Try.prog (cfg F) env 76 [.r, .l, .d] [] fu { tm := tmL 24 0 [(0, (.int .i64 i0)), (1, (.int .i64 i1)), (2, (.fn (.func 119) [] [(.rptr 1 1 (fun u9 => [(.fn (.func 117) [] [(.rptr 1 1 (fun u10 => [(pSite s)]) 0 0)])]) 0 0), (.rptr 1 1 (fun u9 => [(.int .i64 lo)]) 0 0)]))], hp := [] }
theorem t7621 (env : Env) (F : Nat) (a : Int) (b : Int) (lo : Int) (s : Site) : (evFun Try.prog (cfg F) env 76 [(.int .i64 a), (.int .i64 b), (.fn (.func 119) [] [(.rptr 1 1 (fun u6 => [(cMap 117 s)]) 0 0), (.rptr 1 1 (fun u6 => [(.int .i64 lo)]) 0 0)])]) =
  (L7621x0 env F a b lo s F a b) := by kernel_rfl
theorem L7621x0s (env : Env) (F : Nat) (a : Int) (b : Int) (lo : Int) (s : Site) (fu : Nat) (i0 : Int) (i1 : Int) : L7621x0 env F a b lo s (fu + 1) i0 i1 =
  (bif (decide (i0 < i1)) then (tkOut (env 119 [(.int .i64 (IntKind.wrap .i64 (i0 + (IntKind.wrap .i64 (Int.tdiv (IntKind.wrap .i64 (i1 - i0)) (2 : Int)))))), (.rptr 1 1 (fun u9 => [(.fn (.func 117) [] [(.rptr 1 1 (fun u10 => [(pSite s)]) 0 0)])]) 0 0), (.rptr 1 1 (fun u9 => [(.int .i64 lo)]) 0 0)]) none (fun v9 => (tkBool v9 none fun b10 => (bif b10 then (L7621x0 env F a b lo s fu i0 (IntKind.wrap .i64 (i0 + (IntKind.wrap .i64 (Int.tdiv (IntKind.wrap .i64 (i1 - i0)) (2 : Int))))))
        else (L7621x0 env F a b lo s fu (IntKind.wrap .i64 ((IntKind.wrap .i64 (i0 + (IntKind.wrap .i64 (Int.tdiv (IntKind.wrap .i64 (i1 - i0)) (2 : Int))))) + (1 : Int))) i1))))
    (fun p9 => (tkIfc p9 none fun t10 x11 => (bif (flatP (.iface t10 x11)) then some (.pan (.iface t10 x11))
        else none))))
  else some (.ret (.int .i64 i0))) := by kernel_rfl

noncomputable def L7622x0 (env : Env) (F : Nat) (a : Int) (b : Int) (lo : Int) (s : Site) (fu : Nat) (i0 : Int) (i1 : Int) : Option Out := atLoop Try.prog (cfg F) env 76 [.r, .l, .d] [] fu { tm := tmL 24 0 [(0, (.int .i64 i0)), (1, (.int .i64 i1)), (2, (.fn (.func 119) [] [(.rptr 1 1 (fun u9 => [(.fn (.func 118) [] [(.rptr 1 1 (fun u10 => [(pSite s)]) 0 0)])]) 0 0), (.rptr 1 1 (fun u9 => [(.int .i64 lo)]) 0 0)]))], hp := [] }
theorem t7622 (env : Env) (F : Nat) (a : Int) (b : Int) (lo : Int) (s : Site) : (evFun Try.prog (cfg F) env 76 [(.int .i64 a), (.int .i64 b), (.fn (.func 119) [] [(.rptr 1 1 (fun u6 => [(cMap 118 s)]) 0 0), (.rptr 1 1 (fun u6 => [(.int .i64 lo)]) 0 0)])]) =
  (L7622x0 env F a b lo s F a b) := by kernel_rfl
theorem L7622x0s (env : Env) (F : Nat) (a : Int) (b : Int) (lo : Int) (s : Site) (fu : Nat) (i0 : Int) (i1 : Int) : L7622x0 env F a b lo s (fu + 1) i0 i1 =
  (bif (decide (i0 < i1)) then (tkOut (env 119 [(.int .i64 (IntKind.wrap .i64 (i0 + (IntKind.wrap .i64 (Int.tdiv (IntKind.wrap .i64 (i1 - i0)) (2 : Int)))))), (.rptr 1 1 (fun u9 => [(.fn (.func 118) [] [(.rptr 1 1 (fun u10 => [(pSite s)]) 0 0)])]) 0 0), (.rptr 1 1 (fun u9 => [(.int .i64 lo)]) 0 0)]) none (fun v9 => (tkBool v9 none fun b10 => (bif b10 then (L7622x0 env F a b lo s fu i0 (IntKind.wrap .i64 (i0 + (IntKind.wrap .i64 (Int.tdiv (IntKind.wrap .i64 (i1 - i0)) (2 : Int))))))
        else (L7622x0 env F a b lo s fu (IntKind.wrap .i64 ((IntKind.wrap .i64 (i0 + (IntKind.wrap .i64 (Int.tdiv (IntKind.wrap .i64 (i1 - i0)) (2 : Int))))) + (1 : Int))) i1))))
    (fun p9 => (tkIfc p9 none fun t10 x11 => (bif (flatP (.iface t10 x11)) then some (.pan (.iface t10 x11))
        else none))))
  else some (.ret (.int .i64 i0))) := by kernel_rfl

noncomputable def L7631x0 (env : Env) (F : Nat) (a : Int) (b : Int) (hi : Int) (s : Site) (fu : Nat) (i0 : Int) (i1 : Int) : Option Out := atLoop Try.prog (cfg F) env 76 [.r, .l, .d] [] fu { tm := tmL 24 0 [(0, (.int .i64 i0)), (1, (.int .i64 i1)), (2, (.fn (.func 120) [] [(.rptr 1 1 (fun u9 => [(.fn (.func 117) [] [(.rptr 1 1 (fun u10 => [(pSite s)]) 0 0)])]) 0 0), (.rptr 1 1 (fun u9 => [(.int .i64 hi)]) 0 0)]))], hp := [] }
theorem t7631 (env : Env) (F : Nat) (a : Int) (b : Int) (hi : Int) (s : Site) : (evFun Try.prog (cfg F) env 76 [(.int .i64 a), (.int .i64 b), (.fn (.func 120) [] [(.rptr 1 1 (fun u6 => [(cMap 117 s)]) 0 0), (.rptr 1 1 (fun u6 => [(.int .i64 hi)]) 0 0)])]) =
  (L7631x0 env F a b hi s F a b) := by kernel_rfl
theorem L7631x0s (env : Env) (F : Nat) (a : Int) (b : Int) (hi : Int) (s : Site) (fu : Nat) (i0 : Int) (i1 : Int) : L7631x0 env F a b hi s (fu + 1) i0 i1 =
  (bif (decide (i0 < i1)) then (tkOut (env 120 [(.int .i64 (IntKind.wrap .i64 (i0 + (IntKind.wrap .i64 (Int.tdiv (IntKind.wrap .i64 (i1 - i0)) (2 : Int)))))), (.rptr 1 1 (fun u9 => [(.fn (.func 117) [] [(.rptr 1 1 (fun u10 => [(pSite s)]) 0 0)])]) 0 0), (.rptr 1 1 (fun u9 => [(.int .i64 hi)]) 0 0)]) none (fun v9 => (tkBool v9 none fun b10 => (bif b10 then (L7631x0 env F a b hi s fu i0 (IntKind.wrap .i64 (i0 + (IntKind.wrap .i64 (Int.tdiv (IntKind.wrap .i64 (i1 - i0)) (2 : Int))))))
        else (L7631x0 env F a b hi s fu (IntKind.wrap .i64 ((IntKind.wrap .i64 (i0 + (IntKind.wrap .i64 (Int.tdiv (IntKind.wrap .i64 (i1 - i0)) (2 : Int))))) + (1 : Int))) i1))))
    (fun p9 => (tkIfc p9 none fun t10 x11 => (bif (flatP (.iface t10 x11)) then some (.pan (.iface t10 x11))
        else none))))
  else some (.ret (.int .i64 i0))) := by kernel_rfl

noncomputable def L7632x0 (env : Env) (F : Nat) (a : Int) (b : Int) (hi : Int) (s : Site) (fu : Nat) (i0 : Int) (i1 : Int) : Option Out := atLoop Try.prog (cfg F) env 76 [.r, .l, .d] [] fu { tm := tmL 24 0 [(0, (.int .i64 i0)), (1, (.int .i64 i1)), (2, (.fn (.func 120) [] [(.rptr 1 1 (fun u9 => [(.fn (.func 118) [] [(.rptr 1 1 (fun u10 => [(pSite s)]) 0 0)])]) 0 0), (.rptr 1 1 (fun u9 => [(.int .i64 hi)]) 0 0)]))], hp := [] }
theorem t7632 (env : Env) (F : Nat) (a : Int) (b : Int) (hi : Int) (s : Site) : (evFun Try.prog (cfg F) env 76 [(.int .i64 a), (.int .i64 b), (.fn (.func 120) [] [(.rptr 1 1 (fun u6 => [(cMap 118 s)]) 0 0), (.rptr 1 1 (fun u6 => [(.int .i64 hi)]) 0 0)])]) =
  (L7632x0 env F a b hi s F a b) := by kernel_rfl
theorem L7632x0s (env : Env) (F : Nat) (a : Int) (b : Int) (hi : Int) (s : Site) (fu : Nat) (i0 : Int) (i1 : Int) : L7632x0 env F a b hi s (fu + 1) i0 i1 =
  (bif (decide (i0 < i1)) then (tkOut (env 120 [(.int .i64 (IntKind.wrap .i64 (i0 + (IntKind.wrap .i64 (Int.tdiv (IntKind.wrap .i64 (i1 - i0)) (2 : Int)))))), (.rptr 1 1 (fun u9 => [(.fn (.func 118) [] [(.rptr 1 1 (fun u10 => [(pSite s)]) 0 0)])]) 0 0), (.rptr 1 1 (fun u9 => [(.int .i64 hi)]) 0 0)]) none (fun v9 => (tkBool v9 none fun b10 => (bif b10 then (L7632x0 env F a b hi s fu i0 (IntKind.wrap .i64 (i0 + (IntKind.wrap .i64 (Int.tdiv (IntKind.wrap .i64 (i1 - i0)) (2 : Int))))))
        else (L7632x0 env F a b hi s fu (IntKind.wrap .i64 ((IntKind.wrap .i64 (i0 + (IntKind.wrap .i64 (Int.tdiv (IntKind.wrap .i64 (i1 - i0)) (2 : Int))))) + (1 : Int))) i1))))
    (fun p9 => (tkIfc p9 none fun t10 x11 => (bif (flatP (.iface t10 x11)) then some (.pan (.iface t10 x11))
        else none))))
  else some (.ret (.int .i64 i0))) := by kernel_rfl

theorem t80 (env : Env) (F : Nat) (l : Sl Cav) (c : Cav) : (evFun Try.prog (cfg F) env 80 [(sl eCav 11 l), (.fn (.func 81) [] [(.rptr 1 11 (fun u4 => (eCav c)) 0 0)])]) =
  (tkOut (env 108 [(sl eCav 11 l), (.fn (.func 81) [] [(.rptr 1 11 (fun u4 => (eCav c)) 0 0)])]) none (fun v4 => (tkInt v4 none fun q5 n6 => (bif (decide (q5 = .i64)) then some (.ret (.bool (decide (n6 ≥ (0 : Int)))))
      else none)))
  (fun p4 => (tkIfc p4 none fun t5 x6 => (bif (flatP (.iface t5 x6)) then some (.pan (.iface t5 x6))
      else none)))) := by kernel_rfl

theorem t81 (env : Env) (F : Nat) (d : Cav) (c : Cav) : (evFun Try.prog (cfg F) env 81 [(.agg (eCav d)), (.rptr 1 11 (fun u4 => (eCav c)) 0 0)]) =
  (bif ((Cav.x d) == (Cav.x c)) then some (.ret (.bool ((Cav.y d) == (Cav.y c))))
  else some (.ret (.bool false))) := by kernel_rfl

theorem t82 (env : Env) (F : Nat) (l : Sl House) : (evFun Try.prog (cfg F) env 82 [(sl eHouse 3 l), (.fn (.func 83) [] [])]) =
  (tkOut (env 109 [(sl eHouse 3 l), (.fn (.func 83) [] [])]) none (fun v3 => (tkInt v3 none fun q4 n5 => (bif (decide (q4 = .i64)) then some (.ret (.bool (decide (n5 ≥ (0 : Int)))))
      else none)))
  (fun p3 => (tkIfc p3 none fun t4 x5 => (bif (flatP (.iface t4 x5)) then some (.pan (.iface t4 x5))
      else none)))) := by kernel_rfl

theorem t83 (env : Env) (F : Nat) (h : House) : (evFun Try.prog (cfg F) env 83 [(.agg (eHouse h))]) =
  (tkOut (env 52 [(.int .i64 (House.x h)), (.int .i64 (House.y h))]) none (fun v3 => (tkBool v3 none fun b4 => (bif (!b4) then some (.ret (.bool true))
      else (tkOut (env 72 [(.int .i64 (House.most h)), (.int .i64 (0 : Int)), (.int .i64 (1000000 : Int))]) none (fun v5 => (tkBool v5 none fun b6 => some (.ret (.bool (!b6)))))
        (fun p5 => (tkIfc p5 none fun t6 x7 => (bif (flatP (.iface t6 x7)) then some (.pan (.iface t6 x7))
            else none)))))))
  (fun p3 => (tkIfc p3 none fun t4 x5 => (bif (flatP (.iface t4 x5)) then some (.pan (.iface t4 x5))
      else none)))) := by kernel_rfl

theorem t84 (env : Env) (F : Nat) (l : Sl Stt) : (evFun Try.prog (cfg F) env 84 [(sl eStt 6 l), (.fn (.func 85) [] [])]) =
  (tkOut (env 110 [(sl eStt 6 l), (.fn (.func 85) [] [])]) none (fun v3 => (tkInt v3 none fun q4 n5 => (bif (decide (q4 = .i64)) then some (.ret (.bool (decide (n5 ≥ (0 : Int)))))
      else none)))
  (fun p3 => (tkIfc p3 none fun t4 x5 => (bif (flatP (.iface t4 x5)) then some (.pan (.iface t4 x5))
      else none)))) := by kernel_rfl

theorem t85 (env : Env) (F : Nat) (x : Stt) : (evFun Try.prog (cfg F) env 85 [(.agg (eStt x))]) =
  (tkOut (env 86 [(.agg (eStt x))]) none (fun v3 => (tkBool v3 none fun b4 => some (.ret (.bool (!b4)))))
  (fun p3 => (tkIfc p3 none fun t4 x5 => (bif (flatP (.iface t4 x5)) then some (.pan (.iface t4 x5))
      else none)))) := by kernel_rfl

theorem t86 (env : Env) (F : Nat) (x : Stt) : (evFun Try.prog (cfg F) env 86 [(.agg (eStt x))]) =
  (tkOut (env 74 [(.agg (eSpan (Stt.rad x))), (.int .i64 (400000 : Int))]) none (fun v3 => (tkBool v3 none fun b4 => (bif b4 then (tkOut (env 74 [(.agg (eSpan (Stt.vol x))), (.int .i64 (10000000 : Int))]) none (fun v5 => (tkBool v5 none fun b6 => (bif b6 then (tkOut (env 74 [(.agg (eSpan (Stt.lost x))), (.int .i64 (1000000000 : Int))]) none (fun v7 => (tkBool v7 none fun b8 => some (.ret (.bool b8))))
              (fun p7 => (tkIfc p7 none fun t8 x9 => (bif (flatP (.iface t8 x9)) then some (.pan (.iface t8 x9))
                  else none))))
            else some (.ret (.bool false)))))
        (fun p5 => (tkIfc p5 none fun t6 x7 => (bif (flatP (.iface t6 x7)) then some (.pan (.iface t6 x7))
            else none))))
      else some (.ret (.bool false)))))
  (fun p3 => (tkIfc p3 none fun t4 x5 => (bif (flatP (.iface t4 x5)) then some (.pan (.iface t4 x5))
      else none)))) := by kernel_rfl

theorem t87 (env : Env) (F : Nat) (l : Sl Span) (m : Int) (s : Site) : (evFun Try.prog (cfg F) env 87 [(sl eSpan 2 l), (.int .i64 m), (pSite s)]) =
  (bif ((((Sl.len l) : Nat) : Int) == (((Sl.len (Site.cavs s)) : Nat) : Int)) then (tkOut (env 88 [(sl eSpan 2 l), (.fn (.func 89) [] [(.rptr 1 1 (fun u5 => [(.int .i64 m)]) 0 0)])]) none (fun v5 => (tkBool v5 none fun b6 => some (.ret (.bool (!b6)))))
    (fun p5 => (tkIfc p5 none fun t6 x7 => (bif (flatP (.iface t6 x7)) then some (.pan (.iface t6 x7))
        else none))))
  else some (.ret (.bool false))) := by kernel_rfl

theorem t88 (env : Env) (F : Nat) (l : Sl Span) (m : Int) : (evFun Try.prog (cfg F) env 88 [(sl eSpan 2 l), (.fn (.func 89) [] [(.rptr 1 1 (fun u4 => [(.int .i64 m)]) 0 0)])]) =
  (tkOut (env 111 [(sl eSpan 2 l), (.fn (.func 89) [] [(.rptr 1 1 (fun u4 => [(.int .i64 m)]) 0 0)])]) none (fun v4 => (tkInt v4 none fun q5 n6 => (bif (decide (q5 = .i64)) then some (.ret (.bool (decide (n6 ≥ (0 : Int)))))
      else none)))
  (fun p4 => (tkIfc p4 none fun t5 x6 => (bif (flatP (.iface t5 x6)) then some (.pan (.iface t5 x6))
      else none)))) := by kernel_rfl

theorem t89 (env : Env) (F : Nat) (p : Span) (m : Int) : (evFun Try.prog (cfg F) env 89 [(.agg (eSpan p)), (.rptr 1 1 (fun u4 => [(.int .i64 m)]) 0 0)]) =
  (tkOut (env 74 [(.agg (eSpan p)), (.int .i64 m)]) none (fun v4 => (tkBool v4 none fun b5 => some (.ret (.bool (!b5)))))
  (fun p4 => (tkIfc p4 none fun t5 x6 => (bif (flatP (.iface t5 x6)) then some (.pan (.iface t5 x6))
      else none)))) := by kernel_rfl

noncomputable def L108x0 (env : Env) (F : Nat) (l : Sl Cav) (c : Cav) (fu : Nat) (i0 : Int) : Option Out := atLoop Try.prog (cfg F) env 108 [.r, .l, .r, .d] [] fu { tm := tmL 19 0 [(0, (sl eCav 11 l)), (1, (.fn (.func 81) [] [(.rptr 1 11 (fun u6 => (eCav c)) 0 0)])), (7, (.int .i64 (((Sl.len l) : Nat) : Int))), (8, (.int .i64 i0))], hp := [] }
theorem t108 (env : Env) (F : Nat) (l : Sl Cav) (c : Cav) : (evFun Try.prog (cfg F) env 108 [(sl eCav 11 l), (.fn (.func 81) [] [(.rptr 1 11 (fun u4 => (eCav c)) 0 0)])]) =
  (L108x0 env F l c F (0 : Int)) := by kernel_rfl
theorem L108x0s (env : Env) (F : Nat) (l : Sl Cav) (c : Cav) (fu : Nat) (i0 : Int) : L108x0 env F l c (fu + 1) i0 =
  (bif (decide (i0 < (((Sl.len l) : Nat) : Int))) then (bif (decide ((0 : Int) ≤ i0)) then (bif (decide (i0 < (((Sl.len l) : Nat) : Int))) then (tkOut (env 81 [(.agg (eCav (Sl.el l (Int.toNat i0)))), (.rptr 1 11 (fun u6 => (eCav c)) 0 0)]) none (fun v6 => (tkBool v6 none fun b7 => (bif b7 then some (.ret (.int .i64 i0))
            else (L108x0 env F l c fu (IntKind.wrap .i64 (i0 + (1 : Int)))))))
        (fun p6 => (tkIfc p6 none fun t7 x8 => (bif (flatP (.iface t7 x8)) then some (.pan (.iface t7 x8))
            else none))))
      else none)
    else none)
  else some (.ret (.int .i64 (-(1 : Int))))) := by kernel_rfl

noncomputable def L109x0 (env : Env) (F : Nat) (l : Sl House) (fu : Nat) (i0 : Int) : Option Out := atLoop Try.prog (cfg F) env 109 [.r, .l, .r, .d] [] fu { tm := tmL 19 0 [(0, (sl eHouse 3 l)), (1, (.fn (.func 83) [] [])), (7, (.int .i64 (((Sl.len l) : Nat) : Int))), (8, (.int .i64 i0))], hp := [] }
theorem t109 (env : Env) (F : Nat) (l : Sl House) : (evFun Try.prog (cfg F) env 109 [(sl eHouse 3 l), (.fn (.func 83) [] [])]) =
  (L109x0 env F l F (0 : Int)) := by kernel_rfl
theorem L109x0s (env : Env) (F : Nat) (l : Sl House) (fu : Nat) (i0 : Int) : L109x0 env F l (fu + 1) i0 =
  (bif (decide (i0 < (((Sl.len l) : Nat) : Int))) then (bif (decide ((0 : Int) ≤ i0)) then (bif (decide (i0 < (((Sl.len l) : Nat) : Int))) then (tkOut (env 83 [(.agg (eHouse (Sl.el l (Int.toNat i0))))]) none (fun v5 => (tkBool v5 none fun b6 => (bif b6 then some (.ret (.int .i64 i0))
            else (L109x0 env F l fu (IntKind.wrap .i64 (i0 + (1 : Int)))))))
        (fun p5 => (tkIfc p5 none fun t6 x7 => (bif (flatP (.iface t6 x7)) then some (.pan (.iface t6 x7))
            else none))))
      else none)
    else none)
  else some (.ret (.int .i64 (-(1 : Int))))) := by kernel_rfl

noncomputable def L110x0 (env : Env) (F : Nat) (l : Sl Stt) (fu : Nat) (i0 : Int) : Option Out := atLoop Try.prog (cfg F) env 110 [.r, .l, .r, .d] [] fu { tm := tmL 19 0 [(0, (sl eStt 6 l)), (1, (.fn (.func 85) [] [])), (7, (.int .i64 (((Sl.len l) : Nat) : Int))), (8, (.int .i64 i0))], hp := [] }
theorem t110 (env : Env) (F : Nat) (l : Sl Stt) : (evFun Try.prog (cfg F) env 110 [(sl eStt 6 l), (.fn (.func 85) [] [])]) =
  (L110x0 env F l F (0 : Int)) := by kernel_rfl
theorem L110x0s (env : Env) (F : Nat) (l : Sl Stt) (fu : Nat) (i0 : Int) : L110x0 env F l (fu + 1) i0 =
  (bif (decide (i0 < (((Sl.len l) : Nat) : Int))) then (bif (decide ((0 : Int) ≤ i0)) then (bif (decide (i0 < (((Sl.len l) : Nat) : Int))) then (tkOut (env 85 [(.agg (eStt (Sl.el l (Int.toNat i0))))]) none (fun v5 => (tkBool v5 none fun b6 => (bif b6 then some (.ret (.int .i64 i0))
            else (L110x0 env F l fu (IntKind.wrap .i64 (i0 + (1 : Int)))))))
        (fun p5 => (tkIfc p5 none fun t6 x7 => (bif (flatP (.iface t6 x7)) then some (.pan (.iface t6 x7))
            else none))))
      else none)
    else none)
  else some (.ret (.int .i64 (-(1 : Int))))) := by kernel_rfl

noncomputable def L111x0 (env : Env) (F : Nat) (l : Sl Span) (m : Int) (fu : Nat) (i0 : Int) : Option Out := atLoop Try.prog (cfg F) env 111 [.r, .l, .r, .d] [] fu { tm := tmL 19 0 [(0, (sl eSpan 2 l)), (1, (.fn (.func 89) [] [(.rptr 1 1 (fun u6 => [(.int .i64 m)]) 0 0)])), (7, (.int .i64 (((Sl.len l) : Nat) : Int))), (8, (.int .i64 i0))], hp := [] }
theorem t111 (env : Env) (F : Nat) (l : Sl Span) (m : Int) : (evFun Try.prog (cfg F) env 111 [(sl eSpan 2 l), (.fn (.func 89) [] [(.rptr 1 1 (fun u4 => [(.int .i64 m)]) 0 0)])]) =
  (L111x0 env F l m F (0 : Int)) := by kernel_rfl
theorem L111x0s (env : Env) (F : Nat) (l : Sl Span) (m : Int) (fu : Nat) (i0 : Int) : L111x0 env F l m (fu + 1) i0 =
  (bif (decide (i0 < (((Sl.len l) : Nat) : Int))) then (bif (decide ((0 : Int) ≤ i0)) then (bif (decide (i0 < (((Sl.len l) : Nat) : Int))) then (tkOut (env 89 [(.agg (eSpan (Sl.el l (Int.toNat i0)))), (.rptr 1 1 (fun u6 => [(.int .i64 m)]) 0 0)]) none (fun v6 => (tkBool v6 none fun b7 => (bif b7 then some (.ret (.int .i64 i0))
            else (L111x0 env F l m fu (IntKind.wrap .i64 (i0 + (1 : Int)))))))
        (fun p6 => (tkIfc p6 none fun t7 x8 => (bif (flatP (.iface t7 x8)) then some (.pan (.iface t7 x8))
            else none))))
      else none)
    else none)
  else some (.ret (.int .i64 (-(1 : Int))))) := by kernel_rfl

theorem t43 (env : Env) (F : Nat) (p : Span) (a : Int) (b : Int) : (evFun Try.prog (cfg F) env 43 [(.agg (eSpan p)), (.int .i64 a), (.int .i64 b)]) =
  (bif (decide ((Span.lo p) ≥ a)) then (bif (decide ((Span.lo p) ≤ (Span.hi p))) then some (.ret (.bool (decide ((Span.hi p) ≤ b))))
    else some (.ret (.bool false)))
  else some (.ret (.bool false))) := by kernel_rfl

theorem t55 (env : Env) (F : Nat) (p : Span) (q : Span) : (evFun Try.prog (cfg F) env 55 [(.agg (eSpan p)), (.agg (eSpan q))]) =
  (bif (decide ((Span.lo q) ≥ (Span.lo p))) then some (.ret (.bool (decide ((Span.hi q) ≥ (Span.hi p)))))
  else some (.ret (.bool false))) := by kernel_rfl

theorem t39 (env : Env) (F : Nat) (s : Site) (i : Int) : (evFun Try.prog (cfg F) env 39 [(.agg (eSite s)), (.int .i64 i)]) =
  (tkOut (env 54 [(.int .i64 i), (.int .i64 (0 : Int)), (.int .i64 (IntKind.wrap .i64 ((((Sl.len (Site.cavs s)) : Nat) : Int) - (1 : Int))))]) none (fun v4 => (tkBool v4 none fun b5 => some (.ret (.bool b5))))
  (fun p4 => (tkIfc p4 none fun t5 x6 => (bif (flatP (.iface t5 x6)) then some (.pan (.iface t5 x6))
      else none)))) := by kernel_rfl

theorem t70 (env : Env) (F : Nat) (s : Site) (c : Int) (p : Span) : (evFun Try.prog (cfg F) env 70 [(.agg (eSite s)), (.int .i64 c), (.agg (eSpan p))]) =
  (bif (decide ((0 : Int) ≤ c)) then (bif (decide (c < (((Sl.len (Site.cavs s)) : Nat) : Int))) then some (.ret (.agg [(.int .i64 (IntKind.wrap .i64 ((Cav.rock (Sl.el (Site.cavs s) (Int.toNat c))) - (Span.hi p)))), (.int .i64 (IntKind.wrap .i64 ((Cav.rock (Sl.el (Site.cavs s) (Int.toNat c))) - (Span.lo p))))]))
    else none)
  else none) := by kernel_rfl

theorem t103 (env : Env) (F : Nat) (p : Span) (b : Bool) : (evFun Try.prog (cfg F) env 103 [(.agg (eSpan p)), (.bool b)]) =
  (bif b then some (.ret (.int .i64 (Span.hi p)))
  else some (.ret (.int .i64 (Span.lo p)))) := by kernel_rfl

theorem t66 (env : Env) (F : Nat) (m : Cr.Mark) : (evFun Try.prog (cfg F) env 66 [(.agg (eMark m))]) =
  some (.ret (.bool (Mark.possible m))) := by kernel_rfl

theorem t67 (env : Env) (F : Nat) (m : Cr.Mark) : (evFun Try.prog (cfg F) env 67 [(.agg (eMark m))]) =
  some (.ret (.bool (Mark.certain m))) := by kernel_rfl

theorem t11 (env : Env) (F : Nat) (s : Site) : (evFun Try.prog (cfg F) env 11 [(.agg (eSite s))]) =
  (bif (decide ((((Sl.len (Site.cavs s)) : Nat) : Int) ≤ (10 : Int))) then (bif (decide ((((Sl.len (Site.rows s)) : Nat) : Int) ≤ (12 : Int))) then (bif (decide ((((Sl.len (Site.heats s)) : Nat) : Int) ≤ (12 : Int))) then (bif (decide ((((Sl.len (Site.rings s)) : Nat) : Int) ≤ (12 : Int))) then some (.ret (.bool (decide ((((Sl.len (Site.houses s)) : Nat) : Int) ≤ (10 : Int)))))
        else some (.ret (.bool false)))
      else some (.ret (.bool false)))
    else some (.ret (.bool false)))
  else some (.ret (.bool false))) := by kernel_rfl

end Go.Sim.Cr

/-
  What the evaluator says of these functions (printed by a private program; each row is checked by the kernel).
-/
set_option maxRecDepth 100000
namespace Go.Sim.Cr
open Go.Proofs

theorem t49 (env : Env) (F : Nat) (s : Site) (l : Sl Stt) : (evFun Try.prog (cfg F) env 49 [(.agg (eSite s)), (sl eStt 6 l)]) =
  (bif ((((Sl.len l) : Nat) : Int) == (((Sl.len (Site.cavs s)) : Nat) : Int)) then (tkOut (env 84 [(sl eStt 6 l), (.fn (.func 85) [] [])]) none (fun v4 => (tkBool v4 none fun b5 => some (.ret (.bool (!b5)))))
    (fun p4 => (tkIfc p4 none fun t5 x6 => (bif (flatP (.iface t5 x6)) then some (.pan (.iface t5 x6))
        else none))))
  else some (.ret (.bool false))) := by kernel_rfl

theorem t50 (env : Env) (F : Nat) (s : Site) (d : Day) : (evFun Try.prog (cfg F) env 50 [(.agg (eSite s)), (.agg (eDay d))]) =
  (tkOut (env 87 [(sl eSpan 2 (Day.press d)), (.int .i64 (50000 : Int)), (.rptr 1 (((((1 + 1) + 1) + 1) + 1) + 1) (fun u4 => (eSite s)) 0 0)]) none (fun v4 => (tkBool v4 none fun b5 => (bif b5 then (tkOut (env 87 [(sl eSpan 2 (Day.warm d)), (.int .i64 (10000 : Int)), (.rptr 1 (((((1 + 1) + 1) + 1) + 1) + 1) (fun u6 => (eSite s)) 0 0)]) none (fun v6 => (tkBool v6 none fun b7 => some (.ret (.bool b7))))
        (fun p6 => (tkIfc p6 none fun t7 x8 => (bif (flatP (.iface t7 x8)) then some (.pan (.iface t7 x8))
            else none))))
      else some (.ret (.bool false)))))
  (fun p4 => (tkIfc p4 none fun t5 x6 => (bif (flatP (.iface t5 x6)) then some (.pan (.iface t5 x6))
      else none)))) := by kernel_rfl

noncomputable def L12x0 (env : Env) (F : Nat) (l : Sl Day) (most : Int) (fu : Nat) (i0 : Int) : Option Out := atLoop Try.prog (cfg F) env 12 [.r, .l, .r, .d] [] fu { tm := tmL 42 0 [(0, (sl eDay 2 l)), (1, (.int .i64 most)), (5, (.int .i64 i0))], hp := [] }
theorem t12 (env : Env) (F : Nat) (l : Sl Day) (most : Int) : (evFun Try.prog (cfg F) env 12 [(sl eDay 2 l), (.int .i64 most)]) =
  (L12x0 env F l most F (0 : Int)) := by kernel_rfl
theorem L12x0s (env : Env) (F : Nat) (l : Sl Day) (most : Int) (fu : Nat) (i0 : Int) : L12x0 env F l most (fu + 1) i0 =
  (bif (decide (i0 < (((Sl.len l) : Nat) : Int))) then (bif (decide ((0 : Int) ≤ i0)) then (bif (decide (i0 < (((Sl.len l) : Nat) : Int))) then (bif (decide ((((Sl.len (Day.press (Sl.el l (Int.toNat i0)))) : Nat) : Int) > (10 : Int))) then some (.ret (.bool false))
        else (bif (decide ((0 : Int) ≤ i0)) then (bif (decide (i0 < (((Sl.len l) : Nat) : Int))) then (bif (decide ((((Sl.len (Day.warm (Sl.el l (Int.toNat i0)))) : Nat) : Int) > (10 : Int))) then some (.ret (.bool false))
              else (L12x0 env F l most fu (IntKind.wrap .i64 (i0 + (1 : Int)))))
            else none)
          else none))
      else none)
    else none)
  else (bif (decide ((((Sl.len l) : Nat) : Int) ≤ most)) then some (.ret (.bool true))
    else (bif (decide ((((Sl.len l) : Nat) : Int) > (60 : Int))) then some (.ret (.bool (decide ((((Sl.len l) : Nat) : Int) ≤ (65 : Int)))))
      else some (.ret (.bool false))))) := by kernel_rfl

theorem t14 (env : Env) (F : Nat) (s : Site) (l : Sl Stt) (d : Day) : (evFun Try.prog (cfg F) env 14 [(.agg (eSite s)), (sl eStt 6 l), (.agg (eDay d))]) =
  (tkOut (env 48 [(.agg (eSite s))]) none (fun v5 => (tkBool v5 none fun b6 => (bif (!b6) then some (.ret (.tup [(.row true 0 0 (fun u7 => [])), (.int .i64 (2 : Int))]))
      else (tkOut (env 49 [(.agg (eSite s)), (sl eStt 6 l)]) none (fun v7 => (tkBool v7 none fun b8 => (bif (!b8) then some (.ret (.tup [(.row true 0 0 (fun u9 => [])), (.int .i64 (2 : Int))]))
            else (tkOut (env 50 [(.agg (eSite s)), (.agg [(sl eSpan 2 (Day.press d)), (sl eSpan 2 (Day.warm d))])]) none (fun v9 => (tkBool v9 none fun b10 => (bif (!b10) then some (.ret (.tup [(.row true 0 0 (fun u11 => [])), (.int .i64 (2 : Int))]))
                  else (tkOut (env 51 [(.rptr 1 (((((1 + 1) + 1) + 1) + 1) + 1) (fun u11 => (eSite s)) 0 0), (sl eStt 6 l), (.agg [(sl eSpan 2 (Day.press d)), (sl eSpan 2 (Day.warm d))])]) none (fun v11 => (tkTup v11 none fun l12 => (tkCons l12 none fun v13 r14 => (tkRow v13 none fun nl15 n16 wd17 g18 => (tkCons r14 none fun v19 r20 => (tkBool v19 none fun b21 => (tkNil r20 none (bif (!b21) then some (.ret (.tup [(.row true 0 0 (fun u22 => [])), (.int .i64 (7 : Int))]))
                                  else some (.ret (.tup [(.row nl15 n16 wd17 g18), (.int .i64 (0 : Int))]))))))))))
                    (fun p11 => (tkIfc p11 none fun t12 x13 => (bif (flatP (.iface t12 x13)) then some (.pan (.iface t12 x13))
                        else none)))))))
              (fun p9 => (tkIfc p9 none fun t10 x11 => (bif (flatP (.iface t10 x11)) then some (.pan (.iface t10 x11))
                  else none)))))))
        (fun p7 => (tkIfc p7 none fun t8 x9 => (bif (flatP (.iface t8 x9)) then some (.pan (.iface t8 x9))
            else none)))))))
  (fun p5 => (tkIfc p5 none fun t6 x7 => (bif (flatP (.iface t6 x7)) then some (.pan (.iface t6 x7))
      else none)))) := by kernel_rfl

theorem t15 (env : Env) (F : Nat) (s : Site) (l : Sl Stt) (x : Int) (y : Int) : (evFun Try.prog (cfg F) env 15 [(.agg (eSite s)), (sl eStt 6 l), (.int .i64 x), (.int .i64 y)]) =
  (tkOut (env 48 [(.agg (eSite s))]) none (fun v6 => (tkBool v6 none fun b7 => (bif (!b7) then some (.ret (.tup [(.agg [(.int .i64 (0 : Int)), (.int .i64 (0 : Int))]), (.int .i64 (2 : Int))]))
      else (tkOut (env 49 [(.agg (eSite s)), (sl eStt 6 l)]) none (fun v8 => (tkBool v8 none fun b9 => (bif (!b9) then some (.ret (.tup [(.agg [(.int .i64 (0 : Int)), (.int .i64 (0 : Int))]), (.int .i64 (2 : Int))]))
            else (tkOut (env 52 [(.int .i64 x), (.int .i64 y)]) none (fun v10 => (tkBool v10 none fun b11 => (bif (!b11) then some (.ret (.tup [(.agg [(.int .i64 (0 : Int)), (.int .i64 (0 : Int))]), (.int .i64 (2 : Int))]))
                  else (tkOut (env 53 [(.rptr 1 (((((1 + 1) + 1) + 1) + 1) + 1) (fun u12 => (eSite s)) 0 0), (sl eStt 6 l), (.int .i64 x), (.int .i64 y)]) none (fun v12 => (tkAgg v12 none fun l13 => (tkCons l13 none fun v14 r15 => (tkInt v14 none fun q16 n17 => (tkCons r15 none fun v18 r19 => (tkInt v18 none fun q20 n21 => (tkNil r19 none (some (.ret (.tup [(.agg [(.int q16 n17), (.int q20 n21)]), (.int .i64 (0 : Int))]))))))))))
                    (fun p12 => (tkIfc p12 none fun t13 x14 => (bif (flatP (.iface t13 x14)) then some (.pan (.iface t13 x14))
                        else none)))))))
              (fun p10 => (tkIfc p10 none fun t11 x12 => (bif (flatP (.iface t11 x12)) then some (.pan (.iface t11 x12))
                  else none)))))))
        (fun p8 => (tkIfc p8 none fun t9 x10 => (bif (flatP (.iface t9 x10)) then some (.pan (.iface t9 x10))
            else none)))))))
  (fun p6 => (tkIfc p6 none fun t7 x8 => (bif (flatP (.iface t7 x8)) then some (.pan (.iface t7 x8))
      else none)))) := by kernel_rfl

noncomputable def L17x0 (env : Env) (F : Nat) (s : Site) (l : Sl Stt) (fu : Nat) (i0 : Int) : Option Out := atLoop Try.prog (cfg F) env 17 [.r, .l, .r, .d] [] fu { tm := tmL 43 0 [(1, (sl eStt 6 l)), (2, (.optr 0 0 0)), (5, (.int .i64 i0))], hp := [(.box 28 (eSite s) true)] }
theorem t17 (env : Env) (F : Nat) (s : Site) (l : Sl Stt) : (evFun Try.prog (cfg F) env 17 [(.agg (eSite s)), (sl eStt 6 l)]) =
  (L17x0 env F s l F (0 : Int)) := by kernel_rfl
theorem L17x0s (env : Env) (F : Nat) (s : Site) (l : Sl Stt) (fu : Nat) (i0 : Int) : L17x0 env F s l (fu + 1) i0 =
  (bif (decide (i0 < (((Sl.len l) : Nat) : Int))) then (bif (decide ((0 : Int) ≤ i0)) then (bif (decide (i0 < (((Sl.len l) : Nat) : Int))) then (tkOut (env 43 [(.agg (eSpan (Stt.rad (Sl.el l (Int.toNat i0))))), (.int .i64 (0 : Int)), (.int .i64 (400000 : Int))]) none (fun v6 => (tkBool v6 none fun b7 => (bif (!b7) then some (.ret (.bool false))
            else (bif (decide ((0 : Int) ≤ i0)) then (bif (decide (i0 < (((Sl.len l) : Nat) : Int))) then (tkOut (env 43 [(.agg (eSpan (Stt.vol (Sl.el l (Int.toNat i0))))), (.int .i64 (0 : Int)), (.int .i64 (10000000 : Int))]) none (fun v8 => (tkBool v8 none fun b9 => (bif (!b9) then some (.ret (.bool false))
                      else (bif (decide ((0 : Int) ≤ i0)) then (bif (decide (i0 < (((Sl.len l) : Nat) : Int))) then (tkOut (env 43 [(.agg (eSpan (Stt.lost (Sl.el l (Int.toNat i0))))), (.int .i64 (0 : Int)), (.int .i64 (1000000000 : Int))]) none (fun v10 => (tkBool v10 none fun b11 => (bif (!b11) then some (.ret (.bool false))
                                else (L17x0 env F s l fu (IntKind.wrap .i64 (i0 + (1 : Int)))))))
                            (fun p10 => (tkIfc p10 none fun t11 x12 => (bif (flatP (.iface t11 x12)) then some (.pan (.iface t11 x12))
                                else none))))
                          else none)
                        else none))))
                  (fun p8 => (tkIfc p8 none fun t9 x10 => (bif (flatP (.iface t9 x10)) then some (.pan (.iface t9 x10))
                      else none))))
                else none)
              else none))))
        (fun p6 => (tkIfc p6 none fun t7 x8 => (bif (flatP (.iface t7 x8)) then some (.pan (.iface t7 x8))
            else none))))
      else none)
    else none)
  else some (.ret (.bool ((((Sl.len l) : Nat) : Int) == (((Sl.len (Site.cavs s)) : Nat) : Int))))) := by kernel_rfl

noncomputable def L20x0 (env : Env) (F : Nat) (s : Site) (d : Day) (fu : Nat) (i0 : Int) : Option Out := atLoop Try.prog (cfg F) env 20 [.r, .r, .l, .r, .d] [] fu { tm := tmL 45 0 [(2, (.optr 0 0 0)), (3, (.optr 1 0 0)), (5, (.int .i64 i0))], hp := [(.box 28 (eSite s) true), (.box 32 [(sl eSpan 2 (Day.press d)), (sl eSpan 2 (Day.warm d))] true)] }
theorem t20 (env : Env) (F : Nat) (s : Site) (d : Day) : (evFun Try.prog (cfg F) env 20 [(.agg (eSite s)), (.agg (eDay d))]) =
  (bif ((((Sl.len (Day.press d)) : Nat) : Int) != (((Sl.len (Site.cavs s)) : Nat) : Int)) then some (.ret (.bool false))
  else (bif ((((Sl.len (Day.warm d)) : Nat) : Int) != (((Sl.len (Site.cavs s)) : Nat) : Int)) then some (.ret (.bool false))
    else (L20x0 env F s d F (0 : Int)))) := by kernel_rfl
theorem L20x0s (env : Env) (F : Nat) (s : Site) (d : Day) (fu : Nat) (i0 : Int) : L20x0 env F s d (fu + 1) i0 =
  (bif (decide (i0 < (((Sl.len (Site.cavs s)) : Nat) : Int))) then (bif (decide ((0 : Int) ≤ i0)) then (bif (decide (i0 < (((Sl.len (Day.press d)) : Nat) : Int))) then (tkOut (env 43 [(.agg (eSpan (Sl.el (Day.press d) (Int.toNat i0)))), (.int .i64 (0 : Int)), (.int .i64 (50000 : Int))]) none (fun v6 => (tkBool v6 none fun b7 => (bif (!b7) then some (.ret (.bool false))
            else (bif (decide ((0 : Int) ≤ i0)) then (bif (decide (i0 < (((Sl.len (Day.warm d)) : Nat) : Int))) then (tkOut (env 43 [(.agg (eSpan (Sl.el (Day.warm d) (Int.toNat i0)))), (.int .i64 (0 : Int)), (.int .i64 (10000 : Int))]) none (fun v8 => (tkBool v8 none fun b9 => (bif (!b9) then some (.ret (.bool false))
                      else (L20x0 env F s d fu (IntKind.wrap .i64 (i0 + (1 : Int)))))))
                  (fun p8 => (tkIfc p8 none fun t9 x10 => (bif (flatP (.iface t9 x10)) then some (.pan (.iface t9 x10))
                      else none))))
                else none)
              else none))))
        (fun p6 => (tkIfc p6 none fun t7 x8 => (bif (flatP (.iface t7 x8)) then some (.pan (.iface t7 x8))
            else none))))
      else none)
    else none)
  else some (.ret (.bool true))) := by kernel_rfl

noncomputable def L57x0 (env : Env) (F : Nat) (s : Site) (fu : Nat) : Option Out := atLoop Try.prog (cfg F) env 57 [.r, .r, .l, .r, .d] [] fu { tm := tmL 26 0 [(3, (.row true 0 0 (fun u4 => []))), (10, (sl eCav 11 (Site.cavs s))), (11, (.int .i64 (((Sl.len (Site.cavs s)) : Nat) : Int))), (12, (.int .i64 (0 : Int)))], hp := [] }
noncomputable def L57x1 (env : Env) (F : Nat) (s : Site) (fu : Nat) (k0 : Nat) (i1 : Int) (k2 : Nat) (g3 : Nat → List V) : Option Out := atLoop Try.prog (cfg F) env 57 [.r, .r, .l, .r, .d] [] fu { tm := tmL 26 0 [(3, (.osl 0 0 k0)), (10, (sl eCav 11 (Site.cavs s))), (11, (.int .i64 (((Sl.len (Site.cavs s)) : Nat) : Int))), (12, (.int .i64 i1))], hp := [(.arr 65 6 k2 g3 true)] }
theorem t57 (env : Env) (F : Nat) (s : Site) : (evFun Try.prog (cfg F) env 57 [(pSite s)]) =
  (L57x0 env F s F) := by kernel_rfl
theorem L57x0s (env : Env) (F : Nat) (s : Site) (fu : Nat) : L57x0 env F s (fu + 1) =
  (bif (decide ((0 : Int) < (((Sl.len (Site.cavs s)) : Nat) : Int))) then (bif (decide ((0 : Int) < (((Sl.len (Site.cavs s)) : Nat) : Int))) then (L57x1 env F s fu 1 (IntKind.wrap .i64 ((0 : Int) + (1 : Int))) 1 (fun u4 => [(.int .i64 (Span.lo (Cav.rad (Sl.el (Site.cavs s) 0)))), (.int .i64 (Span.hi (Cav.rad (Sl.el (Site.cavs s) 0)))), (.int .i64 (Span.lo (Cav.vol (Sl.el (Site.cavs s) 0)))), (.int .i64 (Span.hi (Cav.vol (Sl.el (Site.cavs s) 0)))), (.int .i64 (0 : Int)), (.int .i64 (0 : Int))]))
    else none)
  else some (.ret (.row true 0 0 (fun u4 => [])))) := by kernel_rfl
theorem L57x1s (env : Env) (F : Nat) (s : Site) (fu : Nat) (k0 : Nat) (i1 : Int) (k2 : Nat) (g3 : Nat → List V) : L57x1 env F s (fu + 1) k0 i1 k2 g3 =
  (bif (decide (i1 < (((Sl.len (Site.cavs s)) : Nat) : Int))) then (bif (decide ((0 : Int) ≤ i1)) then (bif (decide (i1 < (((Sl.len (Site.cavs s)) : Nat) : Int))) then (bif (decide (((k0 + 1) * 48) ≤ 140737488355328)) then (L57x1 env F s fu (k0 + 1) (IntKind.wrap .i64 (i1 + (1 : Int))) (k0 + 1) (appGet k0 g3 (fun u8 => [(.int .i64 (Span.lo (Cav.rad (Sl.el (Site.cavs s) (Int.toNat i1))))), (.int .i64 (Span.hi (Cav.rad (Sl.el (Site.cavs s) (Int.toNat i1))))), (.int .i64 (Span.lo (Cav.vol (Sl.el (Site.cavs s) (Int.toNat i1))))), (.int .i64 (Span.hi (Cav.vol (Sl.el (Site.cavs s) (Int.toNat i1))))), (.int .i64 (0 : Int)), (.int .i64 (0 : Int))])))
        else none)
      else none)
    else none)
  else some (.ret (.row false k0 6 (fun u8 => (g3 u8))))) := by kernel_rfl

noncomputable def L29x0 (env : Env) (F : Nat) (s : Site) (c : Int) (x : Int) (y : Int) (fu : Nat) (i0 : Int) : Option Out := atLoop Try.prog (cfg F) env 29 [.r, .r, .l, .r, .d] [] fu { tm := tmL 61 0 [(4, (.optr 0 0 0)), (8, (.optr 1 0 0)), (10, (.int .i64 (IntKind.wrap .i64 ((Cav.x (Sl.el (Site.cavs s) (Int.toNat c))) - x)))), (11, (.int .i64 (IntKind.wrap .i64 ((Cav.y (Sl.el (Site.cavs s) (Int.toNat c))) - y)))), (12, (.int .i64 i0))], hp := [(.box 28 (eSite s) true), (.box 41 [(.int .i64 (0 : Int)), (.int .i64 (0 : Int))] true)] }
theorem t29 (env : Env) (F : Nat) (s : Site) (c : Int) (x : Int) (y : Int) : (evFun Try.prog (cfg F) env 29 [(.agg (eSite s)), (.int .i64 c), (.int .i64 x), (.int .i64 y)]) =
  (bif (decide ((0 : Int) ≤ c)) then (bif (decide (c < (((Sl.len (Site.cavs s)) : Nat) : Int))) then (bif (decide ((0 : Int) ≤ c)) then (bif (decide (c < (((Sl.len (Site.cavs s)) : Nat) : Int))) then (L29x0 env F s c x y F (0 : Int))
        else none)
      else none)
    else none)
  else none) := by kernel_rfl
theorem L29x0s (env : Env) (F : Nat) (s : Site) (c : Int) (x : Int) (y : Int) (fu : Nat) (i0 : Int) : L29x0 env F s c x y (fu + 1) i0 =
  (bif (decide (i0 < (((Sl.len (Site.rings s)) : Nat) : Int))) then (bif (decide ((0 : Int) ≤ i0)) then (bif (decide (i0 < (((Sl.len (Site.rings s)) : Nat) : Int))) then (bif (decide ((IntKind.wrap .i64 ((Ring.away (Sl.el (Site.rings s) (Int.toNat i0))) * (Ring.away (Sl.el (Site.rings s) (Int.toNat i0))))) ≥ (IntKind.wrap .i64 ((IntKind.wrap .i64 ((IntKind.wrap .i64 ((Cav.x (Sl.el (Site.cavs s) (Int.toNat c))) - x)) * (IntKind.wrap .i64 ((Cav.x (Sl.el (Site.cavs s) (Int.toNat c))) - x)))) + (IntKind.wrap .i64 ((IntKind.wrap .i64 ((Cav.y (Sl.el (Site.cavs s) (Int.toNat c))) - y)) * (IntKind.wrap .i64 ((Cav.y (Sl.el (Site.cavs s) (Int.toNat c))) - y)))))))) then (bif (decide ((0 : Int) ≤ i0)) then (bif (decide (i0 < (((Sl.len (Site.rings s)) : Nat) : Int))) then some (.ret (.tup [(.agg (eSpan (Ring.share (Sl.el (Site.rings s) (Int.toNat i0))))), (.bool true)]))
            else none)
          else none)
        else (L29x0 env F s c x y fu (IntKind.wrap .i64 (i0 + (1 : Int)))))
      else none)
    else none)
  else some (.ret (.tup [(.agg [(.int .i64 (0 : Int)), (.int .i64 (0 : Int))]), (.bool false)]))) := by kernel_rfl

noncomputable def L53x0 (env : Env) (F : Nat) (s : Site) (l : Sl Stt) (x : Int) (y : Int) (fu : Nat) (i0 : Int) (i1 : Int) (i2 : Int) : Option Out := atLoop Try.prog (cfg F) env 53 [.r, .r, .l, .r, .d] [] fu { tm := tmL 57 0 [(0, (pSite s)), (2, (.int .i64 x)), (3, (.int .i64 y)), (8, (.optr 0 0 0)), (9, (.optr 1 0 0)), (13, (sl eStt 6 l)), (14, (.int .i64 (((Sl.len l) : Nat) : Int))), (15, (.int .i64 i0))], hp := [(.box 41 [(.int .i64 (0 : Int)), (.int .i64 (0 : Int))] true), (.box 41 [(.int .i64 i1), (.int .i64 i2)] true)] }
theorem t53 (env : Env) (F : Nat) (s : Site) (l : Sl Stt) (x : Int) (y : Int) : (evFun Try.prog (cfg F) env 53 [(pSite s), (sl eStt 6 l), (.int .i64 x), (.int .i64 y)]) =
  (L53x0 env F s l x y F (0 : Int) (0 : Int) (0 : Int)) := by kernel_rfl
theorem L53x0s (env : Env) (F : Nat) (s : Site) (l : Sl Stt) (x : Int) (y : Int) (fu : Nat) (i0 : Int) (i1 : Int) (i2 : Int) : L53x0 env F s l x y (fu + 1) i0 i1 i2 =
  (bif (decide (i0 < (((Sl.len l) : Nat) : Int))) then (bif (decide ((0 : Int) ≤ i0)) then (bif (decide (i0 < (((Sl.len l) : Nat) : Int))) then (bif (decide ((0 : Int) ≤ i0)) then (bif (decide (i0 < (((Sl.len (Site.cavs s)) : Nat) : Int))) then (tkOut (env 92 [(pSite s), (.agg (eCav (Sl.el (Site.cavs s) (Int.toNat i0)))), (.int .i64 x), (.int .i64 y)]) none (fun v10 => (tkAgg v10 none fun l11 => (tkCons l11 none fun v12 r13 => (tkInt v12 none fun q14 n15 => (tkCons r13 none fun v16 r17 => (tkInt v16 none fun q18 n19 => (tkNil r17 none (bif (decide (.i64 = q14)) then (bif (decide (.i64 = q18)) then (L53x0 env F s l x y fu (IntKind.wrap .i64 (i0 + (1 : Int))) (IntKind.wrap .i64 (i1 + (IntKind.wrap .i64 (Int.tdiv (IntKind.wrap .i64 ((Span.lo (Stt.lost (Sl.el l (Int.toNat i0)))) * n15)) (1000000 : Int))))) (IntKind.wrap .i64 (i2 + (IntKind.wrap .i64 (Int.tdiv (IntKind.wrap .i64 ((IntKind.wrap .i64 ((Span.hi (Stt.lost (Sl.el l (Int.toNat i0)))) * n19)) + (999999 : Int))) (1000000 : Int))))))
                            else none)
                          else none))))))))
            (fun p10 => (tkIfc p10 none fun t11 x12 => (bif (flatP (.iface t11 x12)) then some (.pan (.iface t11 x12))
                else none))))
          else none)
        else none)
      else none)
    else none)
  else some (.ret (.agg [(.int .i64 i1), (.int .i64 i2)]))) := by kernel_rfl

noncomputable def L92x0 (env : Env) (F : Nat) (s : Site) (c : Cav) (x : Int) (y : Int) (fu : Nat) (i0 : Int) : Option Out := atLoop Try.prog (cfg F) env 92 [.r, .r, .l, .r, .d] [] fu { tm := tmL 48 0 [(8, (.optr 0 0 0)), (9, (.int .i64 (IntKind.wrap .i64 ((Cav.x c) - x)))), (10, (.int .i64 (IntKind.wrap .i64 ((Cav.y c) - y)))), (25, (sl eRing 3 (Site.rings s))), (26, (.int .i64 (((Sl.len (Site.rings s)) : Nat) : Int))), (27, (.int .i64 i0))], hp := [(.box 41 [(.int .i64 (0 : Int)), (.int .i64 (0 : Int))] true)] }
theorem t92 (env : Env) (F : Nat) (s : Site) (c : Cav) (x : Int) (y : Int) : (evFun Try.prog (cfg F) env 92 [(pSite s), (.agg (eCav c)), (.int .i64 x), (.int .i64 y)]) =
  (L92x0 env F s c x y F (0 : Int)) := by kernel_rfl
theorem L92x0s (env : Env) (F : Nat) (s : Site) (c : Cav) (x : Int) (y : Int) (fu : Nat) (i0 : Int) : L92x0 env F s c x y (fu + 1) i0 =
  (bif (decide (i0 < (((Sl.len (Site.rings s)) : Nat) : Int))) then (bif (decide ((0 : Int) ≤ i0)) then (bif (decide (i0 < (((Sl.len (Site.rings s)) : Nat) : Int))) then (bif (decide ((IntKind.wrap .i64 ((Ring.away (Sl.el (Site.rings s) (Int.toNat i0))) * (Ring.away (Sl.el (Site.rings s) (Int.toNat i0))))) ≥ (IntKind.wrap .i64 ((IntKind.wrap .i64 ((IntKind.wrap .i64 ((Cav.x c) - x)) * (IntKind.wrap .i64 ((Cav.x c) - x)))) + (IntKind.wrap .i64 ((IntKind.wrap .i64 ((Cav.y c) - y)) * (IntKind.wrap .i64 ((Cav.y c) - y)))))))) then some (.ret (.agg (eSpan (Ring.share (Sl.el (Site.rings s) (Int.toNat i0))))))
        else (L92x0 env F s c x y fu (IntKind.wrap .i64 (i0 + (1 : Int)))))
      else none)
    else none)
  else some (.ret (.agg [(.int .i64 (0 : Int)), (.int .i64 (0 : Int))]))) := by kernel_rfl

theorem t58 (env : Env) (F : Nat) (s : Site) (p : Span) : (evFun Try.prog (cfg F) env 58 [(.agg (eSite s)), (.agg (eSpan p))]) =
  (tkOut (env 93 [(.agg (eSite s)), (.int .i64 (Span.lo p))]) none (fun v4 => (tkAgg v4 none fun l5 => (tkCons l5 none fun v6 r7 => (tkInt v6 none fun q8 n9 => (tkCons r7 none fun v10 r11 => (tkInt v10 none fun q12 n13 => (tkCons r11 none fun v14 r15 => (tkInt v14 none fun q16 n17 => (tkCons r15 none fun v18 r19 => (tkInt v18 none fun q20 n21 => (tkCons r19 none fun v22 r23 => (tkInt v22 none fun q24 n25 => (tkNil r23 none (tkOut (env 94 [(.agg (eSite s)), (.int .i64 (Span.hi p))]) none (fun v26 => (tkAgg v26 none fun l27 => (tkCons l27 none fun v28 r29 => (tkInt v28 none fun q30 n31 => (tkCons r29 none fun v32 r33 => (tkInt v32 none fun q34 n35 => (tkCons r33 none fun v36 r37 => (tkInt v36 none fun q38 n39 => (tkCons r37 none fun v40 r41 => (tkInt v40 none fun q42 n43 => (tkCons r41 none fun v44 r45 => (tkInt v44 none fun q46 n47 => (tkNil r45 none (some (.ret (.agg [(.int q12 n13), (.int q38 n39)]))))))))))))))))
                            (fun p26 => (tkIfc p26 none fun t27 x28 => (bif (flatP (.iface t27 x28)) then some (.pan (.iface t27 x28))
                                else none)))))))))))))))))
  (fun p4 => (tkIfc p4 none fun t5 x6 => (bif (flatP (.iface t5 x6)) then none
      else none)))) := by kernel_rfl

theorem t60 (env : Env) (F : Nat) (s : Site) (p : Span) : (evFun Try.prog (cfg F) env 60 [(.agg (eSite s)), (.agg (eSpan p))]) =
  (tkOut (env 93 [(.agg (eSite s)), (.int .i64 (Span.lo p))]) none (fun v4 => (tkAgg v4 none fun l5 => (tkCons l5 none fun v6 r7 => (tkInt v6 none fun q8 n9 => (tkCons r7 none fun v10 r11 => (tkInt v10 none fun q12 n13 => (tkCons r11 none fun v14 r15 => (tkInt v14 none fun q16 n17 => (tkCons r15 none fun v18 r19 => (tkInt v18 none fun q20 n21 => (tkCons r19 none fun v22 r23 => (tkInt v22 none fun q24 n25 => (tkNil r23 none (tkOut (env 94 [(.agg (eSite s)), (.int .i64 (Span.hi p))]) none (fun v26 => (tkAgg v26 none fun l27 => (tkCons l27 none fun v28 r29 => (tkInt v28 none fun q30 n31 => (tkCons r29 none fun v32 r33 => (tkInt v32 none fun q34 n35 => (tkCons r33 none fun v36 r37 => (tkInt v36 none fun q38 n39 => (tkCons r37 none fun v40 r41 => (tkInt v40 none fun q42 n43 => (tkCons r41 none fun v44 r45 => (tkInt v44 none fun q46 n47 => (tkNil r45 none (some (.ret (.agg [(.int q20 n21), (.int q46 n47)]))))))))))))))))
                            (fun p26 => (tkIfc p26 none fun t27 x28 => (bif (flatP (.iface t27 x28)) then some (.pan (.iface t27 x28))
                                else none)))))))))))))))))
  (fun p4 => (tkIfc p4 none fun t5 x6 => (bif (flatP (.iface t5 x6)) then none
      else none)))) := by kernel_rfl

noncomputable def L93x0 (env : Env) (F : Nat) (s : Site) (x : Int) (fu : Nat) (i0 : Int) : Option Out := atLoop Try.prog (cfg F) env 93 [.r, .r, .l, .d] [] fu { tm := tmL 25 0 [(1, (.int .i64 x)), (2, (.optr 0 0 0)), (4, (.optr 1 0 0)), (5, (.int .i64 i0))], hp := [(.box 28 (eSite s) true), (.box 105 [(.int .i64 (0 : Int)), (.int .i64 (0 : Int)), (.int .i64 (0 : Int)), (.int .i64 (0 : Int)), (.int .i64 (0 : Int))] true)] }
theorem t93 (env : Env) (F : Nat) (s : Site) (x : Int) : (evFun Try.prog (cfg F) env 93 [(.agg (eSite s)), (.int .i64 x)]) =
  (L93x0 env F s x F (IntKind.wrap .i64 ((((Sl.len (Site.rows s)) : Nat) : Int) - (1 : Int)))) := by kernel_rfl
theorem L93x0s (env : Env) (F : Nat) (s : Site) (x : Int) (fu : Nat) (i0 : Int) : L93x0 env F s x (fu + 1) i0 =
  (bif (decide ((0 : Int) ≤ i0)) then (bif (decide (i0 < (((Sl.len (Site.rows s)) : Nat) : Int))) then (bif (decide ((Row.deficit (Sl.el (Site.rows s) (Int.toNat i0))) > x)) then (L93x0 env F s x fu (IntKind.wrap .i64 (i0 - (1 : Int))))
      else (bif (decide ((0 : Int) ≤ i0)) then (bif (decide (i0 < (((Sl.len (Site.rows s)) : Nat) : Int))) then some (.ret (.agg (eRow (Sl.el (Site.rows s) (Int.toNat i0)))))
          else none)
        else none))
    else none)
  else none) := by kernel_rfl

noncomputable def L94x0 (env : Env) (F : Nat) (s : Site) (x : Int) (fu : Nat) (i0 : Int) : Option Out := atLoop Try.prog (cfg F) env 94 [.r, .r, .l, .d] [] fu { tm := tmL 21 0 [(1, (.int .i64 x)), (2, (.optr 0 0 0)), (4, (.optr 1 0 0)), (5, (.int .i64 i0))], hp := [(.box 28 (eSite s) true), (.box 105 [(.int .i64 (0 : Int)), (.int .i64 (0 : Int)), (.int .i64 (0 : Int)), (.int .i64 (0 : Int)), (.int .i64 (0 : Int))] true)] }
theorem t94 (env : Env) (F : Nat) (s : Site) (x : Int) : (evFun Try.prog (cfg F) env 94 [(.agg (eSite s)), (.int .i64 x)]) =
  (L94x0 env F s x F (0 : Int)) := by kernel_rfl
theorem L94x0s (env : Env) (F : Nat) (s : Site) (x : Int) (fu : Nat) (i0 : Int) : L94x0 env F s x (fu + 1) i0 =
  (bif (decide ((0 : Int) ≤ i0)) then (bif (decide (i0 < (((Sl.len (Site.rows s)) : Nat) : Int))) then (bif (decide ((Row.deficit (Sl.el (Site.rows s) (Int.toNat i0))) < x)) then (L94x0 env F s x fu (IntKind.wrap .i64 (i0 + (1 : Int))))
      else (bif (decide ((0 : Int) ≤ i0)) then (bif (decide (i0 < (((Sl.len (Site.rows s)) : Nat) : Int))) then some (.ret (.agg (eRow (Sl.el (Site.rows s) (Int.toNat i0)))))
          else none)
        else none))
    else none)
  else none) := by kernel_rfl

noncomputable def L59x0 (env : Env) (F : Nat) (s : Site) (p : Span) (fu : Nat) (i0 : Int) : Option Out := atLoop Try.prog (cfg F) env 59 [.r, .r, .l, .d] [] fu { tm := tmL 48 0 [(2, (.optr 0 0 0)), (3, (.optr 1 0 0)), (4, (.optr 2 0 0)), (5, (.int .i64 i0))], hp := [(.box 28 (eSite s) true), (.box 41 (eSpan p) true), (.box 41 [(.int .i64 (0 : Int)), (.int .i64 (0 : Int))] true)] }
noncomputable def L59x1 (env : Env) (F : Nat) (s : Site) (p : Span) (fu : Nat) (i0 : Int) (i1 : Int) : Option Out := atLoop Try.prog (cfg F) env 59 [.r, .r, .r, .r, .l, .d] [] fu { tm := tmL 48 0 [(2, (.optr 0 0 0)), (3, (.optr 1 0 0)), (4, (.optr 2 0 0)), (5, (.int .i64 i0)), (6, (.int .i64 i1))], hp := [(.box 28 (eSite s) true), (.box 41 (eSpan p) true), (.box 41 [(.int .i64 (0 : Int)), (.int .i64 (0 : Int))] true)] }
theorem t59 (env : Env) (F : Nat) (s : Site) (p : Span) : (evFun Try.prog (cfg F) env 59 [(.agg (eSite s)), (.agg (eSpan p))]) =
  (L59x0 env F s p F (IntKind.wrap .i64 ((((Sl.len (Site.heats s)) : Nat) : Int) - (1 : Int)))) := by kernel_rfl
theorem L59x0s (env : Env) (F : Nat) (s : Site) (p : Span) (fu : Nat) (i0 : Int) : L59x0 env F s p (fu + 1) i0 =
  (bif (decide ((0 : Int) ≤ i0)) then (bif (decide (i0 < (((Sl.len (Site.heats s)) : Nat) : Int))) then (bif (decide ((Heat.warmth (Sl.el (Site.heats s) (Int.toNat i0))) > (Span.lo p))) then (L59x0 env F s p fu (IntKind.wrap .i64 (i0 - (1 : Int))))
      else (L59x1 env F s p F i0 (0 : Int)))
    else none)
  else none) := by kernel_rfl
theorem L59x1s (env : Env) (F : Nat) (s : Site) (p : Span) (fu : Nat) (i0 : Int) (i1 : Int) : L59x1 env F s p (fu + 1) i0 i1 =
  (bif (decide ((0 : Int) ≤ i1)) then (bif (decide (i1 < (((Sl.len (Site.heats s)) : Nat) : Int))) then (bif (decide ((Heat.warmth (Sl.el (Site.heats s) (Int.toNat i1))) < (Span.hi p))) then (L59x1 env F s p fu i0 (IntKind.wrap .i64 (i1 + (1 : Int))))
      else (bif (decide ((0 : Int) ≤ i0)) then (bif (decide (i0 < (((Sl.len (Site.heats s)) : Nat) : Int))) then (bif (decide ((0 : Int) ≤ i1)) then (bif (decide (i1 < (((Sl.len (Site.heats s)) : Nat) : Int))) then some (.ret (.agg [(.int .i64 (Span.lo (Heat.factor (Sl.el (Site.heats s) (Int.toNat i0))))), (.int .i64 (Span.hi (Heat.factor (Sl.el (Site.heats s) (Int.toNat i1)))))]))
              else none)
            else none)
          else none)
        else none))
    else none)
  else none) := by kernel_rfl

theorem t32 (env : Env) (F : Nat) (s : Site) (c : Int) (p : Span) (q : Span) : (evFun Try.prog (cfg F) env 32 [(.agg (eSite s)), (.int .i64 c), (.agg (eSpan p)), (.agg (eSpan q))]) =
  (tkOut (env 70 [(.agg (eSite s)), (.int .i64 c), (.agg (eSpan p))]) none (fun v6 => (tkAgg v6 none fun l7 => (tkCons l7 none fun v8 r9 => (tkInt v8 none fun q10 n11 => (tkCons r9 none fun v12 r13 => (tkInt v12 none fun q14 n15 => (tkNil r13 none (bif (decide (q10 = .i64)) then (bif (decide (n11 < (0 : Int))) then some (.ret (.bool true))
                  else (bif (decide ((0 : Int) ≤ (IntKind.wrap .i64 ((((Sl.len (Site.rows s)) : Nat) : Int) - (1 : Int))))) then (bif (decide ((IntKind.wrap .i64 ((((Sl.len (Site.rows s)) : Nat) : Int) - (1 : Int))) < (((Sl.len (Site.rows s)) : Nat) : Int))) then (bif (decide (q14 = .i64)) then (bif (decide (n15 > (Row.deficit (Sl.el (Site.rows s) (Int.toNat (IntKind.wrap .i64 ((((Sl.len (Site.rows s)) : Nat) : Int) - (1 : Int)))))))) then some (.ret (.bool true))
                          else (bif (decide ((0 : Int) < (((Sl.len (Site.heats s)) : Nat) : Int))) then (bif (decide ((Span.lo q) < (Heat.warmth (Sl.el (Site.heats s) 0)))) then some (.ret (.bool true))
                              else (bif (decide ((0 : Int) ≤ (IntKind.wrap .i64 ((((Sl.len (Site.heats s)) : Nat) : Int) - (1 : Int))))) then (bif (decide ((IntKind.wrap .i64 ((((Sl.len (Site.heats s)) : Nat) : Int) - (1 : Int))) < (((Sl.len (Site.heats s)) : Nat) : Int))) then some (.ret (.bool (decide ((Span.hi q) > (Heat.warmth (Sl.el (Site.heats s) (Int.toNat (IntKind.wrap .i64 ((((Sl.len (Site.heats s)) : Nat) : Int) - (1 : Int))))))))))
                                  else none)
                                else none))
                            else none))
                        else none)
                      else none)
                    else none))
                else none))))))))
  (fun p6 => (tkIfc p6 none fun t7 x8 => (bif (flatP (.iface t7 x8)) then some (.pan (.iface t7 x8))
      else none)))) := by kernel_rfl

noncomputable def L19x0 (env : Env) (F : Nat) (s : Site) (l : Sl Stt) (x : Int) (y : Int) (fu : Nat) (i0 : Int) (i1 : Int) (i2 : Int) : Option Out := atLoop Try.prog (cfg F) env 19 [.r, .r, .l, .r, .d] [] fu { tm := tmL 58 0 [(1, (sl eStt 6 l)), (2, (.int .i64 x)), (3, (.int .i64 y)), (4, (.optr 0 0 0)), (8, (.optr 1 0 0)), (9, (.optr 2 0 0)), (10, (.int .i64 i0))], hp := [(.box 28 (eSite s) true), (.box 41 [(.int .i64 (0 : Int)), (.int .i64 (0 : Int))] true), (.box 41 [(.int .i64 i1), (.int .i64 i2)] true)] }
theorem t19 (env : Env) (F : Nat) (s : Site) (l : Sl Stt) (x : Int) (y : Int) : (evFun Try.prog (cfg F) env 19 [(.agg (eSite s)), (sl eStt 6 l), (.int .i64 x), (.int .i64 y)]) =
  (L19x0 env F s l x y F (0 : Int) (0 : Int) (0 : Int)) := by kernel_rfl
theorem L19x0s (env : Env) (F : Nat) (s : Site) (l : Sl Stt) (x : Int) (y : Int) (fu : Nat) (i0 : Int) (i1 : Int) (i2 : Int) : L19x0 env F s l x y (fu + 1) i0 i1 i2 =
  (bif (decide (i0 < (((Sl.len l) : Nat) : Int))) then (tkOut (env 29 [(.agg (eSite s)), (.int .i64 i0), (.int .i64 x), (.int .i64 y)]) none (fun v10 => (tkTup v10 none fun l11 => (tkCons l11 none fun v12 r13 => (tkAgg v12 none fun l14 => (tkCons l14 none fun v15 r16 => (tkInt v15 none fun q17 n18 => (tkCons r16 none fun v19 r20 => (tkInt v19 none fun q21 n22 => (tkNil r20 none (tkCons r13 none fun v23 r24 => (tkBool v23 none fun b25 => (tkNil r24 none (bif b25 then (bif (decide ((0 : Int) ≤ i0)) then (bif (decide (i0 < (((Sl.len l) : Nat) : Int))) then (bif (decide (.i64 = q17)) then (bif (decide ((0 : Int) ≤ i0)) then (bif (decide (i0 < (((Sl.len l) : Nat) : Int))) then (bif (decide (.i64 = q21)) then (L19x0 env F s l x y fu (IntKind.wrap .i64 (i0 + (1 : Int))) (IntKind.wrap .i64 (i1 + (IntKind.wrap .i64 (Int.tdiv (IntKind.wrap .i64 ((Span.lo (Stt.lost (Sl.el l (Int.toNat i0)))) * n18)) (1000000 : Int))))) (IntKind.wrap .i64 (i2 + (IntKind.wrap .i64 (Int.tdiv (IntKind.wrap .i64 ((IntKind.wrap .i64 ((Span.hi (Stt.lost (Sl.el l (Int.toNat i0)))) * n22)) + (999999 : Int))) (1000000 : Int))))))
                                        else none)
                                      else none)
                                    else none)
                                  else none)
                                else none)
                              else none)
                            else (L19x0 env F s l x y fu (IntKind.wrap .i64 (i0 + (1 : Int))) i1 i2))))))))))))))
    (fun p10 => (tkIfc p10 none fun t11 x12 => (bif (flatP (.iface t11 x12)) then some (.pan (.iface t11 x12))
        else none))))
  else some (.ret (.agg [(.int .i64 i1), (.int .i64 i2)]))) := by kernel_rfl

theorem t36 (env : Env) (F : Nat) (s : Site) : (evFun Try.prog (cfg F) env 36 [(.agg (eSite s))]) =
  (tkOut (env 48 [(.agg (eSite s))]) none (fun v3 => (tkBool v3 none fun b4 => (bif (!b4) then some (.ret (.int .i64 (2 : Int)))
      else some (.ret (.int .i64 (0 : Int))))))
  (fun p3 => (tkIfc p3 none fun t4 x5 => (bif (flatP (.iface t4 x5)) then some (.pan (.iface t4 x5))
      else none)))) := by kernel_rfl

theorem t37 (env : Env) (F : Nat) (s : Site) (i : Int) (j : Int) : (evFun Try.prog (cfg F) env 37 [(.agg (eSite s)), (.int .i64 i), (.int .i64 j)]) =
  (tkOut (env 48 [(.agg (eSite s))]) none (fun v5 => (tkBool v5 none fun b6 => (bif (!b6) then some (.ret (.tup [(.agg [(.int .i64 (0 : Int)), (.int .i64 (0 : Int))]), (.int .i64 (2 : Int))]))
      else (tkOut (env 72 [(.int .i64 i), (.int .i64 (0 : Int)), (.int .i64 (IntKind.wrap .i64 ((((Sl.len (Site.cavs s)) : Nat) : Int) - (1 : Int))))]) none (fun v7 => (tkBool v7 none fun b8 => (bif (!b8) then some (.ret (.tup [(.agg [(.int .i64 (0 : Int)), (.int .i64 (0 : Int))]), (.int .i64 (2 : Int))]))
            else (tkOut (env 72 [(.int .i64 j), (.int .i64 (0 : Int)), (.int .i64 (IntKind.wrap .i64 ((((Sl.len (Site.cavs s)) : Nat) : Int) - (1 : Int))))]) none (fun v9 => (tkBool v9 none fun b10 => (bif (!b10) then some (.ret (.tup [(.agg [(.int .i64 (0 : Int)), (.int .i64 (0 : Int))]), (.int .i64 (2 : Int))]))
                  else (bif (i == j) then some (.ret (.tup [(.agg [(.int .i64 (0 : Int)), (.int .i64 (0 : Int))]), (.int .i64 (2 : Int))]))
                    else (bif (decide ((0 : Int) ≤ i)) then (bif (decide (i < (((Sl.len (Site.cavs s)) : Nat) : Int))) then (bif (decide ((0 : Int) ≤ j)) then (bif (decide (j < (((Sl.len (Site.cavs s)) : Nat) : Int))) then (tkOut (env 73 [(.rptr 1 (((((1 + 1) + 1) + 1) + 1) + 1) (fun u11 => (eSite s)) 0 0), (.int .i64 i), (.int .i64 j), (.int .i64 (Span.hi (Cav.rad (Sl.el (Site.cavs s) (Int.toNat i))))), (.int .i64 (Span.hi (Cav.rad (Sl.el (Site.cavs s) (Int.toNat j)))))]) none (fun v11 => (tkInt v11 none fun q12 n13 => (tkOut (env 73 [(.rptr 1 (((((1 + 1) + 1) + 1) + 1) + 1) (fun u14 => (eSite s)) 0 0), (.int .i64 i), (.int .i64 j), (.int .i64 (Span.lo (Cav.rad (Sl.el (Site.cavs s) (Int.toNat i))))), (.int .i64 (Span.lo (Cav.rad (Sl.el (Site.cavs s) (Int.toNat j)))))]) none (fun v14 => (tkInt v14 none fun q15 n16 => some (.ret (.tup [(.agg [(.int q12 n13), (.int q15 n16)]), (.int .i64 (0 : Int))]))))
                                  (fun p14 => (tkIfc p14 none fun t15 x16 => (bif (flatP (.iface t15 x16)) then some (.pan (.iface t15 x16))
                                      else none))))))
                              (fun p11 => (tkIfc p11 none fun t12 x13 => (bif (flatP (.iface t12 x13)) then none
                                  else none))))
                            else none)
                          else none)
                        else none)
                      else none)))))
              (fun p9 => (tkIfc p9 none fun t10 x11 => (bif (flatP (.iface t10 x11)) then some (.pan (.iface t10 x11))
                  else none)))))))
        (fun p7 => (tkIfc p7 none fun t8 x9 => (bif (flatP (.iface t8 x9)) then some (.pan (.iface t8 x9))
            else none)))))))
  (fun p5 => (tkIfc p5 none fun t6 x7 => (bif (flatP (.iface t6 x7)) then some (.pan (.iface t6 x7))
      else none)))) := by kernel_rfl

noncomputable def L38x0 (env : Env) (F : Nat) (s : Site) (fu : Nat) : Option Out := atLoop Try.prog (cfg F) env 38 [.r, .r, .l, .r, .d] [] fu { tm := tmL 29 0 [(1, (.optr 0 0 0)), (3, (.row true 0 0 (fun u4 => []))), (4, (.int .i64 (0 : Int)))], hp := [(.box 28 (eSite s) true)] }
noncomputable def L38x1 (env : Env) (F : Nat) (s : Site) (fu : Nat) (k0 : Nat) (i1 : Int) (k2 : Nat) (g3 : Nat → List V) : Option Out := atLoop Try.prog (cfg F) env 38 [.r, .r, .l, .r, .d] [] fu { tm := tmL 29 0 [(1, (.optr 0 0 0)), (3, (.osl 1 0 k0)), (4, (.int .i64 i1))], hp := [(.box 28 (eSite s) true), (.arr 65 6 k2 g3 true)] }
theorem t38 (env : Env) (F : Nat) (s : Site) : (evFun Try.prog (cfg F) env 38 [(.agg (eSite s))]) =
  (L38x0 env F s F) := by kernel_rfl
theorem L38x0s (env : Env) (F : Nat) (s : Site) (fu : Nat) : L38x0 env F s (fu + 1) =
  (bif (decide ((0 : Int) < (((Sl.len (Site.cavs s)) : Nat) : Int))) then (bif (decide ((0 : Int) < (((Sl.len (Site.cavs s)) : Nat) : Int))) then (bif (decide ((0 : Int) < (((Sl.len (Site.cavs s)) : Nat) : Int))) then (L38x1 env F s fu 1 (IntKind.wrap .i64 ((0 : Int) + (1 : Int))) 1 (fun u4 => [(.int .i64 (Span.lo (Cav.rad (Sl.el (Site.cavs s) 0)))), (.int .i64 (Span.hi (Cav.rad (Sl.el (Site.cavs s) 0)))), (.int .i64 (Span.lo (Cav.vol (Sl.el (Site.cavs s) 0)))), (.int .i64 (Span.hi (Cav.vol (Sl.el (Site.cavs s) 0)))), (.int .i64 (0 : Int)), (.int .i64 (0 : Int))]))
      else none)
    else none)
  else some (.ret (.row true 0 0 (fun u4 => [])))) := by kernel_rfl
theorem L38x1s (env : Env) (F : Nat) (s : Site) (fu : Nat) (k0 : Nat) (i1 : Int) (k2 : Nat) (g3 : Nat → List V) : L38x1 env F s (fu + 1) k0 i1 k2 g3 =
  (bif (decide (i1 < (((Sl.len (Site.cavs s)) : Nat) : Int))) then (bif (decide ((0 : Int) ≤ i1)) then (bif (decide (i1 < (((Sl.len (Site.cavs s)) : Nat) : Int))) then (bif (decide ((0 : Int) ≤ i1)) then (bif (decide (i1 < (((Sl.len (Site.cavs s)) : Nat) : Int))) then (bif (decide (((k0 + 1) * 48) ≤ 140737488355328)) then (bif ((decide (1 < 19)) && (decide (17 < 19))) then (L38x1 env F s fu (k0 + 1) (IntKind.wrap .i64 (i1 + (1 : Int))) (k0 + 1) (appGet k0 g3 (fun u8 => [(.int .i64 (Span.lo (Cav.rad (Sl.el (Site.cavs s) (Int.toNat i1))))), (.int .i64 (Span.hi (Cav.rad (Sl.el (Site.cavs s) (Int.toNat i1))))), (.int .i64 (Span.lo (Cav.vol (Sl.el (Site.cavs s) (Int.toNat i1))))), (.int .i64 (Span.hi (Cav.vol (Sl.el (Site.cavs s) (Int.toNat i1))))), (.int .i64 (0 : Int)), (.int .i64 (0 : Int))])))
              else none)
            else none)
          else none)
        else none)
      else none)
    else none)
  else some (.ret (.row false k0 6 (fun u8 => (g3 u8))))) := by kernel_rfl

theorem t40 (env : Env) (F : Nat) (s : Site) (i : Int) (j : Int) (p : Span) (q : Span) : (evFun Try.prog (cfg F) env 40 [(.agg (eSite s)), (.int .i64 i), (.int .i64 j), (.agg (eSpan p)), (.agg (eSpan q))]) =
  (tkOut (env 71 [(.agg (eSite s)), (.int .i64 i), (.int .i64 j)]) none (fun v7 => (tkInt v7 none fun q8 n9 => (bif (decide (q8 = .i64)) then (bif (decide (q8 = .i64)) then (bif (decide (q8 = .i64)) then (bif (decide (q8 = .i64)) then some (.ret (.agg [(.int q8 (IntKind.wrap q8 ((IntKind.wrap q8 (n9 - (Span.hi p))) - (Span.hi q)))), (.int q8 (IntKind.wrap q8 ((IntKind.wrap q8 (n9 - (Span.lo p))) - (Span.lo q))))]))
            else none)
          else none)
        else none)
      else none)))
  (fun p7 => (tkIfc p7 none fun t8 x9 => (bif (flatP (.iface t8 x9)) then some (.pan (.iface t8 x9))
      else none)))) := by kernel_rfl

theorem t71 (env : Env) (F : Nat) (s : Site) (i : Int) (j : Int) : (evFun Try.prog (cfg F) env 71 [(.agg (eSite s)), (.int .i64 i), (.int .i64 j)]) =
  (bif (decide ((0 : Int) ≤ i)) then (bif (decide (i < (((Sl.len (Site.cavs s)) : Nat) : Int))) then (bif (decide ((0 : Int) ≤ j)) then (bif (decide (j < (((Sl.len (Site.cavs s)) : Nat) : Int))) then (bif (decide ((0 : Int) ≤ i)) then (bif (decide (i < (((Sl.len (Site.cavs s)) : Nat) : Int))) then (bif (decide ((0 : Int) ≤ j)) then (bif (decide (j < (((Sl.len (Site.cavs s)) : Nat) : Int))) then (tkOut (env 104 [(.int .i64 (IntKind.wrap .i64 ((IntKind.wrap .i64 ((IntKind.wrap .i64 ((1000 : Int) * (IntKind.wrap .i64 ((Cav.x (Sl.el (Site.cavs s) (Int.toNat i))) - (Cav.x (Sl.el (Site.cavs s) (Int.toNat j))))))) * (IntKind.wrap .i64 ((1000 : Int) * (IntKind.wrap .i64 ((Cav.x (Sl.el (Site.cavs s) (Int.toNat i))) - (Cav.x (Sl.el (Site.cavs s) (Int.toNat j))))))))) + (IntKind.wrap .i64 ((IntKind.wrap .i64 ((1000 : Int) * (IntKind.wrap .i64 ((Cav.y (Sl.el (Site.cavs s) (Int.toNat i))) - (Cav.y (Sl.el (Site.cavs s) (Int.toNat j))))))) * (IntKind.wrap .i64 ((1000 : Int) * (IntKind.wrap .i64 ((Cav.y (Sl.el (Site.cavs s) (Int.toNat i))) - (Cav.y (Sl.el (Site.cavs s) (Int.toNat j))))))))))))]) none (fun v5 => (tkInt v5 none fun q6 n7 => some (.ret (.int q6 n7))))
                  (fun p5 => (tkIfc p5 none fun t6 x7 => (bif (flatP (.iface t6 x7)) then some (.pan (.iface t6 x7))
                      else none))))
                else none)
              else none)
            else none)
          else none)
        else none)
      else none)
    else none)
  else none) := by kernel_rfl

noncomputable def L104x0 (env : Env) (F : Nat) (n : Int) (fu : Nat) (i0 : Int) (i1 : Int) : Option Out := atLoop Try.prog (cfg F) env 104 [.r, .r, .l, .d] [] fu { tm := tmL 23 0 [(0, (.int .i64 n)), (3, (.int .i64 i0)), (4, (.int .i64 i1))], hp := [] }
theorem t104 (env : Env) (F : Nat) (n : Int) : (evFun Try.prog (cfg F) env 104 [(.int .i64 n)]) =
  (L104x0 env F n F (0 : Int) (2147483648 : Int)) := by kernel_rfl
theorem L104x0s (env : Env) (F : Nat) (n : Int) (fu : Nat) (i0 : Int) (i1 : Int) : L104x0 env F n (fu + 1) i0 i1 =
  (bif (decide (i0 < i1)) then (bif (decide ((IntKind.wrap .i64 ((IntKind.wrap .i64 (Int.tdiv (IntKind.wrap .i64 ((IntKind.wrap .i64 (i0 + i1)) + (1 : Int))) (2 : Int))) * (IntKind.wrap .i64 (Int.tdiv (IntKind.wrap .i64 ((IntKind.wrap .i64 (i0 + i1)) + (1 : Int))) (2 : Int))))) ≤ n)) then (L104x0 env F n fu (IntKind.wrap .i64 (Int.tdiv (IntKind.wrap .i64 ((IntKind.wrap .i64 (i0 + i1)) + (1 : Int))) (2 : Int))) i1)
    else (L104x0 env F n fu i0 (IntKind.wrap .i64 ((IntKind.wrap .i64 (Int.tdiv (IntKind.wrap .i64 ((IntKind.wrap .i64 (i0 + i1)) + (1 : Int))) (2 : Int))) - (1 : Int)))))
  else some (.ret (.int .i64 i0))) := by kernel_rfl

theorem t73 (env : Env) (F : Nat) (s : Site) (i : Int) (j : Int) (a : Int) (b : Int) : (evFun Try.prog (cfg F) env 73 [(pSite s), (.int .i64 i), (.int .i64 j), (.int .i64 a), (.int .i64 b)]) =
  (bif (decide ((0 : Int) ≤ i)) then (bif (decide (i < (((Sl.len (Site.cavs s)) : Nat) : Int))) then (bif (decide ((0 : Int) ≤ j)) then (bif (decide (j < (((Sl.len (Site.cavs s)) : Nat) : Int))) then (bif (decide ((0 : Int) ≤ i)) then (bif (decide (i < (((Sl.len (Site.cavs s)) : Nat) : Int))) then (bif (decide ((0 : Int) ≤ j)) then (bif (decide (j < (((Sl.len (Site.cavs s)) : Nat) : Int))) then (tkOut (env 105 [(.int .i64 (IntKind.wrap .i64 ((IntKind.wrap .i64 ((IntKind.wrap .i64 ((1000 : Int) * (IntKind.wrap .i64 ((Cav.x (Sl.el (Site.cavs s) (Int.toNat i))) - (Cav.x (Sl.el (Site.cavs s) (Int.toNat j))))))) * (IntKind.wrap .i64 ((1000 : Int) * (IntKind.wrap .i64 ((Cav.x (Sl.el (Site.cavs s) (Int.toNat i))) - (Cav.x (Sl.el (Site.cavs s) (Int.toNat j))))))))) + (IntKind.wrap .i64 ((IntKind.wrap .i64 ((1000 : Int) * (IntKind.wrap .i64 ((Cav.y (Sl.el (Site.cavs s) (Int.toNat i))) - (Cav.y (Sl.el (Site.cavs s) (Int.toNat j))))))) * (IntKind.wrap .i64 ((1000 : Int) * (IntKind.wrap .i64 ((Cav.y (Sl.el (Site.cavs s) (Int.toNat i))) - (Cav.y (Sl.el (Site.cavs s) (Int.toNat j))))))))))))]) none (fun v7 => (tkInt v7 none fun q8 n9 => (bif (decide (q8 = .i64)) then (bif (decide (q8 = .i64)) then some (.ret (.int q8 (IntKind.wrap q8 ((IntKind.wrap q8 (n9 - a)) - b))))
                        else none)
                      else none)))
                  (fun p7 => (tkIfc p7 none fun t8 x9 => (bif (flatP (.iface t8 x9)) then some (.pan (.iface t8 x9))
                      else none))))
                else none)
              else none)
            else none)
          else none)
        else none)
      else none)
    else none)
  else none) := by kernel_rfl

end Go.Sim.Cr

/-
  What the evaluator says of these functions (printed by a private program; each row is checked by the kernel).
-/
set_option maxRecDepth 100000
namespace Go.Sim.Cr
open Go.Proofs

noncomputable def L22x0 (env : Env) (F : Nat) (a : Sl Stt) (b : Sl Stt) (fu : Nat) (i0 : Int) : Option Out := atLoop Try.prog (cfg F) env 22 [.r, .r, .l, .r, .d] [] fu { tm := tmL 26 0 [(0, (sl eStt 6 a)), (1, (sl eStt 6 b)), (5, (.int .i64 i0))], hp := [] }
theorem t22 (env : Env) (F : Nat) (a : Sl Stt) (b : Sl Stt) : (evFun Try.prog (cfg F) env 22 [(sl eStt 6 a), (sl eStt 6 b)]) =
  (bif ((((Sl.len a) : Nat) : Int) != (((Sl.len b) : Nat) : Int)) then some (.ret (.bool false))
  else (L22x0 env F a b F (0 : Int))) := by kernel_rfl
theorem L22x0s (env : Env) (F : Nat) (a : Sl Stt) (b : Sl Stt) (fu : Nat) (i0 : Int) : L22x0 env F a b (fu + 1) i0 =
  (bif (decide (i0 < (((Sl.len a) : Nat) : Int))) then (bif (decide ((0 : Int) ≤ i0)) then (bif (decide (i0 < (((Sl.len a) : Nat) : Int))) then (bif (decide ((0 : Int) ≤ i0)) then (bif (decide (i0 < (((Sl.len b) : Nat) : Int))) then (bif (!(((Span.lo (Stt.rad (Sl.el a (Int.toNat i0)))) == (Span.lo (Stt.rad (Sl.el b (Int.toNat i0))))) && (((Span.hi (Stt.rad (Sl.el a (Int.toNat i0)))) == (Span.hi (Stt.rad (Sl.el b (Int.toNat i0))))) && (((Span.lo (Stt.vol (Sl.el a (Int.toNat i0)))) == (Span.lo (Stt.vol (Sl.el b (Int.toNat i0))))) && (((Span.hi (Stt.vol (Sl.el a (Int.toNat i0)))) == (Span.hi (Stt.vol (Sl.el b (Int.toNat i0))))) && (((Span.lo (Stt.lost (Sl.el a (Int.toNat i0)))) == (Span.lo (Stt.lost (Sl.el b (Int.toNat i0))))) && (((Span.hi (Stt.lost (Sl.el a (Int.toNat i0)))) == (Span.hi (Stt.lost (Sl.el b (Int.toNat i0))))) && true))))))) then some (.ret (.bool false))
            else (L22x0 env F a b fu (IntKind.wrap .i64 (i0 + (1 : Int)))))
          else none)
        else none)
      else none)
    else none)
  else some (.ret (.bool true))) := by kernel_rfl

noncomputable def L48x0 (env : Env) (F : Nat) (s : Site) (fu : Nat) (i0 : Int) : Option Out := atLoop Try.prog (cfg F) env 48 [.r, .r, .l, .r, .d] [] fu { tm := tmL 51 0 [(1, (.optr 0 0 0)), (28, (sl eCav 11 (Site.cavs s))), (29, (.int .i64 (((Sl.len (Site.cavs s)) : Nat) : Int))), (30, (.int .i64 i0))], hp := [(.box 28 (eSite s) true)] }
theorem t48 (env : Env) (F : Nat) (s : Site) : (evFun Try.prog (cfg F) env 48 [(.agg (eSite s))]) =
  (tkOut (env 72 [(.int .i64 (((Sl.len (Site.cavs s)) : Nat) : Int)), (.int .i64 (1 : Int)), (.int .i64 (5 : Int))]) none (fun v3 => (tkBool v3 none fun b4 => (bif (!b4) then some (.ret (.bool false))
      else (tkOut (env 78 [(.agg (eSite s))]) none (fun v5 => (tkBool v5 none fun b6 => (bif (!b6) then some (.ret (.bool false))
            else (tkOut (env 72 [(.int .i64 (Site.wall s)), (.int .i64 (0 : Int)), (.int .i64 (1000000 : Int))]) none (fun v7 => (tkBool v7 none fun b8 => (bif (!b8) then some (.ret (.bool false))
                  else (bif (decide ((((Sl.len (Site.houses s)) : Nat) : Int) > (5 : Int))) then some (.ret (.bool false))
                    else (L48x0 env F s F (0 : Int))))))
              (fun p7 => (tkIfc p7 none fun t8 x9 => (bif (flatP (.iface t8 x9)) then some (.pan (.iface t8 x9))
                  else none)))))))
        (fun p5 => (tkIfc p5 none fun t6 x7 => (bif (flatP (.iface t6 x7)) then some (.pan (.iface t6 x7))
            else none)))))))
  (fun p3 => (tkIfc p3 none fun t4 x5 => (bif (flatP (.iface t4 x5)) then some (.pan (.iface t4 x5))
      else none)))) := by kernel_rfl
theorem L48x0s (env : Env) (F : Nat) (s : Site) (fu : Nat) (i0 : Int) : L48x0 env F s (fu + 1) i0 =
  (bif (decide (i0 < (((Sl.len (Site.cavs s)) : Nat) : Int))) then (bif (decide ((0 : Int) ≤ i0)) then (bif (decide (i0 < (((Sl.len (Site.cavs s)) : Nat) : Int))) then (tkOut (env 79 [(.agg (eCav (Sl.el (Site.cavs s) (Int.toNat i0))))]) none (fun v5 => (tkBool v5 none fun b6 => (bif (!b6) then some (.ret (.bool false))
            else (bif (true || (Sl.nl (Site.cavs s))) then (bif (decide ((0 : Int) ≤ i0)) then (bif (decide (0 ≤ (Int.toNat i0))) then (bif (decide ((Int.toNat i0) ≤ (Sl.len (Site.cavs s)))) then (tkOut (env 80 [(.row (Sl.nl (Site.cavs s)) ((Int.toNat i0) - 0) 11 (fun u7 => (eCav (Sl.el (Site.cavs s) u7)))), (.fn (.func 81) [] [(.rptr 1 11 (fun u7 => (eCav (Sl.el (Site.cavs s) (Int.toNat i0)))) 0 0)])]) none (fun v7 => (tkBool v7 none fun b8 => (bif b8 then some (.ret (.bool false))
                          else (L48x0 env F s fu (IntKind.wrap .i64 (i0 + (1 : Int)))))))
                      (fun p7 => (tkIfc p7 none fun t8 x9 => (bif (flatP (.iface t8 x9)) then some (.pan (.iface t8 x9))
                          else none))))
                    else none)
                  else none)
                else none)
              else none))))
        (fun p5 => (tkIfc p5 none fun t6 x7 => (bif (flatP (.iface t6 x7)) then some (.pan (.iface t6 x7))
            else none))))
      else none)
    else none)
  else (tkOut (env 82 [(sl eHouse 3 (Site.houses s)), (.fn (.func 83) [] [])]) none (fun v5 => (tkBool v5 none fun b6 => some (.ret (.bool (!b6)))))
    (fun p5 => (tkIfc p5 none fun t6 x7 => (bif (flatP (.iface t6 x7)) then some (.pan (.iface t6 x7))
        else none))))) := by kernel_rfl

end Go.Sim.Cr

/-
  What the evaluator says of these functions (printed by a private program; each row is checked by the kernel).
-/
set_option maxRecDepth 100000
namespace Go.Sim.Cr
open Go.Proofs

noncomputable def L78x0 (env : Env) (F : Nat) (s : Site) (fu : Nat) (i0 : Int) : Option Out := atLoop Try.prog (cfg F) env 78 [.r, .l, .r, .d] [] fu { tm := tmL 182 0 [(1, (.optr 0 0 0)), (10, (sl eRow 5 (Site.rows s))), (11, (.int .i64 (((Sl.len (Site.rows s)) : Nat) : Int))), (12, (.int .i64 i0))], hp := [(.box 28 (eSite s) true)] }
noncomputable def L78x1 (env : Env) (F : Nat) (s : Site) (fu : Nat) (i0 : Int) : Option Out := atLoop Try.prog (cfg F) env 78 [.r, .r, .l, .r, .d] [] fu { tm := tmL 182 0 [(1, (.optr 0 0 0)), (84, (sl eHeat 3 (Site.heats s))), (85, (.int .i64 (((Sl.len (Site.heats s)) : Nat) : Int))), (86, (.int .i64 i0))], hp := [(.box 28 (eSite s) true)] }
noncomputable def L78x2 (env : Env) (F : Nat) (s : Site) (fu : Nat) (i0 : Int) : Option Out := atLoop Try.prog (cfg F) env 78 [.r, .r, .r, .l, .r, .d] [] fu { tm := tmL 182 0 [(1, (.optr 0 0 0)), (132, (sl eRing 3 (Site.rings s))), (133, (.int .i64 (((Sl.len (Site.rings s)) : Nat) : Int))), (134, (.int .i64 i0))], hp := [(.box 28 (eSite s) true)] }
theorem t78 (env : Env) (F : Nat) (s : Site) : (evFun Try.prog (cfg F) env 78 [(.agg (eSite s))]) =
  (L78x0 env F s F (0 : Int)) := by kernel_rfl
theorem L78x0s (env : Env) (F : Nat) (s : Site) (fu : Nat) (i0 : Int) : L78x0 env F s (fu + 1) i0 =
  (bif (decide (i0 < (((Sl.len (Site.rows s)) : Nat) : Int))) then (bif (decide ((0 : Int) ≤ i0)) then (bif (decide (i0 < (((Sl.len (Site.rows s)) : Nat) : Int))) then (tkOut (env 72 [(.int .i64 (Row.deficit (Sl.el (Site.rows s) (Int.toNat i0)))), (.int .i64 (0 : Int)), (.int .i64 (50000 : Int))]) none (fun v5 => (tkBool v5 none fun b6 => (bif (!b6) then some (.ret (.bool false))
            else (tkOut (env 74 [(.agg (eSpan (Row.rate (Sl.el (Site.rows s) (Int.toNat i0))))), (.int .i64 (100000 : Int))]) none (fun v7 => (tkBool v7 none fun b8 => (bif (!b8) then some (.ret (.bool false))
                  else (tkOut (env 74 [(.agg (eSpan (Row.spall (Sl.el (Site.rows s) (Int.toNat i0))))), (.int .i64 (1000 : Int))]) none (fun v9 => (tkBool v9 none fun b10 => (bif (!b10) then some (.ret (.bool false))
                        else (bif (i0 == (0 : Int)) then (bif ((Row.deficit (Sl.el (Site.rows s) (Int.toNat i0))) != (0 : Int)) then some (.ret (.bool false))
                            else (bif (decide (i0 > (0 : Int))) then (bif (decide ((0 : Int) ≤ (IntKind.wrap .i64 (i0 - (1 : Int))))) then (bif (decide ((IntKind.wrap .i64 (i0 - (1 : Int))) < (((Sl.len (Site.rows s)) : Nat) : Int))) then (bif (decide ((Row.deficit (Sl.el (Site.rows s) (Int.toNat i0))) ≤ (Row.deficit (Sl.el (Site.rows s) (Int.toNat (IntKind.wrap .i64 (i0 - (1 : Int)))))))) then some (.ret (.bool false))
                                    else (bif (decide ((0 : Int) ≤ (IntKind.wrap .i64 (i0 - (1 : Int))))) then (bif (decide ((IntKind.wrap .i64 (i0 - (1 : Int))) < (((Sl.len (Site.rows s)) : Nat) : Int))) then (tkOut (env 107 [(.agg (eSpan (Row.rate (Sl.el (Site.rows s) (Int.toNat i0))))), (.agg (eSpan (Row.rate (Sl.el (Site.rows s) (Int.toNat (IntKind.wrap .i64 (i0 - (1 : Int))))))))]) none (fun v11 => (tkBool v11 none fun b12 => (bif (!b12) then some (.ret (.bool false))
                                              else (bif (decide ((0 : Int) ≤ (IntKind.wrap .i64 (i0 - (1 : Int))))) then (bif (decide ((IntKind.wrap .i64 (i0 - (1 : Int))) < (((Sl.len (Site.rows s)) : Nat) : Int))) then (tkOut (env 107 [(.agg (eSpan (Row.spall (Sl.el (Site.rows s) (Int.toNat i0))))), (.agg (eSpan (Row.spall (Sl.el (Site.rows s) (Int.toNat (IntKind.wrap .i64 (i0 - (1 : Int))))))))]) none (fun v13 => (tkBool v13 none fun b14 => (bif (!b14) then some (.ret (.bool false))
                                                        else (L78x0 env F s fu (IntKind.wrap .i64 (i0 + (1 : Int)))))))
                                                    (fun p13 => (tkIfc p13 none fun t14 x15 => (bif (flatP (.iface t14 x15)) then some (.pan (.iface t14 x15))
                                                        else none))))
                                                  else none)
                                                else none))))
                                          (fun p11 => (tkIfc p11 none fun t12 x13 => (bif (flatP (.iface t12 x13)) then some (.pan (.iface t12 x13))
                                              else none))))
                                        else none)
                                      else none))
                                  else none)
                                else none)
                              else (L78x0 env F s fu (IntKind.wrap .i64 (i0 + (1 : Int))))))
                          else (bif (decide (i0 > (0 : Int))) then (bif (decide ((0 : Int) ≤ (IntKind.wrap .i64 (i0 - (1 : Int))))) then (bif (decide ((IntKind.wrap .i64 (i0 - (1 : Int))) < (((Sl.len (Site.rows s)) : Nat) : Int))) then (bif (decide ((Row.deficit (Sl.el (Site.rows s) (Int.toNat i0))) ≤ (Row.deficit (Sl.el (Site.rows s) (Int.toNat (IntKind.wrap .i64 (i0 - (1 : Int)))))))) then some (.ret (.bool false))
                                  else (bif (decide ((0 : Int) ≤ (IntKind.wrap .i64 (i0 - (1 : Int))))) then (bif (decide ((IntKind.wrap .i64 (i0 - (1 : Int))) < (((Sl.len (Site.rows s)) : Nat) : Int))) then (tkOut (env 107 [(.agg (eSpan (Row.rate (Sl.el (Site.rows s) (Int.toNat i0))))), (.agg (eSpan (Row.rate (Sl.el (Site.rows s) (Int.toNat (IntKind.wrap .i64 (i0 - (1 : Int))))))))]) none (fun v11 => (tkBool v11 none fun b12 => (bif (!b12) then some (.ret (.bool false))
                                            else (bif (decide ((0 : Int) ≤ (IntKind.wrap .i64 (i0 - (1 : Int))))) then (bif (decide ((IntKind.wrap .i64 (i0 - (1 : Int))) < (((Sl.len (Site.rows s)) : Nat) : Int))) then (tkOut (env 107 [(.agg (eSpan (Row.spall (Sl.el (Site.rows s) (Int.toNat i0))))), (.agg (eSpan (Row.spall (Sl.el (Site.rows s) (Int.toNat (IntKind.wrap .i64 (i0 - (1 : Int))))))))]) none (fun v13 => (tkBool v13 none fun b14 => (bif (!b14) then some (.ret (.bool false))
                                                      else (L78x0 env F s fu (IntKind.wrap .i64 (i0 + (1 : Int)))))))
                                                  (fun p13 => (tkIfc p13 none fun t14 x15 => (bif (flatP (.iface t14 x15)) then some (.pan (.iface t14 x15))
                                                      else none))))
                                                else none)
                                              else none))))
                                        (fun p11 => (tkIfc p11 none fun t12 x13 => (bif (flatP (.iface t12 x13)) then some (.pan (.iface t12 x13))
                                            else none))))
                                      else none)
                                    else none))
                                else none)
                              else none)
                            else (L78x0 env F s fu (IntKind.wrap .i64 (i0 + (1 : Int)))))))))
                    (fun p9 => (tkIfc p9 none fun t10 x11 => (bif (flatP (.iface t10 x11)) then some (.pan (.iface t10 x11))
                        else none)))))))
              (fun p7 => (tkIfc p7 none fun t8 x9 => (bif (flatP (.iface t8 x9)) then some (.pan (.iface t8 x9))
                  else none)))))))
        (fun p5 => (tkIfc p5 none fun t6 x7 => (bif (flatP (.iface t6 x7)) then some (.pan (.iface t6 x7))
            else none))))
      else none)
    else none)
  else (L78x1 env F s F (0 : Int))) := by kernel_rfl
theorem L78x1s (env : Env) (F : Nat) (s : Site) (fu : Nat) (i0 : Int) : L78x1 env F s (fu + 1) i0 =
  (bif (decide (i0 < (((Sl.len (Site.heats s)) : Nat) : Int))) then (bif (decide ((0 : Int) ≤ i0)) then (bif (decide (i0 < (((Sl.len (Site.heats s)) : Nat) : Int))) then (tkOut (env 72 [(.int .i64 (Heat.warmth (Sl.el (Site.heats s) (Int.toNat i0)))), (.int .i64 (0 : Int)), (.int .i64 (10000 : Int))]) none (fun v5 => (tkBool v5 none fun b6 => (bif (!b6) then some (.ret (.bool false))
            else (tkOut (env 74 [(.agg (eSpan (Heat.factor (Sl.el (Site.heats s) (Int.toNat i0))))), (.int .i64 (10000 : Int))]) none (fun v7 => (tkBool v7 none fun b8 => (bif (!b8) then some (.ret (.bool false))
                  else (bif (decide (i0 > (0 : Int))) then (bif (decide ((0 : Int) ≤ (IntKind.wrap .i64 (i0 - (1 : Int))))) then (bif (decide ((IntKind.wrap .i64 (i0 - (1 : Int))) < (((Sl.len (Site.heats s)) : Nat) : Int))) then (bif (decide ((Heat.warmth (Sl.el (Site.heats s) (Int.toNat i0))) ≤ (Heat.warmth (Sl.el (Site.heats s) (Int.toNat (IntKind.wrap .i64 (i0 - (1 : Int)))))))) then some (.ret (.bool false))
                          else (bif (decide ((0 : Int) ≤ (IntKind.wrap .i64 (i0 - (1 : Int))))) then (bif (decide ((IntKind.wrap .i64 (i0 - (1 : Int))) < (((Sl.len (Site.heats s)) : Nat) : Int))) then (tkOut (env 107 [(.agg (eSpan (Heat.factor (Sl.el (Site.heats s) (Int.toNat i0))))), (.agg (eSpan (Heat.factor (Sl.el (Site.heats s) (Int.toNat (IntKind.wrap .i64 (i0 - (1 : Int))))))))]) none (fun v9 => (tkBool v9 none fun b10 => (bif (!b10) then some (.ret (.bool false))
                                    else (L78x1 env F s fu (IntKind.wrap .i64 (i0 + (1 : Int)))))))
                                (fun p9 => (tkIfc p9 none fun t10 x11 => (bif (flatP (.iface t10 x11)) then some (.pan (.iface t10 x11))
                                    else none))))
                              else none)
                            else none))
                        else none)
                      else none)
                    else (L78x1 env F s fu (IntKind.wrap .i64 (i0 + (1 : Int))))))))
              (fun p7 => (tkIfc p7 none fun t8 x9 => (bif (flatP (.iface t8 x9)) then some (.pan (.iface t8 x9))
                  else none)))))))
        (fun p5 => (tkIfc p5 none fun t6 x7 => (bif (flatP (.iface t6 x7)) then some (.pan (.iface t6 x7))
            else none))))
      else none)
    else none)
  else (L78x2 env F s F (0 : Int))) := by kernel_rfl
theorem L78x2s (env : Env) (F : Nat) (s : Site) (fu : Nat) (i0 : Int) : L78x2 env F s (fu + 1) i0 =
  (bif (decide (i0 < (((Sl.len (Site.rings s)) : Nat) : Int))) then (bif (decide ((0 : Int) ≤ i0)) then (bif (decide (i0 < (((Sl.len (Site.rings s)) : Nat) : Int))) then (tkOut (env 72 [(.int .i64 (Ring.away (Sl.el (Site.rings s) (Int.toNat i0)))), (.int .i64 (0 : Int)), (.int .i64 (40000 : Int))]) none (fun v5 => (tkBool v5 none fun b6 => (bif (!b6) then some (.ret (.bool false))
            else (tkOut (env 74 [(.agg (eSpan (Ring.share (Sl.el (Site.rings s) (Int.toNat i0))))), (.int .i64 (1000000 : Int))]) none (fun v7 => (tkBool v7 none fun b8 => (bif (!b8) then some (.ret (.bool false))
                  else (bif (decide (i0 > (0 : Int))) then (bif (decide ((0 : Int) ≤ (IntKind.wrap .i64 (i0 - (1 : Int))))) then (bif (decide ((IntKind.wrap .i64 (i0 - (1 : Int))) < (((Sl.len (Site.rings s)) : Nat) : Int))) then (bif (decide ((Ring.away (Sl.el (Site.rings s) (Int.toNat i0))) ≤ (Ring.away (Sl.el (Site.rings s) (Int.toNat (IntKind.wrap .i64 (i0 - (1 : Int)))))))) then some (.ret (.bool false))
                          else (L78x2 env F s fu (IntKind.wrap .i64 (i0 + (1 : Int)))))
                        else none)
                      else none)
                    else (L78x2 env F s fu (IntKind.wrap .i64 (i0 + (1 : Int))))))))
              (fun p7 => (tkIfc p7 none fun t8 x9 => (bif (flatP (.iface t8 x9)) then some (.pan (.iface t8 x9))
                  else none)))))))
        (fun p5 => (tkIfc p5 none fun t6 x7 => (bif (flatP (.iface t6 x7)) then some (.pan (.iface t6 x7))
            else none))))
      else none)
    else none)
  else (tkOut (env 72 [(.int .i64 (((Sl.len (Site.rows s)) : Nat) : Int)), (.int .i64 (1 : Int)), (.int .i64 (8 : Int))]) none (fun v5 => (tkBool v5 none fun b6 => (bif b6 then (tkOut (env 72 [(.int .i64 (((Sl.len (Site.heats s)) : Nat) : Int)), (.int .i64 (1 : Int)), (.int .i64 (8 : Int))]) none (fun v7 => (tkBool v7 none fun b8 => (bif b8 then some (.ret (.bool (decide ((((Sl.len (Site.rings s)) : Nat) : Int) ≤ (8 : Int)))))
              else some (.ret (.bool false)))))
          (fun p7 => (tkIfc p7 none fun t8 x9 => (bif (flatP (.iface t8 x9)) then some (.pan (.iface t8 x9))
              else none))))
        else some (.ret (.bool false)))))
    (fun p5 => (tkIfc p5 none fun t6 x7 => (bif (flatP (.iface t6 x7)) then some (.pan (.iface t6 x7))
        else none))))) := by kernel_rfl

end Go.Sim.Cr

/-
  What the evaluator says of these functions (printed by a private program; each row is checked by the kernel).
-/
set_option maxRecDepth 100000
namespace Go.Sim.Cr
open Go.Proofs

theorem t112 (env : Env) (F : Nat) (s : Site) (c : Cav) (p : Span) (q : Span) : (evFun Try.prog (cfg F) env 112 [(pSite s), (.agg (eCav c)), (.agg (eSpan p)), (.agg (eSpan q))]) =
  (tkOut (env 116 [(.int .i64 (((Sl.len (Site.rows s)) : Nat) : Int)), (.fn (.func 117) [] [(.rptr 1 1 (fun u6 => [(pSite s)]) 0 0)]), (.int .i64 (IntKind.wrap .i64 ((Cav.rock c) - (Span.hi p)))), (.int .i64 (IntKind.wrap .i64 ((Cav.rock c) - (Span.lo p))))]) none (fun v6 => (tkTup v6 none fun l7 => (tkCons l7 none fun v8 r9 => (tkInt v8 none fun q10 n11 => (tkCons r9 none fun v12 r13 => (tkInt v12 none fun q14 n15 => (tkNil r13 none ((tkOut (env 116 [(.int .i64 (((Sl.len (Site.heats s)) : Nat) : Int)), (.fn (.func 118) [] [(.rptr 1 1 (fun u16 => [(pSite s)]) 0 0)]), (.int .i64 (Span.lo q)), (.int .i64 (Span.hi q))]) none (fun v16 => (tkTup v16 none fun l17 => (tkCons l17 none fun v18 r19 => (tkInt v18 none fun q20 n21 => (tkCons r19 none fun v22 r23 => (tkInt v22 none fun q24 n25 => (tkNil r23 none ((bif (decide ((0 : Int) ≤ n11)) then (bif (decide (n11 < (((Sl.len (Site.rows s)) : Nat) : Int))) then (bif (decide ((0 : Int) ≤ n15)) then (bif (decide (n15 < (((Sl.len (Site.rows s)) : Nat) : Int))) then (bif (decide ((0 : Int) ≤ n11)) then (bif (decide (n11 < (((Sl.len (Site.rows s)) : Nat) : Int))) then (bif (decide ((0 : Int) ≤ n15)) then (bif (decide (n15 < (((Sl.len (Site.rows s)) : Nat) : Int))) then (bif (decide ((0 : Int) ≤ n21)) then (bif (decide (n21 < (((Sl.len (Site.heats s)) : Nat) : Int))) then (bif (decide ((0 : Int) ≤ n25)) then (bif (decide (n25 < (((Sl.len (Site.heats s)) : Nat) : Int))) then (bif ((decide (4 < 110)) && true) then some (.ret (.agg [(.int .i64 (Span.lo (Row.rate (Sl.el (Site.rows s) (Int.toNat n11))))), (.int .i64 (Span.hi (Row.rate (Sl.el (Site.rows s) (Int.toNat n15))))), (.int .i64 (Span.lo (Row.spall (Sl.el (Site.rows s) (Int.toNat n11))))), (.int .i64 (Span.hi (Row.spall (Sl.el (Site.rows s) (Int.toNat n15))))), (.int .i64 (Span.lo (Heat.factor (Sl.el (Site.heats s) (Int.toNat n21))))), (.int .i64 (Span.hi (Heat.factor (Sl.el (Site.heats s) (Int.toNat n25)))))]))
                                                      else none)
                                                    else none)
                                                  else none)
                                                else none)
                                              else none)
                                            else none)
                                          else none)
                                        else none)
                                      else none)
                                    else none)
                                  else none)
                                else none)
                              else none)))))))))
                (fun p16 => (tkIfc p16 none fun t17 x18 => (bif (flatP (.iface t17 x18)) then some (.pan (.iface t17 x18))
                    else none))))))))))))
  (fun p6 => (tkIfc p6 none fun t7 x8 => (bif (flatP (.iface t7 x8)) then some (.pan (.iface t7 x8))
      else none)))) := by kernel_rfl

theorem t91 (env : Env) (F : Nat) (s : Site) (c : Int) (x : Stt) (p : Span) (q : Span) : (evFun Try.prog (cfg F) env 91 [(pSite s), (.int .i64 c), (.agg (eStt x)), (.agg (eSpan p)), (.agg (eSpan q))]) =
  (bif (decide ((0 : Int) ≤ c)) then (bif (decide (c < (((Sl.len (Site.cavs s)) : Nat) : Int))) then (tkOut (env 112 [(pSite s), (.agg (eCav (Sl.el (Site.cavs s) (Int.toNat c)))), (.agg (eSpan p)), (.agg (eSpan q))]) none (fun v7 => (tkAgg v7 none fun l8 => (tkCons l8 none fun v9 r10 => (tkInt v9 none fun q11 n12 => (tkCons r10 none fun v13 r14 => (tkInt v13 none fun q15 n16 => (tkCons r14 none fun v17 r18 => (tkInt v17 none fun q19 n20 => (tkCons r18 none fun v21 r22 => (tkInt v21 none fun q23 n24 => (tkCons r22 none fun v25 r26 => (tkInt v25 none fun q27 n28 => (tkCons r26 none fun v29 r30 => (tkInt v29 none fun q31 n32 => (tkNil r30 none ((bif ((decide (16 < 18)) && true) then (bif ((decide (16 < 18)) && true) then (bif (decide (.i64 = q19)) then (bif (decide (.i64 = q23)) then (tkOut (env 113 [(.int .i64 (Span.lo (Stt.vol x))), (.int q15 n16), (.int q31 n32), (.int .i64 (999999999 : Int))]) none (fun v33 => (tkInt v33 none fun q34 n35 => (bif (decide (.i64 = q34)) then (tkOut (env 113 [(.int .i64 (Span.hi (Stt.vol x))), (.int q11 n12), (.int q27 n28), (.int .i64 (0 : Int))]) none (fun v36 => (tkInt v36 none fun q37 n38 => (bif (decide (.i64 = q37)) then (tkOut (env 113 [(.int .i64 (Span.lo (Stt.vol x))), (.int q11 n12), (.int q27 n28), (.int .i64 (0 : Int))]) none (fun v39 => (tkInt v39 none fun q40 n41 => (bif (decide (.i64 = q40)) then (tkOut (env 113 [(.int .i64 (Span.hi (Stt.vol x))), (.int q15 n16), (.int q31 n32), (.int .i64 (999999999 : Int))]) none (fun v42 => (tkInt v42 none fun q43 n44 => (bif (decide (.i64 = q43)) then (bif ((decide (3 < 101)) && true) then some (.ret (.agg [(.int .i64 (if (IntKind.wrap .i64 ((Span.lo (Stt.rad x)) + n20)) < (400000 : Int) then (IntKind.wrap .i64 ((Span.lo (Stt.rad x)) + n20)) else (400000 : Int))), (.int .i64 (if (IntKind.wrap .i64 ((Span.hi (Stt.rad x)) + n24)) < (400000 : Int) then (IntKind.wrap .i64 ((Span.hi (Stt.rad x)) + n24)) else (400000 : Int))), (.int .i64 (IntKind.wrap .i64 ((Span.lo (Stt.vol x)) - n35))), (.int .i64 (IntKind.wrap .i64 ((Span.hi (Stt.vol x)) - n38))), (.int .i64 (if (IntKind.wrap .i64 ((Span.lo (Stt.lost x)) + n41)) < (1000000000 : Int) then (IntKind.wrap .i64 ((Span.lo (Stt.lost x)) + n41)) else (1000000000 : Int))), (.int .i64 (if (IntKind.wrap .i64 ((Span.hi (Stt.lost x)) + n44)) < (1000000000 : Int) then (IntKind.wrap .i64 ((Span.hi (Stt.lost x)) + n44)) else (1000000000 : Int)))]))
                                                                    else none)
                                                                  else none)))
                                                              (fun p42 => (tkIfc p42 none fun t43 x44 => (bif (flatP (.iface t43 x44)) then some (.pan (.iface t43 x44))
                                                                  else none))))
                                                            else none)))
                                                        (fun p39 => (tkIfc p39 none fun t40 x41 => (bif (flatP (.iface t40 x41)) then none
                                                            else none))))
                                                      else none)))
                                                  (fun p36 => (tkIfc p36 none fun t37 x38 => (bif (flatP (.iface t37 x38)) then none
                                                      else none))))
                                                else none)))
                                            (fun p33 => (tkIfc p33 none fun t34 x35 => (bif (flatP (.iface t34 x35)) then none
                                                else none))))
                                          else none)
                                        else none)
                                      else none)
                                    else none)))))))))))))))))
      (fun p7 => (tkIfc p7 none fun t8 x9 => (bif (flatP (.iface t8 x9)) then some (.pan (.iface t8 x9))
          else none))))
    else none)
  else none) := by kernel_rfl

end Go.Sim.Cr

/-
  What the evaluator says of these functions (printed by a private program; each row is checked by the kernel).
-/
set_option maxRecDepth 100000
namespace Go.Sim.Cr
open Go.Proofs

theorem t56 (env : Env) (F : Nat) (s : Site) (c : Int) (x : Stt) (p : Span) (q : Span) : (evFun Try.prog (cfg F) env 56 [(.agg (eSite s)), (.int .i64 c), (.agg (eStt x)), (.agg (eSpan p)), (.agg (eSpan q))]) =
  (tkOut (env 70 [(.agg (eSite s)), (.int .i64 c), (.agg (eSpan p))]) none (fun v7 => (tkAgg v7 none fun l8 => (tkCons l8 none fun v9 r10 => (tkInt v9 none fun q11 n12 => (tkCons r10 none fun v13 r14 => (tkInt v13 none fun q15 n16 => (tkNil r14 none ((tkOut (env 58 [(.agg (eSite s)), (.agg [(.int q11 n12), (.int q15 n16)])]) none (fun v17 => (tkAgg v17 none fun l18 => (tkCons l18 none fun v19 r20 => (tkInt v19 none fun q21 n22 => (tkCons r20 none fun v23 r24 => (tkInt v23 none fun q25 n26 => (tkNil r24 none ((tkOut (env 59 [(.agg (eSite s)), (.agg (eSpan q))]) none (fun v27 => (tkAgg v27 none fun l28 => (tkCons l28 none fun v29 r30 => (tkInt v29 none fun q31 n32 => (tkCons r30 none fun v33 r34 => (tkInt v33 none fun q35 n36 => (tkNil r34 none ((tkOut (env 60 [(.agg (eSite s)), (.agg [(.int q11 n12), (.int q15 n16)])]) none (fun v37 => (tkAgg v37 none fun l38 => (tkCons l38 none fun v39 r40 => (tkInt v39 none fun q41 n42 => (tkCons r40 none fun v43 r44 => (tkInt v43 none fun q45 n46 => (tkNil r44 none ((bif (decide (.i64 = q41)) then (bif (decide (.i64 = q45)) then (tkOut (env 62 [(.int .i64 (Span.lo (Stt.vol x))), (.int q25 n26), (.int q35 n36)]) none (fun v47 => (tkInt v47 none fun q48 n49 => (bif (decide (.i64 = q48)) then (tkOut (env 61 [(.int .i64 (Span.hi (Stt.vol x))), (.int q21 n22), (.int q31 n32)]) none (fun v50 => (tkInt v50 none fun q51 n52 => (bif (decide (.i64 = q51)) then (tkOut (env 61 [(.int .i64 (Span.lo (Stt.vol x))), (.int q21 n22), (.int q31 n32)]) none (fun v53 => (tkInt v53 none fun q54 n55 => (bif (decide (.i64 = q54)) then (tkOut (env 62 [(.int .i64 (Span.hi (Stt.vol x))), (.int q25 n26), (.int q35 n36)]) none (fun v56 => (tkInt v56 none fun q57 n58 => some (.ret (.agg [(.int .i64 (if (IntKind.wrap .i64 ((Span.lo (Stt.rad x)) + n42)) < (400000 : Int) then (IntKind.wrap .i64 ((Span.lo (Stt.rad x)) + n42)) else (400000 : Int))), (.int .i64 (if (IntKind.wrap .i64 ((Span.hi (Stt.rad x)) + n46)) < (400000 : Int) then (IntKind.wrap .i64 ((Span.hi (Stt.rad x)) + n46)) else (400000 : Int))), (.int .i64 (if (0 : Int) < (IntKind.wrap .i64 ((Span.lo (Stt.vol x)) - n49)) then (IntKind.wrap .i64 ((Span.lo (Stt.vol x)) - n49)) else (0 : Int))), (.int .i64 (if (0 : Int) < (IntKind.wrap .i64 ((Span.hi (Stt.vol x)) - n52)) then (IntKind.wrap .i64 ((Span.hi (Stt.vol x)) - n52)) else (0 : Int))), (.int .i64 (if (IntKind.wrap .i64 ((Span.lo (Stt.lost x)) + n55)) < (1000000000 : Int) then (IntKind.wrap .i64 ((Span.lo (Stt.lost x)) + n55)) else (1000000000 : Int))), (.int .i64 (if (IntKind.wrap .i64 ((Span.hi (Stt.lost x)) + (if n58 < (Span.hi (Stt.vol x)) then n58 else (Span.hi (Stt.vol x))))) < (1000000000 : Int) then (IntKind.wrap .i64 ((Span.hi (Stt.lost x)) + (if n58 < (Span.hi (Stt.vol x)) then n58 else (Span.hi (Stt.vol x))))) else (1000000000 : Int)))]))))
                                                                                (fun p56 => (tkIfc p56 none fun t57 x58 => (bif (flatP (.iface t57 x58)) then some (.pan (.iface t57 x58))
                                                                                    else none))))
                                                                              else none)))
                                                                          (fun p53 => (tkIfc p53 none fun t54 x55 => (bif (flatP (.iface t54 x55)) then none
                                                                              else none))))
                                                                        else none)))
                                                                    (fun p50 => (tkIfc p50 none fun t51 x52 => (bif (flatP (.iface t51 x52)) then none
                                                                        else none))))
                                                                  else none)))
                                                              (fun p47 => (tkIfc p47 none fun t48 x49 => (bif (flatP (.iface t48 x49)) then none
                                                                  else none))))
                                                            else none)
                                                          else none)))))))))
                                            (fun p37 => (tkIfc p37 none fun t38 x39 => (bif (flatP (.iface t38 x39)) then some (.pan (.iface t38 x39))
                                                else none))))))))))))
                              (fun p27 => (tkIfc p27 none fun t28 x29 => (bif (flatP (.iface t28 x29)) then none
                                  else none))))))))))))
                (fun p17 => (tkIfc p17 none fun t18 x19 => (bif (flatP (.iface t18 x19)) then none
                    else none))))))))))))
  (fun p7 => (tkIfc p7 none fun t8 x9 => (bif (flatP (.iface t8 x9)) then some (.pan (.iface t8 x9))
      else none)))) := by kernel_rfl

noncomputable def L51x0 (env : Env) (F : Nat) (s : Site) (l : Sl Stt) (d : Day) (fu : Nat) : Option Out := atLoop Try.prog (cfg F) env 51 [.r, .r, .l, .r, .d] [] fu { tm := tmL 37 0 [(0, (pSite s)), (5, (.optr 0 0 0)), (6, (.optr 1 0 0)), (7, (.optr 2 0 0)), (11, (sl eStt 6 l)), (12, (.int .i64 (((Sl.len l) : Nat) : Int))), (13, (.int .i64 (0 : Int)))], hp := [(.box 32 [(sl eSpan 2 (Day.press d)), (sl eSpan 2 (Day.warm d))] true), (.box 29 [(.row true 0 0 (fun u6 => []))] true), (.box 4 [(.bool false)] true)], df := [(.fn (.func 90) [] [(.optr 1 0 0), (.optr 2 0 0)])] }
noncomputable def L51x1 (env : Env) (F : Nat) (s : Site) (l : Sl Stt) (d : Day) (fu : Nat) (i0 : Int) (k1 : Nat) (k2 : Nat) (g3 : Nat → List V) : Option Out := atLoop Try.prog (cfg F) env 51 [.r, .r, .l, .r, .d] [] fu { tm := tmL 37 0 [(0, (pSite s)), (5, (.optr 0 0 0)), (6, (.optr 1 0 0)), (7, (.optr 2 0 0)), (11, (sl eStt 6 l)), (12, (.int .i64 (((Sl.len l) : Nat) : Int))), (13, (.int .i64 i0))], hp := [(.box 32 [(sl eSpan 2 (Day.press d)), (sl eSpan 2 (Day.warm d))] true), (.box 29 [(.osl 3 0 k1)] true), (.box 4 [(.bool false)] true), (.arr 65 6 k2 g3 true)], df := [(.fn (.func 90) [] [(.optr 1 0 0), (.optr 2 0 0)])] }
theorem t51 (env : Env) (F : Nat) (s : Site) (l : Sl Stt) (d : Day) : (evFun Try.prog (cfg F) env 51 [(pSite s), (sl eStt 6 l), (.agg (eDay d))]) =
  (L51x0 env F s l d F) := by kernel_rfl
theorem L51x0s (env : Env) (F : Nat) (s : Site) (l : Sl Stt) (d : Day) (fu : Nat) : L51x0 env F s l d (fu + 1) =
  (bif (decide ((0 : Int) < (((Sl.len l) : Nat) : Int))) then (bif (decide ((0 : Int) < (((Sl.len l) : Nat) : Int))) then (bif (decide ((0 : Int) < (((Sl.len (Day.press d)) : Nat) : Int))) then (bif (decide ((0 : Int) < (((Sl.len (Day.warm d)) : Nat) : Int))) then (tkOut (env 91 [(pSite s), (.int .i64 (0 : Int)), (.agg (eStt (Sl.el l 0))), (.agg (eSpan (Sl.el (Day.press d) 0))), (.agg (eSpan (Sl.el (Day.warm d) 0)))]) none (fun v6 => (tkAgg v6 none fun l7 => (tkCons l7 none fun v8 r9 => (tkInt v8 none fun q10 n11 => (tkCons r9 none fun v12 r13 => (tkInt v12 none fun q14 n15 => (tkCons r13 none fun v16 r17 => (tkInt v16 none fun q18 n19 => (tkCons r17 none fun v20 r21 => (tkInt v20 none fun q22 n23 => (tkCons r21 none fun v24 r25 => (tkInt v24 none fun q26 n27 => (tkCons r25 none fun v28 r29 => (tkInt v28 none fun q30 n31 => (tkNil r29 none ((L51x1 env F s l d fu (IntKind.wrap .i64 ((0 : Int) + (1 : Int))) 1 1 (fun u32 => [(.int q10 n11), (.int q14 n15), (.int q18 n19), (.int q22 n23), (.int q26 n27), (.int q30 n31)]))))))))))))))))))
          (fun p6 => (tkIfc p6 none fun t7 x8 => (bif (flatP (.iface t7 x8)) then (bif (t7 == 146) then (tkAgg x8 none fun l9 => (bif (List.all l9 (fun u10 => (Go.Sim.V.one.match_1 (fun u11 => Bool) u10 (fun u11 => false) (fun u11 => false) (fun u11 => false) (fun u11 => false) (fun u11 => true)))) then (bif ((List.length l9) == 1) then (bif (decide ((0 + (List.length l9)) ≤ 1)) then some (.ret (.tup [(.row true 0 0 (fun u10 => [])), (.bool false)]))
                        else none)
                      else none)
                    else none))
                else (bif (flatP (.iface t7 x8)) then none
                  else none))
              else none))))
        else none)
      else none)
    else none)
  else some (.ret (.tup [(.row true 0 0 (fun u6 => [])), (.bool true)]))) := by kernel_rfl
theorem L51x1s (env : Env) (F : Nat) (s : Site) (l : Sl Stt) (d : Day) (fu : Nat) (i0 : Int) (k1 : Nat) (k2 : Nat) (g3 : Nat → List V) : L51x1 env F s l d (fu + 1) i0 k1 k2 g3 =
  (bif (decide (i0 < (((Sl.len l) : Nat) : Int))) then (bif (decide ((0 : Int) ≤ i0)) then (bif (decide (i0 < (((Sl.len l) : Nat) : Int))) then (bif (decide ((0 : Int) ≤ i0)) then (bif (decide (i0 < (((Sl.len (Day.press d)) : Nat) : Int))) then (bif (decide ((0 : Int) ≤ i0)) then (bif (decide (i0 < (((Sl.len (Day.warm d)) : Nat) : Int))) then (tkOut (env 91 [(pSite s), (.int .i64 i0), (.agg (eStt (Sl.el l (Int.toNat i0)))), (.agg (eSpan (Sl.el (Day.press d) (Int.toNat i0)))), (.agg (eSpan (Sl.el (Day.warm d) (Int.toNat i0))))]) none (fun v10 => (tkAgg v10 none fun l11 => (tkCons l11 none fun v12 r13 => (tkInt v12 none fun q14 n15 => (tkCons r13 none fun v16 r17 => (tkInt v16 none fun q18 n19 => (tkCons r17 none fun v20 r21 => (tkInt v20 none fun q22 n23 => (tkCons r21 none fun v24 r25 => (tkInt v24 none fun q26 n27 => (tkCons r25 none fun v28 r29 => (tkInt v28 none fun q30 n31 => (tkCons r29 none fun v32 r33 => (tkInt v32 none fun q34 n35 => (tkNil r33 none ((bif (decide (((k1 + 1) * 48) ≤ 140737488355328)) then (L51x1 env F s l d fu (IntKind.wrap .i64 (i0 + (1 : Int))) (k1 + 1) (k1 + 1) (appGet k1 g3 (fun u36 => [(.int q14 n15), (.int q18 n19), (.int q22 n23), (.int q26 n27), (.int q30 n31), (.int q34 n35)])))
                                              else none)))))))))))))))))
                (fun p10 => (tkIfc p10 none fun t11 x12 => (bif (flatP (.iface t11 x12)) then (bif (t11 == 146) then (tkAgg x12 none fun l13 => (bif (List.all l13 (fun u14 => (Go.Sim.V.one.match_1 (fun u15 => Bool) u14 (fun u15 => false) (fun u15 => false) (fun u15 => false) (fun u15 => false) (fun u15 => true)))) then (bif ((List.length l13) == 1) then (bif (decide ((0 + (List.length l13)) ≤ 1)) then some (.ret (.tup [(.row true 0 0 (fun u14 => [])), (.bool false)]))
                              else none)
                            else none)
                          else none))
                      else (bif (flatP (.iface t11 x12)) then none
                        else none))
                    else none))))
              else none)
            else none)
          else none)
        else none)
      else none)
    else none)
  else some (.ret (.tup [(.row false k1 6 (fun u10 => (g3 u10))), (.bool true)]))) := by kernel_rfl

theorem t24 (env : Env) (F : Nat) (s : Site) : (evFun Try.prog (cfg F) env 24 [(.agg (eSite s))]) =
  (tkOut (env 48 [(.agg (eSite s))]) none (fun v3 => (tkBool v3 none fun b4 => (bif (!b4) then some (.ret (.tup [(.row true 0 0 (fun u5 => [])), (.int .i64 (2 : Int))]))
      else (tkOut (env 57 [(pSite s)]) none (fun v5 => (tkRow v5 none fun nl6 n7 wd8 g9 => some (.ret (.tup [(.row nl6 n7 wd8 g9), (.int .i64 (0 : Int))]))))
        (fun p5 => (tkIfc p5 none fun t6 x7 => (bif (flatP (.iface t6 x7)) then some (.pan (.iface t6 x7))
            else none)))))))
  (fun p3 => (tkIfc p3 none fun t4 x5 => (bif (flatP (.iface t4 x5)) then some (.pan (.iface t4 x5))
      else none)))) := by kernel_rfl

noncomputable def L21x0 (env : Env) (F : Nat) (s : Site) (l : Sl Stt) (d : Day) (fu : Nat) : Option Out := atLoop Try.prog (cfg F) env 21 [.r, .r, .l, .r, .d] [] fu { tm := tmL 50 0 [(1, (sl eStt 6 l)), (3, (.optr 0 0 0)), (5, (.optr 1 0 0)), (8, (.row true 0 0 (fun u6 => []))), (9, (.int .i64 (0 : Int)))], hp := [(.box 28 (eSite s) true), (.box 32 [(sl eSpan 2 (Day.press d)), (sl eSpan 2 (Day.warm d))] true)] }
noncomputable def L21x1 (env : Env) (F : Nat) (s : Site) (l : Sl Stt) (d : Day) (fu : Nat) (k0 : Nat) (i1 : Int) (k2 : Nat) (g3 : Nat → List V) : Option Out := atLoop Try.prog (cfg F) env 21 [.r, .r, .l, .r, .d] [] fu { tm := tmL 50 0 [(1, (sl eStt 6 l)), (3, (.optr 0 0 0)), (5, (.optr 1 0 0)), (8, (.osl 2 0 k0)), (9, (.int .i64 i1))], hp := [(.box 28 (eSite s) true), (.box 32 [(sl eSpan 2 (Day.press d)), (sl eSpan 2 (Day.warm d))] true), (.arr 65 6 k2 g3 true)] }
theorem t21 (env : Env) (F : Nat) (s : Site) (l : Sl Stt) (d : Day) : (evFun Try.prog (cfg F) env 21 [(.agg (eSite s)), (sl eStt 6 l), (.agg (eDay d))]) =
  (L21x0 env F s l d F) := by kernel_rfl
theorem L21x0s (env : Env) (F : Nat) (s : Site) (l : Sl Stt) (d : Day) (fu : Nat) : L21x0 env F s l d (fu + 1) =
  (bif (decide ((0 : Int) < (((Sl.len l) : Nat) : Int))) then (bif (decide ((0 : Int) < (((Sl.len (Day.press d)) : Nat) : Int))) then (bif (decide ((0 : Int) < (((Sl.len (Day.warm d)) : Nat) : Int))) then (tkOut (env 32 [(.agg (eSite s)), (.int .i64 (0 : Int)), (.agg (eSpan (Sl.el (Day.press d) 0))), (.agg (eSpan (Sl.el (Day.warm d) 0)))]) none (fun v6 => (tkBool v6 none fun b7 => (bif b7 then some (.ret (.tup [(.row true 0 0 (fun u8 => [])), (.bool false)]))
            else (bif (decide ((0 : Int) < (((Sl.len l) : Nat) : Int))) then (bif (decide ((0 : Int) < (((Sl.len (Day.press d)) : Nat) : Int))) then (bif (decide ((0 : Int) < (((Sl.len (Day.warm d)) : Nat) : Int))) then (tkOut (env 56 [(.agg (eSite s)), (.int .i64 (0 : Int)), (.agg (eStt (Sl.el l 0))), (.agg (eSpan (Sl.el (Day.press d) 0))), (.agg (eSpan (Sl.el (Day.warm d) 0)))]) none (fun v8 => (tkAgg v8 none fun l9 => (tkCons l9 none fun v10 r11 => (tkInt v10 none fun q12 n13 => (tkCons r11 none fun v14 r15 => (tkInt v14 none fun q16 n17 => (tkCons r15 none fun v18 r19 => (tkInt v18 none fun q20 n21 => (tkCons r19 none fun v22 r23 => (tkInt v22 none fun q24 n25 => (tkCons r23 none fun v26 r27 => (tkInt v26 none fun q28 n29 => (tkCons r27 none fun v30 r31 => (tkInt v30 none fun q32 n33 => (tkNil r31 none ((L21x1 env F s l d fu 1 (IntKind.wrap .i64 ((0 : Int) + (1 : Int))) 1 (fun u34 => [(.int q12 n13), (.int q16 n17), (.int q20 n21), (.int q24 n25), (.int q28 n29), (.int q32 n33)]))))))))))))))))))
                    (fun p8 => (tkIfc p8 none fun t9 x10 => (bif (flatP (.iface t9 x10)) then some (.pan (.iface t9 x10))
                        else none))))
                  else none)
                else none)
              else none))))
        (fun p6 => (tkIfc p6 none fun t7 x8 => (bif (flatP (.iface t7 x8)) then some (.pan (.iface t7 x8))
            else none))))
      else none)
    else none)
  else some (.ret (.tup [(.row true 0 0 (fun u6 => [])), (.bool true)]))) := by kernel_rfl
theorem L21x1s (env : Env) (F : Nat) (s : Site) (l : Sl Stt) (d : Day) (fu : Nat) (k0 : Nat) (i1 : Int) (k2 : Nat) (g3 : Nat → List V) : L21x1 env F s l d (fu + 1) k0 i1 k2 g3 =
  (bif (decide (i1 < (((Sl.len l) : Nat) : Int))) then (bif (decide ((0 : Int) ≤ i1)) then (bif (decide (i1 < (((Sl.len (Day.press d)) : Nat) : Int))) then (bif (decide ((0 : Int) ≤ i1)) then (bif (decide (i1 < (((Sl.len (Day.warm d)) : Nat) : Int))) then (tkOut (env 32 [(.agg (eSite s)), (.int .i64 i1), (.agg (eSpan (Sl.el (Day.press d) (Int.toNat i1)))), (.agg (eSpan (Sl.el (Day.warm d) (Int.toNat i1))))]) none (fun v10 => (tkBool v10 none fun b11 => (bif b11 then some (.ret (.tup [(.row true 0 0 (fun u12 => [])), (.bool false)]))
                else (bif (decide ((0 : Int) ≤ i1)) then (bif (decide (i1 < (((Sl.len l) : Nat) : Int))) then (bif (decide ((0 : Int) ≤ i1)) then (bif (decide (i1 < (((Sl.len (Day.press d)) : Nat) : Int))) then (bif (decide ((0 : Int) ≤ i1)) then (bif (decide (i1 < (((Sl.len (Day.warm d)) : Nat) : Int))) then (tkOut (env 56 [(.agg (eSite s)), (.int .i64 i1), (.agg (eStt (Sl.el l (Int.toNat i1)))), (.agg (eSpan (Sl.el (Day.press d) (Int.toNat i1)))), (.agg (eSpan (Sl.el (Day.warm d) (Int.toNat i1))))]) none (fun v12 => (tkAgg v12 none fun l13 => (tkCons l13 none fun v14 r15 => (tkInt v14 none fun q16 n17 => (tkCons r15 none fun v18 r19 => (tkInt v18 none fun q20 n21 => (tkCons r19 none fun v22 r23 => (tkInt v22 none fun q24 n25 => (tkCons r23 none fun v26 r27 => (tkInt v26 none fun q28 n29 => (tkCons r27 none fun v30 r31 => (tkInt v30 none fun q32 n33 => (tkCons r31 none fun v34 r35 => (tkInt v34 none fun q36 n37 => (tkNil r35 none ((bif (decide (((k0 + 1) * 48) ≤ 140737488355328)) then (L21x1 env F s l d fu (k0 + 1) (IntKind.wrap .i64 (i1 + (1 : Int))) (k0 + 1) (appGet k0 g3 (fun u38 => [(.int q16 n17), (.int q20 n21), (.int q24 n25), (.int q28 n29), (.int q32 n33), (.int q36 n37)])))
                                                            else none)))))))))))))))))
                              (fun p12 => (tkIfc p12 none fun t13 x14 => (bif (flatP (.iface t13 x14)) then some (.pan (.iface t13 x14))
                                  else none))))
                            else none)
                          else none)
                        else none)
                      else none)
                    else none)
                  else none))))
            (fun p10 => (tkIfc p10 none fun t11 x12 => (bif (flatP (.iface t11 x12)) then some (.pan (.iface t11 x12))
                else none))))
          else none)
        else none)
      else none)
    else none)
  else some (.ret (.tup [(.row false k0 6 (fun u10 => (g3 u10))), (.bool true)]))) := by kernel_rfl

theorem t41 (env : Env) (F : Nat) (s : Site) (c : Int) (p : Span) (q : Span) : (evFun Try.prog (cfg F) env 41 [(.agg (eSite s)), (.int .i64 c), (.agg (eSpan p)), (.agg (eSpan q))]) =
  (tkOut (env 48 [(.agg (eSite s))]) none (fun v6 => (tkBool v6 none fun b7 => (bif (!b7) then some (.ret (.tup [(.int .i64 (0 : Int)), (.int .i64 (2 : Int))]))
      else (tkOut (env 72 [(.int .i64 c), (.int .i64 (0 : Int)), (.int .i64 (IntKind.wrap .i64 ((((Sl.len (Site.cavs s)) : Nat) : Int) - (1 : Int))))]) none (fun v8 => (tkBool v8 none fun b9 => (bif (!b9) then some (.ret (.tup [(.int .i64 (0 : Int)), (.int .i64 (2 : Int))]))
            else (tkOut (env 74 [(.agg (eSpan p)), (.int .i64 (50000 : Int))]) none (fun v10 => (tkBool v10 none fun b11 => (bif (!b11) then some (.ret (.tup [(.int .i64 (0 : Int)), (.int .i64 (2 : Int))]))
                  else (tkOut (env 74 [(.agg (eSpan q)), (.int .i64 (10000 : Int))]) none (fun v12 => (tkBool v12 none fun b13 => (bif (!b13) then some (.ret (.tup [(.int .i64 (0 : Int)), (.int .i64 (2 : Int))]))
                        else (tkOut (env 75 [(pSite s), (.int .i64 c), (.agg (eSpan p)), (.agg (eSpan q)), (.int .i64 (60 : Int))]) none (fun v14 => (tkInt v14 none fun q15 n16 => some (.ret (.tup [(.int q15 n16), (.int .i64 (0 : Int))]))))
                          (fun p14 => (tkIfc p14 none fun t15 x16 => (bif (flatP (.iface t15 x16)) then some (.pan (.iface t15 x16))
                              else none)))))))
                    (fun p12 => (tkIfc p12 none fun t13 x14 => (bif (flatP (.iface t13 x14)) then some (.pan (.iface t13 x14))
                        else none)))))))
              (fun p10 => (tkIfc p10 none fun t11 x12 => (bif (flatP (.iface t11 x12)) then some (.pan (.iface t11 x12))
                  else none)))))))
        (fun p8 => (tkIfc p8 none fun t9 x10 => (bif (flatP (.iface t9 x10)) then some (.pan (.iface t9 x10))
            else none)))))))
  (fun p6 => (tkIfc p6 none fun t7 x8 => (bif (flatP (.iface t7 x8)) then some (.pan (.iface t7 x8))
      else none)))) := by kernel_rfl

end Go.Sim.Cr
