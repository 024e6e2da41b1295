import Derived.Test.YtmjmhccjkmjahaaGreatAc
set_option linter.unusedVariables false
set_option linter.unusedSimpArgs false
set_option linter.unusedSectionVars false

namespace Go.Sim.Cr
open Go.RowKit Go.Proofs Go.Maps
section
variable (w : World)
theorem part3 (cs : Array Value) (off : Nat) (v : Value) (h : cs[off]? = some v) : (part 3 cs off).run Tryz.prog w = .ok v w := by
 unfold part; simp [Tryz.isAgg3, h]
theorem part44 (cs : Array Value) (off : Nat) (v : Value) (h : cs[off]? = some v) : (part 44 cs off).run Tryz.prog w = .ok v w := by
 unfold part; simp [Tryz.isAgg44, h]
theorem extract2 {cs : Array Value} {off : Nat} {u v : Value} (h0 : cs[off]? = some u) (h1 : cs[off + 1]? = some v) : cs.extract off (off + 2) = #[u, v] := by
 refine Array.ext_getElem? fun i => ?_
 have hl : off + 1 < cs.size := (Array.getElem?_eq_some_iff.1 h1).1
 rw [Array.getElem?_extract]
 match i with
 | 0 => rw [if_pos (by omega)]; simpa using h0
 | 1 => rw [if_pos (by omega)]; simpa using h1
 | n + 2 => rw [if_neg (by omega)]; simp
theorem part31 (cs : Array Value) (off : Nat) (u v : Value) (h0 : cs[off]? = some u) (h1 : cs[off + 1]? = some v) : (part 31 cs off).run Tryz.prog w = .ok (.agg #[u, v]) w := by
 unfold part; simp [Tryz.isAgg31, Tryz.sizeOf31, extract2 h0 h1]
theorem int3 (d : Nat) (k : IntKind) (a b : Int) : (Op.equalIn (d + 1) 3 (.int k a) (.int k b)).run Tryz.prog w = .ok (a == b) w := run_equalIn_int w d 3 k .i64 a b Tryz.underlying3
theorem int44 (d : Nat) (k : IntKind) (a b : Int) : (Op.equalIn (d + 1) 44 (.int k a) (.int k b)).run Tryz.prog w = .ok (a == b) w := run_equalIn_int w d 44 k .i64 a b Tryz.underlying44
theorem fieldsOf_ {t : TypeId} {fs : Array Field} (h : Tryz.prog.underlying t = some (.struct fs)) : Tryz.prog.fieldsOf t = fs := by simp [Program.fieldsOf, h]
theorem eqS {d : Nat} {t : TypeId} {fs : Array Field} (xs ys : Array Value) (h : Tryz.prog.underlying t = some (.struct fs)) (hp : Tryz.prog.stoodInHeld t = false) : (Op.equalIn (d + 1) t (.agg xs) (.agg ys)).run Tryz.prog w = (Op.eqFields d xs ys fs.toList).run Tryz.prog w := by
 rw [run_equalIn_struct w d t xs ys (by rw [fieldsOf_ h]; exact h) hp, fieldsOf_ h]
theorem eqF {d : Nat} {xs ys : Array Value} {f : Field} {fs : List Field} {a b : Value} {r : Bool} (hn : f.name ≠ "_") (ha : (part f.type xs f.offset).run Tryz.prog w = .ok a w) (hb : (part f.type ys f.offset).run Tryz.prog w = .ok b w)
  (he : (Op.equalIn d f.type a b).run Tryz.prog w = .ok r w) {q : Bool} (hr : (Op.eqFields d xs ys fs).run Tryz.prog w = .ok q w) : (Op.eqFields d xs ys (f :: fs)).run Tryz.prog w = .ok (r && q) w := by
 simp only [Op.eqFields, if_pos hn, Sem.run_bind, ha, hb, he, Result.andThen_ok]
 cases r
 ·simp
 ·simp [hr]
theorem eqN {d : Nat} {xs ys : Array Value} : (Op.eqFields d xs ys []).run Tryz.prog w = .ok true w := rfl
set_option maxRecDepth 100000 in
theorem eq31 (d : Nat) (k0 k1 : IntKind) (a b c e : Int) : (Op.equalIn (d + 2) 31 (.agg #[.int k0 a, .int k1 b]) (.agg #[.int k0 c, .int k1 e])).run Tryz.prog w = .ok (a == c && (b == e && true)) w :=
 (eqS w _ _ Tryz.underlying31 Tryz.stoodInHeld31).trans (eqF w (by simp) (part3 w _ _ _ rfl) (part3 w _ _ _ rfl) (int3 ..) (eqF w (by simp) (part3 w _ _ _ rfl) (part3 w _ _ _ rfl) (int3 ..) (eqN w)))
set_option maxRecDepth 100000 in
theorem eq46 (d : Nat) (k0 k1 k2 k3 : IntKind) (a0 a1 a2 a3 b0 b1 b2 b3 : Int) : (Op.equalIn (d + 2) 46 (.agg #[.int k0 a0, .int k1 a1, .int k2 a2, .int k3 a3]) (.agg #[.int k0 b0, .int k1 b1, .int k2 b2, .int k3 b3])).run Tryz.prog w =
  .ok (a0 == b0 && (a1 == b1 && (a2 == b2 && (a3 == b3 && true)))) w := by
 rw [eqS w (d := d + 1) _ _ Tryz.underlying46 Tryz.stoodInHeld46]
 refine eqF w ?_ (part3 w _ _ (.int k0 a0) ?_) (part3 w _ _ (.int k0 b0) ?_) (int3 w d k0 a0 b0) (eqF w ?_ (part44 w _ _ (.int k1 a1) ?_) (part44 w _ _ (.int k1 b1) ?_) (int44 w d k1 a1 b1)
  (eqF w ?_ (part3 w _ _ (.int k2 a2) ?_) (part3 w _ _ (.int k2 b2) ?_) (int3 w d k2 a2 b2) (eqF w ?_ (part3 w _ _ (.int k3 a3) ?_) (part3 w _ _ (.int k3 b3) ?_) (int3 w d k3 a3 b3) (eqN w))))
 all_goals simp
set_option maxRecDepth 100000 in
theorem eq67 (d : Nat) (k0 k1 k2 k3 k4 k5 : IntKind) (a0 a1 a2 a3 a4 a5 b0 b1 b2 b3 b4 b5 : Int) : (Op.equalIn (d + 3) 67 (.agg #[.int k0 a0, .int k1 a1, .int k2 a2, .int k3 a3, .int k4 a4, .int k5 a5]) (.agg #[.int k0 b0, .int k1 b1, .int k2 b2, .int k3 b3, .int k4 b4, .int k5 b5])).run Tryz.prog w =
  .ok ((a0 == b0 && (a1 == b1 && true)) && ((a2 == b2 && (a3 == b3 && true)) && ((a4 == b4 && (a5 == b5 && true)) && true))) w :=
 (eqS w _ _ Tryz.underlying67 Tryz.stoodInHeld67).trans (eqF w (by simp) (part31 w _ _ _ _ rfl rfl) (part31 w _ _ _ _ rfl rfl) (eq31 w d k0 k1 ..) (eqF w (by simp) (part31 w _ _ _ _ rfl rfl) (part31 w _ _ _ _ rfl rfl) (eq31 w d k2 k3 ..)
  (eqF w (by simp) (part31 w _ _ _ _ rfl rfl) (part31 w _ _ _ _ rfl rfl) (eq31 w d k4 k5 ..) (eqN w))))
set_option maxRecDepth 100000 in
theorem okEq : OkEq Tryz.prog eqT := by
 intro t op xs ys x y w bs cs r het hcs pv ρ hx hy
 obtain ⟨l, rfl, rfl, rfl⟩ := eqCs_inv hcs
 have hx' := relL_ints (l := l.map fun p => (p.1, p.2.1)) (by simpa [List.map_map, Function.comp_def] using hx)
 have hy' := relL_ints (l := l.map fun p => (p.1, p.2.2)) (by simpa [List.map_map, Function.comp_def] using hy)
 subst hx' hy'
 clear hx hy hcs
 have fin : Tryz.prog.eqGuardType Tryz.prog.depth t = false → (Op.equalIn 10000 t (.agg ((l.map fun p => (p.1, p.2.1)).map fun p => Value.int p.1 p.2).toArray) (.agg ((l.map fun p => (p.1, p.2.2)).map fun p => Value.int p.1 p.2).toArray)).run Tryz.prog w = .ok (l.all fun p => p.2.1 == p.2.2) w →
   (op = .eql → (do eqGuard op t x y (.agg ((l.map fun p => (p.1, p.2.1)).map fun p => Value.int p.1 p.2).toArray) (.agg ((l.map fun p => (p.1, p.2.2)).map fun p => Value.int p.1 p.2).toArray); binOp op t (.agg ((l.map fun p => (p.1, p.2.1)).map fun p => Value.int p.1 p.2).toArray) (.agg ((l.map fun p => (p.1, p.2.2)).map fun p => Value.int p.1 p.2).toArray) : Sem Value).run Tryz.prog w = .ok (.bool (l.all fun p => p.2.1 == p.2.2)) w) ∧
   (op = .neq → (do eqGuard op t x y (.agg ((l.map fun p => (p.1, p.2.1)).map fun p => Value.int p.1 p.2).toArray) (.agg ((l.map fun p => (p.1, p.2.2)).map fun p => Value.int p.1 p.2).toArray); binOp op t (.agg ((l.map fun p => (p.1, p.2.1)).map fun p => Value.int p.1 p.2).toArray) (.agg ((l.map fun p => (p.1, p.2.2)).map fun p => Value.int p.1 p.2).toArray) : Sem Value).run Tryz.prog w = .ok (.bool (!(l.all fun p => p.2.1 == p.2.2))) w) := by
  intro hg he
  constructor
  ·rintro rfl
   rw [Sem.run_bind, run_eqGuard_agg w _ _ _ _ _ _ hg, Result.andThen_ok, run_eql_struct, he]; rfl
  ·rintro rfl
   rw [Sem.run_bind, run_eqGuard_agg w _ _ _ _ _ _ hg, Result.andThen_ok, run_neq_struct, he]; rfl
 simp only [eqT, Bool.or_eq_true, Bool.and_eq_true, beq_iff_eq, List.length_map] at het
 have l2 : l.length = 2 → ∃ p0 p1, l = [p0, p1] := fun h => by match l, h with | [p0, p1], _ => exact ⟨p0, p1, rfl⟩
 have l4 : l.length = 4 → ∃ p0 p1 p2 p3, l = [p0, p1, p2, p3] := fun h => by match l, h with | [p0, p1, p2, p3], _ => exact ⟨p0, p1, p2, p3, rfl⟩
 have l6 : l.length = 6 → ∃ p0 p1 p2 p3 p4 p5, l = [p0, p1, p2, p3, p4, p5] := fun h => by match l, h with | [p0, p1, p2, p3, p4, p5], _ => exact ⟨p0, p1, p2, p3, p4, p5, rfl⟩
 rcases het with (⟨rfl, hl⟩ | ⟨rfl, hl⟩) | ⟨rfl, hl⟩
 ·obtain ⟨p0, p1, rfl⟩ := l2 hl
  exact fin Tryz.eqGuardType31 (eq31 w 9998 p0.1 p1.1 p0.2.1 p1.2.1 p0.2.2 p1.2.2)
 ·obtain ⟨p0, p1, p2, p3, p4, p5, rfl⟩ := l6 hl
  refine fin Tryz.eqGuardType67 ((eq67 w 9997 p0.1 p1.1 p2.1 p3.1 p4.1 p5.1 p0.2.1 p1.2.1 p2.2.1 p3.2.1 p4.2.1 p5.2.1 p0.2.2 p1.2.2 p2.2.2 p3.2.2 p4.2.2 p5.2.2).trans ?_)
  simp [Bool.and_assoc]
 ·obtain ⟨p0, p1, p2, p3, rfl⟩ := l4 hl
  exact fin Tryz.eqGuardType46 (eq46 w 9998 p0.1 p1.1 p2.1 p3.1 p0.2.1 p1.2.1 p2.2.1 p3.2.1 p0.2.2 p1.2.2 p2.2.2 p3.2.2)
end
theorem laid : laidOutB Tryz.prog = true := by kernel_rfl
theorem wf_mk {x : Int} (h1 : IntKind.i64.min ≤ x) (h2 : x ≤ IntKind.i64.max) : (Lit.int .i64 x).wf = true := by
 unfold Lit.wf
 simp only [Bool.and_eq_true, decide_eq_true_eq]
 exact ⟨h1, h2⟩
theorem ks_ints : ∀ (n : Nat) (cs : List V), kssB (List.replicate n (.int .i64)) cs = true → ∃ l : List Int, cs = l.map (fun x => V.int .i64 x) ∧ l.length = n ∧ ∀ x ∈ l, (Lit.int .i64 x).wf = true
 | 0, [], _ => ⟨[], rfl, rfl, fun _ h => by simp at h⟩
 | 0, _ :: _, h => by simp [kssB] at h
 | n + 1, [], h => by simp [List.replicate, kssB] at h
 | n + 1, c :: cs, h => by
  simp only [List.replicate, kssB, Bool.and_eq_true] at h
  obtain ⟨h1, h2⟩ := h
  obtain ⟨l, rfl, hl, hw⟩ := ks_ints n cs h2
  cases c with
  | int q x =>
   simp only [ksB, Bool.and_eq_true, decide_eq_true_eq] at h1
   obtain ⟨rfl, h3, h4⟩ := h1
   refine ⟨x :: l, rfl, by simp [hl], fun y hy => ?_⟩
   rcases List.mem_cons.1 hy with rfl | hy
   ·exact wf_mk h3 h4
   ·exact hw y hy
  | _ => simp [ksB] at h1
theorem ag_ints {t : TypeId} {n : Nat} (ha : aggT Tryz.prog t = true) (hk : kssOf Tryz.prog 12 t = List.replicate n (.int .i64)) {w : World} {pv : Nat → Prop} {ρ : Nat → Option Info} {v : Value} {c : V} (hr : Rel w pv ρ v c) (h : keyB (aggT Tryz.prog t) (kssOf Tryz.prog 12 t) c = true) :
  ∃ l : List Int, v = .agg (l.map fun x => Value.int .i64 x).toArray ∧ l.length = n ∧ ∀ x ∈ l, (Lit.int .i64 x).wf = true := by
 rw [ha, hk] at h
 cases c with
 | agg cs =>
  simp only [keyB, Bool.true_and] at h
  obtain ⟨l, rfl, hl, hw⟩ := ks_ints n cs h
  refine ⟨l, ?_, hl, hw⟩
  cases hr with
  | agg h1 h2 =>
   rename_i vs
   have := relL_ints (l := l.map fun x => (IntKind.i64, x)) (w := w) (pv := pv) (ρ := ρ) (vs := vs) ⟨by simpa using h1, fun i v c g1 g2 => h2 i v c g1 (by simpa using g2)⟩
   rw [this]; simp [Function.comp_def]
 | _ => simp [keyB] at h
theorem lits1 {d : Nat} {x : Int} (h : (Lit.int .i64 x).wf = true) : Tryz.prog.keyLits (d + 1) 3 [.int .i64 x] = some [.int .i64 x] := by
 unfold Program.keyLits
 rw [Tryz.underlying3]
 simp [h]
theorem cells3 : Tryz.prog.cellsOf 3 = 1 := by kernel_rfl
theorem cells31 : Tryz.prog.cellsOf 31 = 2 := by kernel_rfl
theorem cells67 : Tryz.prog.cellsOf 67 = 6 := by kernel_rfl
theorem cells79 : Tryz.prog.cellsOf 79 = 30 := by kernel_rfl
theorem cells81 : Tryz.prog.cellsOf 81 = 32 := by kernel_rfl
theorem tys : ∃ n, Tryz.prog.types.size = n + 9 := by
 have h : 9 ≤ Tryz.prog.types.size := by decide +kernel
 exact ⟨Tryz.prog.types.size - 9, by omega⟩
set_option maxRecDepth 100000 in
theorem lits31 {d : Nat} {x0 x1 : Int} (hx0 : (Lit.int .i64 x0).wf = true) (hx1 : (Lit.int .i64 x1).wf = true) : Tryz.prog.keyLits (d + 2) 31 [.int .i64 x0, .int .i64 x1] = some [.int .i64 x0, .int .i64 x1] := by
 unfold Program.keyLits
 simp only [Tryz.underlying31, cells31]
 rw [if_pos ⟨rfl, by decide +kernel⟩]
 simp [cells3, lits1 hx0, lits1 hx1]
set_option maxRecDepth 100000 in
theorem lits67 {d : Nat} {x0 x1 x2 x3 x4 x5 : Int} (hx0 : (Lit.int .i64 x0).wf = true) (hx1 : (Lit.int .i64 x1).wf = true) (hx2 : (Lit.int .i64 x2).wf = true) (hx3 : (Lit.int .i64 x3).wf = true) (hx4 : (Lit.int .i64 x4).wf = true) (hx5 : (Lit.int .i64 x5).wf = true) : Tryz.prog.keyLits (d + 3) 67 [.int .i64 x0, .int .i64 x1, .int .i64 x2, .int .i64 x3, .int .i64 x4, .int .i64 x5] = some [.int .i64 x0, .int .i64 x1, .int .i64 x2, .int .i64 x3, .int .i64 x4, .int .i64 x5] := by
 unfold Program.keyLits
 simp only [Tryz.underlying67, cells67]
 rw [if_pos ⟨rfl, by decide +kernel⟩]
 simp [cells31, lits31 hx0 hx1, lits31 hx2 hx3, lits31 hx4 hx5]
set_option maxRecDepth 100000 in
theorem lits79 {d : Nat} {x0 x1 x2 x3 x4 x5 x6 x7 x8 x9 x10 x11 x12 x13 x14 x15 x16 x17 x18 x19 x20 x21 x22 x23 x24 x25 x26 x27 x28 x29 : Int} (hx0 : (Lit.int .i64 x0).wf = true) (hx1 : (Lit.int .i64 x1).wf = true) (hx2 : (Lit.int .i64 x2).wf = true) (hx3 : (Lit.int .i64 x3).wf = true) (hx4 : (Lit.int .i64 x4).wf = true) (hx5 : (Lit.int .i64 x5).wf = true) (hx6 : (Lit.int .i64 x6).wf = true) (hx7 : (Lit.int .i64 x7).wf = true) (hx8 : (Lit.int .i64 x8).wf = true) (hx9 : (Lit.int .i64 x9).wf = true) (hx10 : (Lit.int .i64 x10).wf = true) (hx11 : (Lit.int .i64 x11).wf = true) (hx12 : (Lit.int .i64 x12).wf = true) (hx13 : (Lit.int .i64 x13).wf = true) (hx14 : (Lit.int .i64 x14).wf = true) (hx15 : (Lit.int .i64 x15).wf = true) (hx16 : (Lit.int .i64 x16).wf = true) (hx17 : (Lit.int .i64 x17).wf = true) (hx18 : (Lit.int .i64 x18).wf = true) (hx19 : (Lit.int .i64 x19).wf = true) (hx20 : (Lit.int .i64 x20).wf = true) (hx21 : (Lit.int .i64 x21).wf = true) (hx22 : (Lit.int .i64 x22).wf = true) (hx23 : (Lit.int .i64 x23).wf = true) (hx24 : (Lit.int .i64 x24).wf = true) (hx25 : (Lit.int .i64 x25).wf = true) (hx26 : (Lit.int .i64 x26).wf = true) (hx27 : (Lit.int .i64 x27).wf = true) (hx28 : (Lit.int .i64 x28).wf = true) (hx29 : (Lit.int .i64 x29).wf = true) : Tryz.prog.keyLits (d + 4) 79 [.int .i64 x0, .int .i64 x1, .int .i64 x2, .int .i64 x3, .int .i64 x4, .int .i64 x5, .int .i64 x6, .int .i64 x7, .int .i64 x8, .int .i64 x9, .int .i64 x10, .int .i64 x11, .int .i64 x12, .int .i64 x13, .int .i64 x14, .int .i64 x15, .int .i64 x16, .int .i64 x17, .int .i64 x18, .int .i64 x19, .int .i64 x20, .int .i64 x21, .int .i64 x22, .int .i64 x23, .int .i64 x24, .int .i64 x25, .int .i64 x26, .int .i64 x27, .int .i64 x28, .int .i64 x29] = some [.int .i64 x0, .int .i64 x1, .int .i64 x2, .int .i64 x3, .int .i64 x4, .int .i64 x5, .int .i64 x6, .int .i64 x7, .int .i64 x8, .int .i64 x9, .int .i64 x10, .int .i64 x11, .int .i64 x12, .int .i64 x13, .int .i64 x14, .int .i64 x15, .int .i64 x16, .int .i64 x17, .int .i64 x18, .int .i64 x19, .int .i64 x20, .int .i64 x21, .int .i64 x22, .int .i64 x23, .int .i64 x24, .int .i64 x25, .int .i64 x26, .int .i64 x27, .int .i64 x28, .int .i64 x29] := by
 unfold Program.keyLits
 simp only [Tryz.underlying79, cells79]
 rw [if_pos (by simp), show List.range 5 = [0, 1, 2, 3, 4] from rfl]
 simp [cells67, lits67 hx0 hx1 hx2 hx3 hx4 hx5, lits67 hx6 hx7 hx8 hx9 hx10 hx11, lits67 hx12 hx13 hx14 hx15 hx16 hx17, lits67 hx18 hx19 hx20 hx21 hx22 hx23, lits67 hx24 hx25 hx26 hx27 hx28 hx29]
set_option maxRecDepth 100000 in
theorem lits81 {d : Nat} {x0 x1 x2 x3 x4 x5 x6 x7 x8 x9 x10 x11 x12 x13 x14 x15 x16 x17 x18 x19 x20 x21 x22 x23 x24 x25 x26 x27 x28 x29 x30 x31 : Int} (hx0 : (Lit.int .i64 x0).wf = true) (hx1 : (Lit.int .i64 x1).wf = true) (hx2 : (Lit.int .i64 x2).wf = true) (hx3 : (Lit.int .i64 x3).wf = true) (hx4 : (Lit.int .i64 x4).wf = true) (hx5 : (Lit.int .i64 x5).wf = true) (hx6 : (Lit.int .i64 x6).wf = true) (hx7 : (Lit.int .i64 x7).wf = true) (hx8 : (Lit.int .i64 x8).wf = true) (hx9 : (Lit.int .i64 x9).wf = true) (hx10 : (Lit.int .i64 x10).wf = true) (hx11 : (Lit.int .i64 x11).wf = true) (hx12 : (Lit.int .i64 x12).wf = true) (hx13 : (Lit.int .i64 x13).wf = true) (hx14 : (Lit.int .i64 x14).wf = true) (hx15 : (Lit.int .i64 x15).wf = true) (hx16 : (Lit.int .i64 x16).wf = true) (hx17 : (Lit.int .i64 x17).wf = true) (hx18 : (Lit.int .i64 x18).wf = true) (hx19 : (Lit.int .i64 x19).wf = true) (hx20 : (Lit.int .i64 x20).wf = true) (hx21 : (Lit.int .i64 x21).wf = true) (hx22 : (Lit.int .i64 x22).wf = true) (hx23 : (Lit.int .i64 x23).wf = true) (hx24 : (Lit.int .i64 x24).wf = true) (hx25 : (Lit.int .i64 x25).wf = true) (hx26 : (Lit.int .i64 x26).wf = true) (hx27 : (Lit.int .i64 x27).wf = true) (hx28 : (Lit.int .i64 x28).wf = true) (hx29 : (Lit.int .i64 x29).wf = true) (hx30 : (Lit.int .i64 x30).wf = true) (hx31 : (Lit.int .i64 x31).wf = true) : Tryz.prog.keyLits (d + 5) 81 [.int .i64 x0, .int .i64 x1, .int .i64 x2, .int .i64 x3, .int .i64 x4, .int .i64 x5, .int .i64 x6, .int .i64 x7, .int .i64 x8, .int .i64 x9, .int .i64 x10, .int .i64 x11, .int .i64 x12, .int .i64 x13, .int .i64 x14, .int .i64 x15, .int .i64 x16, .int .i64 x17, .int .i64 x18, .int .i64 x19, .int .i64 x20, .int .i64 x21, .int .i64 x22, .int .i64 x23, .int .i64 x24, .int .i64 x25, .int .i64 x26, .int .i64 x27, .int .i64 x28, .int .i64 x29, .int .i64 x30, .int .i64 x31] = some [.int .i64 x0, .int .i64 x1, .int .i64 x2, .int .i64 x3, .int .i64 x4, .int .i64 x5, .int .i64 x6, .int .i64 x7, .int .i64 x8, .int .i64 x9, .int .i64 x10, .int .i64 x11, .int .i64 x12, .int .i64 x13, .int .i64 x14, .int .i64 x15, .int .i64 x16, .int .i64 x17, .int .i64 x18, .int .i64 x19, .int .i64 x20, .int .i64 x21, .int .i64 x22, .int .i64 x23, .int .i64 x24, .int .i64 x25, .int .i64 x26, .int .i64 x27, .int .i64 x28, .int .i64 x29, .int .i64 x30, .int .i64 x31] := by
 unfold Program.keyLits
 simp only [Tryz.underlying81, cells81]
 rw [if_pos ⟨rfl, by decide +kernel⟩]
 simp [cells3, cells79, lits1 hx0, lits1 hx1, lits79 hx2 hx3 hx4 hx5 hx6 hx7 hx8 hx9 hx10 hx11 hx12 hx13 hx14 hx15 hx16 hx17 hx18 hx19 hx20 hx21 hx22 hx23 hx24 hx25 hx26 hx27 hx28 hx29 hx30 hx31]
set_option maxRecDepth 100000 in
theorem key81 {w : World} {pv : Nat → Prop} {ρ : Nat → Option Info} {v : Value} {c : V} (hr : Rel w pv ρ v c) (h : keyB (aggT Tryz.prog 81) (kssOf Tryz.prog 12 81) c = true) : ∃ l, keyOf Tryz.prog 81 v = some l := by
 obtain ⟨l, rfl, hl, hw⟩ := ag_ints (n := 32) (by kernel_rfl) (by kernel_rfl) hr h
 match l, hl with
 | [x0, x1, x2, x3, x4, x5, x6, x7, x8, x9, x10, x11, x12, x13, x14, x15, x16, x17, x18, x19, x20, x21, x22, x23, x24, x25, x26, x27, x28, x29, x30, x31], _ =>
  obtain ⟨n, hn⟩ := tys
  unfold keyOf
  simp only [Tryz.underlying81]
  rw [if_pos (by rw [Bool.and_eq_true]; exact ⟨by kernel_rfl, by simp [Value.formed, Tryz.underlying81, cells81]⟩), hn]
  simp only [List.map, Value.cells, lits81 (d := n + 5) (hw x0 (by simp)) (hw x1 (by simp)) (hw x2 (by simp)) (hw x3 (by simp)) (hw x4 (by simp)) (hw x5 (by simp)) (hw x6 (by simp)) (hw x7 (by simp)) (hw x8 (by simp)) (hw x9 (by simp)) (hw x10 (by simp)) (hw x11 (by simp)) (hw x12 (by simp)) (hw x13 (by simp)) (hw x14 (by simp)) (hw x15 (by simp)) (hw x16 (by simp)) (hw x17 (by simp)) (hw x18 (by simp)) (hw x19 (by simp)) (hw x20 (by simp)) (hw x21 (by simp)) (hw x22 (by simp)) (hw x23 (by simp)) (hw x24 (by simp)) (hw x25 (by simp)) (hw x26 (by simp)) (hw x27 (by simp)) (hw x28 (by simp)) (hw x29 (by simp)) (hw x30 (by simp)) (hw x31 (by simp)), Option.map_some]
  exact ⟨_, rfl⟩
theorem okX : OkX Tryz.prog opt := by
 refine ⟨okEq, fun t ht => ?_, fun t ht w pv ρ v c hr hk => ?_⟩
 ·simp only [opt, keyT, beq_iff_eq] at ht
  subst ht
  exact Keyed.of_law (deep_law_laid laid (m := 6) (by omega) (by decide +kernel) (by kernel_rfl) (by kernel_rfl))
 ·simp only [opt, keyT, beq_iff_eq] at ht
  subst ht
  exact key81 hr hk
theorem okCfg (F : Nat) : OkCfg Tryz.prog (cfg F) := fun _ => okX
theorem okE (F d : Nat) : OkEnv Tryz.prog (E F d) := envN_ok (okCfg F) names d
end Go.Sim.Cr


namespace Go.Sim.Cr
structure Span where
 lo : Int
 hi : Int
structure Sl (α : Type) where
 nl : Bool
 len : Nat
 el : Nat → α
structure Cav where
 x : Int
 y : Int
 rad : Span
 vol : Span
 rock : Int
 floor : Int
 gate : Span
 change : Int
structure Row where
 deficit : Int
 rate : Span
 spall : Span
structure Heat where
 warmth : Int
 factor : Span
structure Ring where
 away : Int
 share : Span
structure House where
 x : Int
 y : Int
 most : Int
structure Site where
 cavs : Sl Cav
 rows : Sl Row
 heats : Sl Heat
 wall : Int
 rings : Sl Ring
 houses : Sl House
structure Stt where
 rad : Span
 vol : Span
 lost : Span
structure Day where
 press : Sl Span
 warm : Sl Span
structure Fault where
 day : Int
 rule : Int
 of : Int
 wth : Int
structure Truth where
 rad : Int
 vol : Int
 lost : Int
structure Mark where
 at_ : Int
 wth : Int
 possible : Bool
 certain : Bool
abbrev i64 (n : Int) : V := .int .i64 n
abbrev eInt (n : Int) : List V := [.int .i64 n]
abbrev eSpan (s : Span) : List V := [.int .i64 s.lo, .int .i64 s.hi]
abbrev eCav (c : Cav) : List V := [.int .i64 c.x, .int .i64 c.y, .int .i64 c.rad.lo, .int .i64 c.rad.hi, .int .i64 c.vol.lo, .int .i64 c.vol.hi, .int .i64 c.rock, .int .i64 c.floor, .int .i64 c.gate.lo, .int .i64 c.gate.hi, .int .i64 c.change]
abbrev eRow (r : Row) : List V := [.int .i64 r.deficit, .int .i64 r.rate.lo, .int .i64 r.rate.hi, .int .i64 r.spall.lo, .int .i64 r.spall.hi]
abbrev eHeat (h : Heat) : List V := [.int .i64 h.warmth, .int .i64 h.factor.lo, .int .i64 h.factor.hi]
abbrev eRing (r : Ring) : List V := [.int .i64 r.away, .int .i64 r.share.lo, .int .i64 r.share.hi]
abbrev eHouse (h : House) : List V := [.int .i64 h.x, .int .i64 h.y, .int .i64 h.most]
abbrev eStt (s : Stt) : List V := [.int .i64 s.rad.lo, .int .i64 s.rad.hi, .int .i64 s.vol.lo, .int .i64 s.vol.hi, .int .i64 s.lost.lo, .int .i64 s.lost.hi]
abbrev eFault (f : Fault) : List V := [.int .i64 f.day, .int .i64 f.rule, .int .i64 f.of, .int .i64 f.wth]
abbrev eTruth (t : Truth) : List V := [.int .i64 t.rad, .int .i64 t.vol, .int .i64 t.lost]
abbrev eMark (m : Mark) : List V := [.int .i64 m.at_, .int .i64 m.wth, .bool m.possible, .bool m.certain]
abbrev sl {α : Type} (e : α → List V) (wd : Nat) (s : Sl α) : V := .row s.nl s.len wd fun i => e (s.el i)
abbrev eIL (s : Sl Int) : List V := [sl eInt 1 s]
abbrev eSite (s : Site) : List V := [sl eCav 11 s.cavs, sl eRow 5 s.rows, sl eHeat 3 s.heats, .int .i64 s.wall, sl eRing 3 s.rings, sl eHouse 3 s.houses]
abbrev eDay (d : Day) : List V := [sl eSpan 2 d.press, sl eSpan 2 d.warm]
structure Rw where
 nl : Bool
 len : Nat
 wd : Nat
 get : Nat → List V
abbrev eRw (r : Rw) : List V := [.row r.nl r.len r.wd r.get]
abbrev pSite (s : Site) : V := .rptr 1 6 (fun _ => eSite s) 0 0
structure Today where
 s : Site
 d : Day
 before : Sl Span
 behind : Sl Stt
abbrev eToday (t : Today) : List V := [pSite t.s, sl eSpan 2 t.d.press, sl eSpan 2 t.d.warm, sl eSpan 2 t.before, sl eStt 6 t.behind]
abbrev pToday (t : Today) : V := .rptr 1 5 (fun _ => eToday t) 0 0
abbrev cMap (g : Nat) (s : Site) : V := .fn (.func g) [] [.rptr 1 1 (fun _ => [pSite s]) 0 0]
abbrev pK : V → Option Out := fun p => tkIfc p none fun t x => bif flatP (.iface t x) then some (.pan (.iface t x)) else none
abbrev nK {α : Type} : V → Option α := fun p => tkIfc p none fun t x => bif flatP (.iface t x) then none else none
abbrev rg (x : Int) : Bool := (decide ((-((2 : Int) ^ 63)) ≤ x)) && (decide (x ≤ (((2 : Int) ^ 63) - (1 : Int))))
abbrev K3w : List KS := [KS.int .i64, KS.int .i64, KS.int .i64, KS.int .i64, KS.int .i64, KS.int .i64, KS.int .i64, KS.int .i64, KS.int .i64, KS.int .i64, KS.int .i64, KS.int .i64, KS.int .i64, KS.int .i64, KS.int .i64, KS.int .i64, KS.int .i64, KS.int .i64, KS.int .i64, KS.int .i64, KS.int .i64, KS.int .i64, KS.int .i64, KS.int .i64, KS.int .i64, KS.int .i64, KS.int .i64, KS.int .i64, KS.int .i64, KS.int .i64, KS.int .i64, KS.int .i64]
end Go.Sim.Cr
