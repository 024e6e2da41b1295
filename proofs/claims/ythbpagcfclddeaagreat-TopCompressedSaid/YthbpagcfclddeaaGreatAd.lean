import Derived.Test.YthbpagcfclddeaaGreatAc
import Derived.RangeFuncIn
import Derived.RangeFuncLeaves
import Derived.RangeFuncRecord
import Derived.Laws.StructEq
import Derived.Carry
import Derived.ChangeArms
import Derived.ProofKit
import Derived.OpenShut
import Derived.SizedLaws
import Derived.Test.YthbpagcfclddeaaGreatProg
import Derived.KernelRfl
import Derived.DeepKeys4
import Derived.Maps.Keyed
import Derived.IntWalk
set_option linter.unusedVariables false
set_option linter.unusedSimpArgs false
set_option linter.unusedSectionVars false

namespace Go.Sim
open Go.RowKit
section
variable {P : Program} {N : Nat → Prop} {w : World} {pv : Nat → Prop} {ρ : Nat → Option Info} {hp : List Slot} {a : Act}
theorem marks_inv {lo : Nat} {ds : List Deferred} (h : DfR (some lo) N w pv ρ ds []) : ∃ Ds : List Nat, ds = Ds.map mkD ∧ Ds.Nodup ∧ ∀ D ∈ Ds, lo ≤ D ∧ ¬ N D ∧ w.heap[D]? = some (.deferred (some [])) := by
 generalize hcs : ([] : List V) = cs at h
 induction h with
 | nil => exact ⟨[], rfl, List.nodup_nil, fun D h => by cases h⟩
 | cons h t ih => cases hcs
 | @mark D ds cs lo' hm hlo hD h hne t ih =>
  injection hm with hm
  subst hm
  obtain ⟨Ds, h1, h2, h3⟩ := ih hcs
  refine ⟨D :: Ds, by rw [h1]; rfl, List.nodup_cons.2 ⟨fun hx => hne (by rw [h1]; exact List.mem_map.2 ⟨D, hx, rfl⟩), h2⟩, fun D' hD' => ?_⟩
  rcases List.mem_cons.1 hD' with rfl | hD'
  ·exact ⟨hlo, hD, h⟩
  ·exact h3 D' hD'
theorem marks_mk {lo : Nat} : ∀ {Ds : List Nat}, Ds.Nodup → (∀ D ∈ Ds, lo ≤ D ∧ ¬ N D ∧ w.heap[D]? = some (.deferred (some []))) → DfR (some lo) N w pv ρ (Ds.map mkD) [] := by
 intro Ds
 induction Ds with
 | nil => intro _ _; exact .nil
 | cons D Ds ih =>
  intro hnd h
  refine .mark rfl (h D (List.mem_cons_self ..)).1 (h D (List.mem_cons_self ..)).2.1 (h D (List.mem_cons_self ..)).2.2 (fun hx => ?_) (ih (List.nodup_cons.1 hnd).2 fun D' h' => h D' (List.mem_cons_of_mem _ h'))
  obtain ⟨D', hD', e⟩ := List.mem_map.1 hx
  injection e with e1 _
  injection e1 with e1
  subst e1
  exact (List.nodup_cons.1 hnd).1 hD'
theorem setPs_rel : ∀ (ps : List Nat) (vs : List Value) (args : List V) (ts : Array Value) (tm : List V), (∀ (i : Nat) v c, vs[i]? = some v → args[i]? = some c → Rel w pv ρ v c) → vs.length = args.length → RelL w pv ρ ts tm →
  RelL w pv ρ ((ps.zip vs).foldl (fun t (p, v) => t.setIfInBounds p v) ts) (setPs ps args tm) := by
 intro ps
 induction ps with
 | nil => intro vs args ts tm _ _ h; cases args <;> exact h
 | cons p ps ih =>
  intro vs args ts tm hv hl h
  cases vs with
  | nil =>
   cases args with
   | nil => exact h
   | cons c args => simp at hl
  | cons v vs =>
   cases args with
   | nil => simp at hl
   | cons c args =>
    simp only [List.zip_cons_cons, List.foldl_cons, setPs]
    refine ih vs args _ _ (fun i v' c' h1 h2 => hv (i + 1) v' c' (by simpa using h1) (by simpa using h2)) (by simpa using hl) ?_
    exact put_rel (a := { tmps := ts, defers := [] }) h (hv 0 v c rfl rfl) (some p)
def recSt : Option (Option Nat) → LoopState
 | none => .ready
 | some _ => .done
def recPe : Option (Option Nat) → Option Code
 | none => none
 | some none => some .ret
 | some (some id) => some (.exit id)
theorem yldRel_inv {b r : Nat} (h : Rel w pv ρ (.func (.yield r) #[] #[]) (.yld b)) : ρ b = some ⟨r, 0, 0⟩ := by cases h with | yld h => exact h
theorem relL_app {xs ys : Array Value} {cs ds : List V} (h1 : RelL w pv ρ xs cs) (h2 : RelL w pv ρ ys ds) : RelL w pv ρ (xs ++ ys) (cs ++ ds) := by
 refine ⟨by simp [h1.1, h2.1], fun i v c g1 g2 => ?_⟩
 rw [Array.getElem?_append] at g1
 rw [List.getElem?_append, ← h1.1] at g2
 split at g1
 ·rename_i hlt
  rw [if_pos hlt] at g2
  exact h1.2 i v c g1 g2
 ·rename_i hlt
  rw [if_neg hlt] at g2
  exact h2.2 _ v c g1 g2
theorem relL_take {xs ys : Array Value} {cs : List V} {m : Nat} (h : RelL w pv ρ (xs ++ ys) cs) (hm : xs.size = m) : RelL w pv ρ xs (cs.take m) ∧ RelL w pv ρ ys (cs.drop m) := by
 have hl : xs.size + ys.size = cs.length := by have := h.1; simpa using this
 constructor
 ·refine ⟨by simp; omega, fun i v c g1 g2 => ?_⟩
  have hi : i < xs.size := (Array.getElem?_eq_some_iff.1 g1).1
  rw [List.getElem?_take_of_lt (by omega)] at g2
  exact h.2 i v c (by rw [Array.getElem?_append_left hi]; exact g1) g2
 ·refine ⟨by simp; omega, fun i v c g1 g2 => ?_⟩
  rw [List.getElem?_drop] at g2
  refine h.2 (m + i) v c ?_ g2
  rw [Array.getElem?_append_right (by omega), ← hm, Nat.add_sub_cancel_left]
  exact g1
theorem keeps_put {w0 w : World} {pv0 : Nat → Prop} (h : Keeps pv0 w0 w) {L : Nat} (hN : w0.heap.size ≤ L) (o' : Obj) : Keeps pv0 w0 (w.putObj L o') := by
 have e : ∀ r, r < w0.heap.size → (w.putObj L o').heap[r]? = w.heap[r]? := fun r hr => World.putObj_heap_other (by omega)
 exact ⟨by rw [World.putObj_size]; exact h.size, fun r hr hp => (e r hr).trans (h.block r hr hp), fun r cs t hp hc => by
  obtain ⟨cs', h1, h2⟩ := h.own r cs t hp hc
  exact ⟨cs', (e r (lt_of_block hc)).trans h1, h2⟩, fun r o h1 h2 h3 => (e r (lt_of_block h1)).trans (h.other r o h1 h2 h3)⟩
theorem Nw.put_ {w0 : World} {pv0 : Nat → Prop} {cx cx' : Cx} {st : St} {L : Nat} {o o' : Obj} (h : Nw N w0 pv0 cx st a w pv ρ) (hN : w0.heap.size ≤ L) (hNN : ¬ N L) (hL : w.heap[L]? = some o) (ho : o.isCells = false) (hy : Stays o) (hnd : o ≠ .deferred (some [])) (ho' : o'.isCells = false) (hy' : Stays o')
  (hxs : cx'.xs = cx.xs) (hmk : cx'.mrk = cx.mrk) (hkp : ∀ p ∈ cx'.kp st.pend, (w.putObj L o').heap[p.1]? = some p.2 ∧ p.2.isCells = false ∧ Stays p.2) : Nw N w0 pv0 cx' st a (w.putObj L o') pv ρ :=
 ⟨⟨h.pre.slots.put_ hL ho hy ho' hy', by rw [World.putObj_size]; exact h.pre.low, fun r hr => by rw [World.putObj_size]; exact h.pre.lt r hr⟩, h.tm.put_ hL ho, h.low, by rw [hmk]; exact h.df.put_ hL ho hnd, by rw [hxs]; exact h.ext.put_ hL ho, hkp,
  h.below.trans ⟨rfl, rfl, rfl, by rw [World.putObj_size]; exact Nat.le_refl _, fun k hk => World.putObj_heap_other (fun e => hNN (e ▸ hk))⟩, keeps_put h.keeps hN _, h.sub⟩
theorem roundK_ok {β : Type} {r : β} {C : Cfg} (hq : OkX P C.x) {env : Env} (henv : OkEnv P env) {n : Nat} {w0 : World} {pv0 : Nat → Prop} {L D fnId : Nat} (hLw : w0.heap.size ≤ L) (hL : ¬ N L) (hDL : D ≠ L) {Ds : List Nat} (hDs : ∀ d ∈ Ds, d ≠ L) {ts xs0 : Array Value} {m : Nat} (hm : ts.size = m) {ps : Array Tmp} {x y : Code} :
  OkYk P N w0 pv0 ⟨#[.func (.yield L) #[] #[]] ++ (ts ++ xs0), fun p => (L, .loop { state := recSt p, pending := recPe p, fn := fnId, tmps := ts, params := ps, assign := x, body := y, defers := D }) :: (D :: Ds).map fun d => (d, .deferred (some [])), none⟩ none n r
   (roundK m ps.toList (evCode P C env .no x) (evCode P C env .no y)) := by
 intro b args st kont h a w pv ρ hn l vs hl hvs R hR
 generalize hcx : (⟨#[.func (.yield L) #[] #[]] ++ (ts ++ xs0), fun p => (L, .loop { state := recSt p, pending := recPe p, fn := fnId, tmps := ts, params := ps, assign := x, body := y, defers := D }) :: (D :: Ds).map fun d => (d, .deferred (some [])), none⟩ : Cx) = cx at *
 unfold roundK roundEnd roundFin at h
 split at h
 ·rename_i b' tm0 hpend hdf hext
  obtain ⟨hc, h0⟩ := bif_inv h
  clear h
  rw [Bool.and_eq_true] at hc
  have hbb : b = b' := by simpa using hc.1
  have hlen : args.length = ps.toList.length := by simpa using hc.2
  clear hc
  subst hbb
  have hxs : cx.xs = #[.func (.yield L) #[] #[]] ++ (ts ++ xs0) := by rw [← hcx]
  have hextR := hn.ext
  rw [hext, hxs] at hextR
  have hb1 := hextR.2 0 (Value.func (.yield L) #[] #[]) (.yld b) (by rw [Array.getElem?_append_left (by simp)]; rfl) rfl
  obtain rfl : l = L := by
   have e1 := yldRel_inv hb1
   have e2 := yldRel_inv hl
   rw [e1] at e2
   injection e2 with e2
   injection e2 with e2
   exact e2.symm
  have htm0 : RelL w pv ρ ts (tm0.take m) := by
   have := (relL_take (xs := #[.func (.yield l) #[] #[]]) (m := 1) hextR rfl).2
   exact (relL_take (xs := ts) (ys := xs0) (by simpa using this) hm).1
  have hkp := hn.kp
  rw [hpend] at hkp
  have hkpL : w.heap[l]? = some (.loop { state := .ready, pending := none, fn := fnId, tmps := ts, params := ps, assign := x, body := y, defers := D }) := (hkp _ (by subst hcx; exact List.mem_cons_self ..)).1
  have hkpD : ∀ d ∈ D :: Ds, w.heap[d]? = some (.deferred (some [])) := fun d hd => (hkp (d, .deferred (some [])) (by rw [← hcx]; exact List.mem_cons_of_mem _ (List.mem_map.2 ⟨d, hd, rfl⟩))).1
  have hDne : ∀ d ∈ D :: Ds, d ≠ l := fun d hd => by
   rcases List.mem_cons.1 hd with rfl | hd
   ·exact hDL
   ·exact hDs d hd
  have hvsz : vs.size = ps.size := by have h1 := hvs.1; have h2 : ps.toList.length = ps.size := Array.length_toList; omega
  refine ⟨fnId, _, x, y, run_yield hkpL hvsz, roundIn_of_wpIn trivial ?_⟩
  let cxA : Cx := ⟨a.tmps ++ cx.xs, fun _ => cx.kp none, none⟩
  let busy : Loop := { state := .busy, pending := none, fn := fnId, tmps := ts, params := ps, assign := x, body := y, defers := D }
  let cxB : Cx := ⟨a.tmps ++ cx.xs, fun _ => (l, .loop busy) :: (D :: Ds).map fun d => (d, .deferred (some [])), none⟩
  have hmsz : a.tmps.size = st.tm.length := hn.tm.1
  have hcmk : cx.mrk = none := by rw [← hcx]
  have adf : a.defers = [] := by have := hn.df; rw [hdf, hcmk] at this; exact dfR_nil this
  refine evCode_ok (N := N) (w0 := w0) (pv0 := pv0) (cx := cxA) (ro := some l) hq henv HkOk.no_ x _ _ _ h0 ?_ _ w ?_
  ·intro ex st1 a1 w1 e1 h he
   split at h
   ·obtain ⟨rfl, pv1, ρ1, hn1⟩ := he
    have hL1 : w1.heap[l]? = some (.loop { state := .ready, pending := none, fn := fnId, tmps := ts, params := ps, assign := x, body := y, defers := D }) := (hn1.kp _ (by show _ ∈ cx.kp none; rw [← hcx]; exact List.mem_cons_self ..)).1
    have hD1 : ∀ d ∈ D :: Ds, w1.heap[d]? = some (.deferred (some [])) := fun d hd => (hn1.kp (d, .deferred (some [])) (by show _ ∈ cx.kp none; rw [← hcx]; exact List.mem_cons_of_mem _ (List.mem_map.2 ⟨d, hd, rfl⟩))).1
    refine ⟨_, run_beginRound hL1 rfl, ?_⟩
    have hn2 : Nw N w0 pv0 cxB st1 a1 (w1.putObj l (.loop busy)) pv1 ρ1 := by
     refine hn1.put_ hLw hL hL1 rfl trivial (by simp) rfl trivial rfl rfl ?_
     intro p hp
     rcases List.mem_cons.1 hp with rfl | hp
     ·exact ⟨World.putObj_heap_same (lt_of_block hL1), rfl, trivial⟩
     ·obtain ⟨d, hd, rfl⟩ := List.mem_map.1 hp
      exact ⟨(World.putObj_heap_other (hDne d hd)).trans (hD1 d hd), rfl, trivial⟩
    refine evCode_ok (N := N) (w0 := w0) (pv0 := pv0) (cx := cxB) (ro := some l) hq henv HkOk.no_ y _ _ _ h ?_ _ _ ⟨pv1, ρ1, hn2⟩
    intro ex st2 a2 w2 e2 h he
    have fin : ∀ (p : Option (Option Nat)), st2.df = [] → kont (recPe p).isNone { tm := st2.ext.take st.tm.length, hp := st2.hp, df := [], ext := st2.ext.drop st.tm.length, pend := p } = some r → Now N w0 pv0 cxB st2 a2 w2 →
      ∃ v w', (Instr.endRound l (recPe p)).run P w2 = .ok v w' ∧ R (.returned v) w' := by
     intro p hdf2 h hn
     obtain ⟨pv2, ρ2, hn⟩ := hn
     have hL2 : w2.heap[l]? = some (.loop busy) := (hn.kp _ (List.mem_cons_self ..)).1
     have hD2 : ∀ d ∈ D :: Ds, w2.heap[d]? = some (.deferred (some [])) := fun d hd => (hn.kp (d, .deferred (some [])) (List.mem_cons_of_mem _ (List.mem_map.2 ⟨d, hd, rfl⟩))).1
     refine ⟨_, _, run_endRound (recPe p) hL2, ?_⟩
     refine hR _ _ _ h ⟨pv2, ρ2, ?_⟩
     have hobj : ({ busy with state := if (recPe p).isNone then .ready else .done, pending := recPe p } : Loop) = { state := recSt p, pending := recPe p, fn := fnId, tmps := ts, params := ps, assign := x, body := y, defers := D } := by
      cases p with
      | none => rfl
      | some q => cases q <;> rfl
     rw [hobj]
     have hn3 := hn.put_ (o' := .loop { state := recSt p, pending := recPe p, fn := fnId, tmps := ts, params := ps, assign := x, body := y, defers := D }) (cx' := ⟨cxB.xs, fun _ => [], none⟩) hLw hL hL2 rfl trivial (by simp) rfl trivial rfl rfl (fun p hp => by simp at hp)
     obtain ⟨e1, e2⟩ := relL_take (xs := a.tmps) hn3.ext hmsz
     refine ⟨hn3.pre, e1, hn3.low, by rw [adf]; exact .nil, e2, ?_, hn3.below, hn3.keeps, hn3.sub⟩
     intro q hq
     rw [← hcx] at hq
     rcases List.mem_cons.1 hq with rfl | hq
     ·exact ⟨World.putObj_heap_same (lt_of_block hL2), rfl, trivial⟩
     ·obtain ⟨d, hd, rfl⟩ := List.mem_map.1 hq
      exact ⟨(World.putObj_heap_other (hDne d hd)).trans (hD2 d hd), rfl, trivial⟩
    split at h
    ·rename_i hd2 _
     obtain ⟨rfl, hn⟩ := he
     exact fin none hd2 h hn
    ·rename_i hd2 _
     obtain ⟨rfl, hn⟩ := he
     exact fin (some none) hd2 h hn
    ·rename_i id hd2 _
     obtain ⟨rfl, hn⟩ := he
     exact fin (some (some id)) hd2 h hn
    ·cases h
   ·cases h
  ·refine ⟨pv, ρ, hn.pre, ?_, hn.low, .nil, ?_, ?_, hn.below, hn.keeps, hn.sub⟩
   ·have := setPs_rel (w := w) (pv := pv) (ρ := ρ) ps.toList vs.toList args ts (tm0.take m) (fun i v c g1 g2 => hvs.2 i v c (by simpa using g1) g2) (by simpa using hvs.1) htm0
    rw [← Array.foldl_toList, Array.toList_zip]
    exact this
   ·exact relL_app hn.tm hn.ext
   ·intro p hp
    exact hkp p hp
 ·cases h
theorem inl_ok {β : Type} {r : β} {C : Nat → Cfg} (hC : OkCfg P C) (hnm : OkNames P) {env : Env} (henv : OkEnv P env) {n : Nat} {f : Nat} {w0 : World} {pv0 : Nat → Prop} {xs0 : Array Value} :
  OkRf P (C f) env N w0 pv0 (Cx.marks w0.heap.size xs0) none n r (inl P C env) := by
 intro g ps x y st k Q h hk a w hn
 obtain ⟨pv, ρ, hn⟩ := hn
 unfold inl at h
 split at h
 ·rename_i gf first cap hg hpend hdf0
  split at h
  ·rename_i fn hfn
   split at h
   ·rename_i cg hbody hres
    have hge := eval_rel hn.tm g
    rw [hg] at hge
    generalize hvg : a.eval g = vg at hge
    cases hge with
    | @fn _ _ va _ vb _ hla ha hlb hb =>
    obtain ⟨Ds, hds, hnd, hDs⟩ := marks_inv (by have := hn.df; rw [hdf0] at this; exact this)
    refine wpIn_rangeFunc ?_
    intro fnId _
    obtain ⟨W1, hW1⟩ : ∃ W1, (w.alloc (.deferred (some []))).alloc (.loop { state := .ready, pending := none, fn := fnId, tmps := a.tmps, params := ps, assign := x, body := y, defers := w.heap.size }) = W1 := ⟨_, rfl⟩
    have hL1 : W1.heap[w.heap.size + 1]? = some (.loop { state := .ready, pending := none, fn := fnId, tmps := a.tmps, params := ps, assign := x, body := y, defers := w.heap.size }) := by
     rw [← hW1]
     have := World.alloc_heap_new (w.alloc (.deferred (some []))) (.loop { state := .ready, pending := none, fn := fnId, tmps := a.tmps, params := ps, assign := x, body := y, defers := w.heap.size })
     rwa [World.size_alloc] at this
    have hK1 : W1.heap[w.heap.size]? = some (.deferred (some [])) := by
     rw [← hW1]; exact (Below.heap_alloc _ _ _ (by simp)).trans (World.alloc_heap_new w _)
    have hb1 : Below w.heap.size w W1 := by
     rw [← hW1]; exact ((Below.refl _ w).alloc (Nat.le_refl _) _).alloc (by simp) _
    have hsz0 := hn.keeps.size
    have hDsL : ∀ D ∈ Ds, w0.heap.size ≤ D := fun D hD => (hDs D hD).1
    have hDsN : ∀ D ∈ Ds, ¬ N D := fun D hD => (hDs D hD).2.1
    have hDs : ∀ D ∈ Ds, w.heap[D]? = some (.deferred (some [])) := fun D hD => (hDs D hD).2.2
    have hDs1 : ∀ D ∈ Ds, D < w.heap.size ∧ W1.heap[D]? = some (.deferred (some [])) := fun D hD => by
     have h1 := lt_of_block (hDs D hD)
     exact ⟨h1, (hb1.block D h1).trans (hDs D hD)⟩
    refine ⟨w.heap.size + 1, [{ target := .collected w.heap.size, args := #[] }], W1, { target := .fn (.func gf) vb, args := va ++ #[.func (.yield (w.heap.size + 1)) #[] #[]] }, W1, gf,
     (va ++ #[.func (.yield (w.heap.size + 1)) #[] #[]]) ++ vb, W1, ?_, ?_, fun _ _ => trivial, ?_, (fun hd => by simp [Fence.wide] at hd), ?_⟩
    ·rw [← hW1]; exact run_enterLoop_outer _ _ _ _ _
    ·simp only [resolve]
     rw [hvg]
     simp [Deferred.ofValue, Act.eval]
    ·simp only [invoke]
     exact MuLone.run_callFunc_enter hfn (hnm gf fn _ hfn hbody) hbody _ _
    ·
     generalize hL : w.heap.size + 1 = L at *
     generalize hD : w.heap.size = D at *
     have hNL : ¬ N L := fun h => by have := hn.pre.low _ h; omega
     let cx : Cx := ⟨#[.func (.yield L) #[] #[]] ++ (a.tmps ++ xs0), fun p => (L, .loop { state := recSt p, pending := recPe p, fn := fnId, tmps := a.tmps, params := ps, assign := x, body := y, defers := D }) :: (D :: Ds).map fun d => (d, .deferred (some [])), none⟩
     have hyk : OkYk P N w0 pv0 cx none (n - 1 - 1) r (roundK st.tm.length ps.toList (evCode P (C f) env .no x) (evCode P (C f) env .no y)) :=
      roundK_ok (hC f) henv (by omega) hNL (by omega) (fun d hd => by have := (hDs1 d hd).1; omega) hn.tm.1
     refine callsIn_of_wp hfn hbody trivial ?_
     refine evCode_ok (N := N) (w0 := w0) (pv0 := pv0) (cx := cx) (ro := none) (hC gf) henv ⟨(fun h => by cases h), hyk, (fun _ _ _ _ _ _ _ h => by cases h)⟩ cg _ _ _ h ?_ _ W1 ?_
     ·intro ex st' a' w' e h he
      have fin : st'.df = [] → k (match st'.pend with | none => .normal | some none => .ret | some (some id) => .exit id) { tm := (st'.ext.drop 1).take st.tm.length, hp := st'.hp, df := [], ext := (st'.ext.drop 1).drop st.tm.length, pend := none } = some r → Now N w0 pv0 cx st' a' w' →
        a'.defers = [] ∧ ∃ v, (results fn a'.tmps).run P w' = .ok v w' ∧ rangePost (Fr none) n P L Q { a with defers := [{ target := .collected D, args := #[] }] ++ a.defers } (.returned v) w' := by
       intro hdf' h hn'
       obtain ⟨pv', ρ', hn'⟩ := hn'
       have hd' : a'.defers = [] := by have := hn'.df; rw [hdf'] at this; exact dfR_nil this
       refine ⟨hd', .tuple #[], ?_, ?_⟩
       ·rw [results_resF]
        have : fn.results = #[] := by rw [← Array.toArray_toList (xs := fn.results), hres]
        rw [this]
        simp
       ·have hLo : w'.heap[L]? = some (.loop { state := recSt st'.pend, pending := recPe st'.pend, fn := fnId, tmps := a.tmps, params := ps, assign := x, body := y, defers := D }) := (hn'.kp _ (List.mem_cons_self ..)).1
        have hDo : ∀ d ∈ D :: Ds, w'.heap[d]? = some (.deferred (some [])) := fun d hd => (hn'.kp (d, .deferred (some [])) (List.mem_cons_of_mem _ (List.mem_map.2 ⟨d, hd, rfl⟩))).1
        refine ⟨_, _, run_endLoop hLo (by cases st'.pend <;> simp [recSt]), ?_⟩
        have hn2 : Nw N w0 pv0 (Cx.marks w0.heap.size xs0) { tm := (st'.ext.drop 1).take st.tm.length, hp := st'.hp, df := [], ext := (st'.ext.drop 1).drop st.tm.length, pend := none } { a with defers := [{ target := .collected D, args := #[] }] ++ a.defers }
          (w'.putObj L (.loop { state := .exhausted, pending := recPe st'.pend, fn := fnId, tmps := a.tmps, params := ps, assign := x, body := y, defers := D })) pv' ρ' := by
         have hn3 := hn'.put_ (o' := .loop { state := .exhausted, pending := recPe st'.pend, fn := fnId, tmps := a.tmps, params := ps, assign := x, body := y, defers := D }) (cx' := ⟨cx.xs, fun _ => [], none⟩) (by omega) hNL hLo rfl trivial (by simp) rfl trivial rfl rfl (fun p hp => by simp at hp)
         have hn4 := (relL_take (xs := #[.func (.yield L) #[] #[]]) (ys := a.tmps ++ xs0) (m := 1) hn3.ext rfl).2
         refine ⟨hn3.pre, (relL_take (xs := a.tmps) (ys := xs0) hn4 hn.tm.1).1, hn3.low, ?_, (relL_take (xs := a.tmps) (ys := xs0) hn4 hn.tm.1).2, fun p hp => by simp [Cx.marks] at hp, hn3.below, hn3.keeps, hn3.sub⟩
         show DfR (some w0.heap.size) N _ pv' ρ' (mkD D :: a.defers) []
         rw [hds]
         refine marks_mk (Ds := D :: Ds) (List.nodup_cons.2 ⟨fun hx => by have := (hDs1 D hx).1; omega, hnd⟩) fun d hd => ?_
         refine ⟨?_, ?_, (World.putObj_heap_other ?_).trans (hDo d hd)⟩
         ·rcases List.mem_cons.1 hd with rfl | hd
          ·omega
          ·exact hDsL d hd
         ·rcases List.mem_cons.1 hd with rfl | hd
          ·exact fun h => by have := hn.pre.low _ h; omega
          ·exact hDsN d hd
         ·rcases List.mem_cons.1 hd with rfl | hd
          ·omega
          ·have := (hDs1 d hd).1; omega
        cases hp : st'.pend with
        | none =>
         rw [hp] at h hn2
         exact hk .normal _ _ _ _ h ⟨rfl, pv', ρ', hn2⟩
        | some q =>
         rw [hp] at h hn2
         cases q with
         | none => exact wpIn_ret (hk .ret _ _ _ _ h ⟨rfl, pv', ρ', hn2⟩)
         | some id => exact wpIn_exit (hk (.exit id) _ _ _ _ h ⟨rfl, pv', ρ', hn2⟩)
      unfold inlEnd at h
      split at h
      ·rename_i hd2
       obtain ⟨rfl, hn'⟩ := he
       exact fin hd2 h hn'
      ·rename_i hd2
       obtain ⟨rfl, hn'⟩ := he
       exact fin hd2 h hn'
      ·cases h
     ·
      have hbW : Below w.heap.size w W1 := by rw [hD]; exact hb1
      have s1 := step_call hn.pre hbW
      have r1 := srel_call hn.pre hbW
      have hfree : ρ st.hp.length = none := r1.out _ (List.getElem?_eq_none (Nat.le_refl _))
      let ρ1 : Nat → Option Info := fun b => if b = st.hp.length then some ⟨L, 0, 0⟩ else ρ b
      have hρ : ∀ b i, ρ b = some i → ρ1 b = some i := fun b i hb => by
       show (if b = st.hp.length then some ⟨L, 0, 0⟩ else ρ b) = some i
       rw [if_neg (fun e => by rw [e, hfree] at hb; cases hb)]; exact hb
      have s2 : Step N W1 W1 pv pv ρ ρ1 := ⟨Keeps.refl _ _, BelowP.refl _ _, fun _ _ h => h, s1.pvlt, fun _ _ => Iff.rfl, hρ⟩
      refine ⟨pv, ρ1, ⟨⟨fun b s hb => ?_, fun b hb => ?_, fun b b' s s' i i' hb hb' hs hs' hi hi' he => ?_⟩, fun r hr => Nat.lt_of_lt_of_le (hn.pre.low r hr) s1.keeps.size, s1.pvlt⟩, ?_, hn.low, .nil, ?_, ?_, hn.below.trans s1.below, hn.keeps.trans_ hn.sub s1.keeps, hn.sub⟩
      ·rw [List.getElem?_append] at hb
       split at hb
       ·rename_i hlt
        have e1 : ρ1 b = ρ b := if_neg (by omega)
        rw [e1]
        exact (r1.slot b s hb).keep s2 (fun _ _ _ => rfl) (fun _ _ _ h => h)
       ·rename_i hge
        have e0 : b - st.hp.length = 0 := by
         have := (List.getElem?_eq_some_iff.1 hb).1
         simp at this; omega
        rw [e0] at hb
        simp at hb
        subst hb
        have e1 : ρ1 b = some ⟨L, 0, 0⟩ := if_pos (by omega)
        rw [e1]
        exact ⟨L, _, rfl, hNL, hL1, rfl, trivial⟩
      ·have := List.getElem?_eq_none_iff.1 hb
       simp at this
       have e1 : ρ1 b = ρ b := if_neg (by omega)
       rw [e1]
       exact r1.out b (List.getElem?_eq_none (by omega))
      ·have old : ∀ {b : Nat} {s : Slot}, (st.hp ++ [Slot.lp])[b]? = some s → s.live = true → st.hp[b]? = some s := by
        intro b s h hl
        rw [List.getElem?_append] at h
        split at h
        ·exact h
        ·have := List.mem_of_getElem? h
         simp at this
         rw [this] at hl
         cases hl
       have hb1 := old hb hs
       have hb2 := old hb' hs'
       have e1 : ρ1 b = ρ b := if_neg (by have := (List.getElem?_eq_some_iff.1 hb1).1; omega)
       have e2 : ρ1 b' = ρ b' := if_neg (by have := (List.getElem?_eq_some_iff.1 hb2).1; omega)
       rw [e1] at hi
       rw [e2] at hi'
       exact r1.inj b b' s s' i i' hb1 hb2 hs hs' hi hi' he
      ·have hy : Rel W1 pv ρ1 (.func (.yield L) #[] #[]) (.yld st.hp.length) := .yld (if_pos rfl)
       have hcap : RelL W1 pv ρ1 vb cap := ⟨hlb, fun i v c h1 h2 => ((hb i v c h1 h2).to s1).to s2⟩
       have hfirst : RelL W1 pv ρ1 va first := ⟨hla, fun i v c h1 h2 => ((ha i v c h1 h2).to s1).to s2⟩
       have h1 : RelL W1 pv ρ1 (va ++ #[.func (.yield L) #[] #[]] ++ vb) (first ++ [.yld st.hp.length] ++ cap) := relL_app (relL_app hfirst (relL_one hy)) hcap
       have h2 : RelL W1 pv ρ1 (Array.replicate (fn.ntmps - (va ++ #[Value.func (.yield L) #[] #[]] ++ vb).size) undef) (List.replicate (fn.ntmps - (first.length + 1 + cap.length)) .undef) := by
        have hsz : (va ++ #[Value.func (.yield L) #[] #[]] ++ vb).size = first.length + 1 + cap.length := by simp [hlb, hla]
        rw [hsz]
        refine ⟨by simp, fun i v c g1 g2 => ?_⟩
        have e1 : v = undef := by
         have := Array.mem_of_getElem? g1
         simp at this
         exact this.2
        have e2 : c = .undef := by
         have := List.mem_of_getElem? g2
         simp at this
         exact this.2
        subst e1 e2
        exact .undef
       exact relL_app h1 h2
      ·exact relL_app (cs := [.yld st.hp.length]) (relL_one (.yld (if_pos rfl))) (relL_app ((hn.tm.to s1).to s2) ((hn.ext.to s1).to s2))
      ·intro p hp
       rcases List.mem_cons.1 hp with rfl | hp
       ·exact ⟨hL1, rfl, trivial⟩
       ·obtain ⟨d, hd, rfl⟩ := List.mem_map.1 hp
        rcases List.mem_cons.1 hd with rfl | hd
        ·exact ⟨hK1, rfl, trivial⟩
        ·exact ⟨(hDs1 d hd).2, rfl, trivial⟩
   ·cases h
  ·cases h
 ·cases h
theorem leaves_marks {n : Nat} {w0 : World} {pv0 : Nat → Prop} {xs : Array Value} {st : St} {fn : Func} {R : Ending → World → Prop} {u : FrameMode} (hu : u ≠ .run) {ts : Array Value} {v : Value} {c : V} :
  ∀ (Ds : List Nat) (w : World), Nw N w0 pv0 ⟨xs, fun _ => [], none⟩ { st with df := [], pend := none } { tmps := ts, defers := [] } w pv ρ → Rel w pv none_ v c → Ds.Nodup → (∀ D ∈ Ds, w0.heap.size ≤ D ∧ ¬ N D ∧ w.heap[D]? = some (.deferred (some []))) →
   (∀ w', Nw N w0 pv0 ⟨xs, fun _ => [], none⟩ { st with df := [], pend := none } { tmps := ts, defers := [] } w' pv ρ → Rel w' pv none_ v c → LeavesIn (Fr none) n P fn ts R [] u w') → LeavesInM (Fr none) n P fn ts R (Ds.map mkD) u w := by
 intro Ds
 induction Ds with
 | nil => intro w hn hv _ _ hfin; exact hfin w hn hv
 | cons D Ds ih =>
  intro w hn hv hnd h hfin
  obtain ⟨hlo, hD, hk⟩ := h D (List.mem_cons_self ..)
  refine ⟨hu, .inl ⟨D, _, rfl, run_takeDeferred hk, ?_⟩⟩
  refine ih _ ?_ (hv.put_ hk rfl) (List.nodup_cons.1 hnd).2 (fun D' hD' => ?_) hfin
  ·refine ⟨⟨hn.pre.slots.put_ hk rfl trivial rfl (by exact trivial), by rw [World.putObj_size]; exact hn.pre.low, fun r hr => by rw [World.putObj_size]; exact hn.pre.lt r hr⟩, hn.tm.put_ hk rfl, hn.low, .nil, hn.ext.put_ hk rfl, fun p hp => by simp at hp, ?_, keeps_put hn.keeps hlo _, hn.sub⟩
   ·exact hn.below.trans ⟨rfl, rfl, rfl, by rw [World.putObj_size]; exact Nat.le_refl _, fun k hk => World.putObj_heap_other (fun e => hD (e ▸ hk))⟩
  ·obtain ⟨h0, h1, h2⟩ := h D' (List.mem_cons_of_mem _ hD')
   exact ⟨h0, h1, (World.putObj_heap_other (fun e : D' = D => (List.nodup_cons.1 hnd).1 (by rw [← e]; exact hD'))).trans h2⟩
theorem resV_same {st st' : St} (h1 : st.tm = st'.tm) (h2 : st.hp = st'.hp) : ∀ (rs : List ResultVar) (k : List V → Option Out), resV P st rs k = resV P st' rs k := by
 intro rs
 induction rs with
 | nil => intro k; rfl
 | cons x rs ih =>
  intro k
  cases x with
  | tmp t => simp only [resV, h1, h2, ih]
  | cell a t => simp only [resV, h1, h2, ih]
theorem endM_ok {r : Out} {n : Nat} {w0 : World} {pv0 : Nat → Prop} (hlow : ∀ r, pv0 r → N r) {fn : Func} {ex : Ex} {st : St} {e : Exit} (hx : st.ext = []) (h : endM P fn.results.toList ex st = some r) (hn : ExNow N w0 pv0 (Cx.marks w0.heap.size #[]) ex st a w e) :
  bodyPostM (Fr none) n P fn (fun e w' => OutRel w' pv0 e r ∧ BelowP N w0 w') e a w := by
 have hdf : st.df = [] := by
  unfold endM at h
  split at h <;> first | assumption | cases h
 have hnw : ∀ {pv ρ}, Nw N w0 pv0 (Cx.marks w0.heap.size #[]) st a w pv ρ → Nw N w0 pv0 Cx.none_ { st with df := [], ext := [], pend := none } { tmps := a.tmps, defers := [] } w pv ρ := fun hn =>
  ⟨hn.pre, hn.tm, hn.low, .nil, ⟨rfl, fun i v c h => by simp [Cx.none_] at h⟩, fun p hp => by simp [Cx.none_] at hp, hn.below, hn.keeps, hn.sub⟩
 have hres : resK P fn.results.toList st = some r → Now N w0 pv0 (Cx.marks w0.heap.size #[]) st a w → LeavesInM (Fr none) n P fn a.tmps (fun e w' => OutRel w' pv0 e r ∧ BelowP N w0 w') a.defers .returning w := by
  rintro h ⟨pv, ρ, hn⟩
  obtain ⟨Ds, h1, h2, h4⟩ := marks_inv (by have := hn.df; rw [hdf] at this; exact this)
  rw [h1]
  refine leaves_marks (xs := #[]) (st := { st with ext := [] }) (v := undef) (c := .top) (by simp) Ds w (hnw hn) .top h2 h4 fun w' hn' _ => ?_
  have hres2 : resK P fn.results.toList { st with df := [], ext := [], pend := none } = some r := by
   rw [← h]; exact resV_same (P := P) (st := { st with df := [], ext := [], pend := none }) (st' := st) rfl rfl _ _
  obtain ⟨v, g1, g2, g3⟩ := resK_ok (a := { tmps := a.tmps, defers := [] }) hlow (st := { st with df := [], ext := [], pend := none }) (P := P) (fn := fn) hres2 ⟨pv, ρ, hn'⟩
  exact ⟨v, g1, g2, g3⟩
 unfold endM at h
 rw [hdf] at h
 cases ex with
 | normal => obtain ⟨rfl, hn⟩ := hn; exact hres h hn
 | ret => obtain ⟨rfl, hn⟩ := hn; exact hres h hn
 | exit id => cases h
 | pan c =>
  obtain ⟨u, rfl, pv, ρ, hn, hu⟩ := hn
  injection h with h
  subst h
  obtain ⟨Ds, h1, h2, h4⟩ := marks_inv (by have := hn.df; rw [hdf] at this; exact this)
  show LeavesInM (Fr none) n P fn a.tmps _ a.defers _ w
  rw [h1]
  refine leaves_marks (xs := #[]) (st := { st with ext := [] }) (v := u) (c := c) (by simp) Ds w (hnw hn) hu h2 h4 fun w' hn' hu' => ?_
  exact ⟨⟨u, rfl, hu'.step (Keeps.refl _ _) (fun r _ hr => (hn'.low r (hlow r hr)).2 hr) (fun _ _ h => h)⟩, hn'.below⟩
theorem evFun_ok {r : Out} {C : Nat → Cfg} (hC : OkCfg P C) (hnm : OkNames P) {env : Env} {f : Nat} {args : List V} (henv : OkEnv P env) (h : evFun P C env f args = some r) (w : World) (pv : Nat → Prop) (hlt : ∀ r, pv r → r < w.heap.size) (vs : Array Value) (hvs : RelL w pv none_ vs args) :
  Calls P f vs w fun e w' => OutRel w' pv e r ∧ Below w.heap.size w w' := by
 suffices main : Calls P f vs w fun e w' => OutRel w' pv e r ∧ BelowP (fun r => r < w.heap.size) w w' from main.mono (by rintro e w' ⟨h1, h2⟩; exact ⟨h1, h2.to⟩)
 unfold evFun at h
 split at h
 ·rename_i fn hfn
  split at h
  ·rename_i c hbody
   have hstart : ∀ mk, Now (fun r => r < w.heap.size) w pv ⟨#[], fun _ => [], mk⟩ { tm := args ++ List.replicate (fn.ntmps - args.length) .undef, hp := [] } { tmps := vs ++ Array.replicate (fn.ntmps - vs.size) undef, defers := [] } w := by
    intro mk
    refine ⟨pv, none_, ⟨⟨fun b s h => by simp at h, fun _ _ => rfl, fun b b' s s' i i' h => by simp at h⟩, fun _ h => h, hlt⟩, ?_, fun _ _ => Iff.rfl, .nil, ⟨rfl, fun i v c h => by simp at h⟩, fun p hp => by simp at hp, BelowP.refl _ _, Keeps.refl _ _, fun _ _ h => h⟩
    rw [hvs.1]
    refine relL_app hvs ⟨by simp, fun i v c g1 g2 => ?_⟩
    have e1 : v = undef := by
     have := Array.mem_of_getElem? g1
     simp at this
     exact this.2
    have e2 : c = .undef := by
     have := List.mem_of_getElem? g2
     simp at this
     exact this.2
    subst e1 e2
    exact .undef
   have noyk : ∀ (n : Nat) (cx : Cx), OkYk P (fun r => r < w.heap.size) w pv cx none n r (hk P C env f).yk := fun n cx _ _ _ _ h => by cases h
   cases hmk : (C f).marks with
   | false =>
    have hH : HkOk P (C f) env (fun r => r < w.heap.size) w pv Cx.none_ none 0 r (hk P C env f) := ⟨fun _ => rfl, noyk _ _, by
     intro g ps x y st k Q h
     simp only [hk, hmk, cond_false] at h
     cases h⟩
    refine calls_of_wp_defers hfn hbody ((wpIn_wide (n := 0)).1 (evCode_ok (ro := none) (n := 0) (hC f) henv hH c _ _ _ h (fun ex st a w' e h he => ?_) _ w (hstart none)))
    simp only [endF, hmk, cond_false] at h
    exact endK_ok hC hnm henv hlt h he
   | true =>
    have hH : HkOk P (C f) env (fun r => r < w.heap.size) w pv (Cx.marks w.heap.size #[]) none 0 r (hk P C env f) := ⟨fun _ => rfl, noyk _ _, by
     intro g ps x y st k Q h
     simp only [hk, hmk, cond_true] at h
     exact inl_ok hC hnm henv g ps x y st k Q h⟩
    refine callsIn_wide.1 (callsIn_of_wp_marks (n := 0) hfn hbody trivial (evCode_ok (ro := none) (n := 0) (hC f) henv hH c _ _ _ h (fun ex st a w' e h he => ?_) _ w (hstart (some w.heap.size))))
    simp only [endF, hmk, cond_true] at h
    refine endM_ok hlt ?_ h he
    have : ∀ {a w'}, Now (fun r => r < w.heap.size) w pv (Cx.marks w.heap.size #[]) st a w' → st.ext = [] := fun ⟨_, _, hn⟩ => List.eq_nil_of_length_eq_zero (by have := hn.ext.1; simpa [Cx.marks] using this.symm)
    cases ex with
    | normal => exact this he.2
    | ret => exact this he.2
    | exit id => exact this he.2
    | pan c => obtain ⟨_, _, pv1, ρ1, hn, _⟩ := he; exact this ⟨pv1, ρ1, hn⟩
  ·cases h
 ·cases h
end
end Go.Sim


namespace Go.Sim
open Go.RowKit
section
variable {P : Program} {N : Nat → Prop} {w : World} {pv : Nat → Prop} {ρ : Nat → Option Info} {hp : List Slot} {a : Act}
theorem resH_ok {r : Out × List Slot} {st : St} (pre : Pre N w pv ρ st.hp) (hr : RelL w pv ρ a.tmps st.tm) :
  ∀ (rs : List ResultVar) (k : List V → Option (Out × List Slot)), resH P st rs k = some r → ∃ (vs : List V) (us : List Value), k vs = some r ∧ us.length = vs.length ∧
   (rs.mapM (resF a.tmps)).run P w = .ok us w ∧ ∀ (i : Nat) u c, us[i]? = some u → vs[i]? = some c → Rel w pv ρ u c := by
 intro rs
 induction rs with
 | nil => intro k h; exact ⟨[], [], h, rfl, by simp, fun i u c h => by simp at h⟩
 | cons x rs ih =>
  intro k h
  cases x with
  | tmp t =>
   simp only [resH] at h
   obtain ⟨vs, us, h, hlen, hrun, hrel⟩ := ih _ h
   have h0 := eval_rel hr (.tmp t)
   refine ⟨_, a.eval (.tmp t) :: us, h, by simp [hlen], ?_, fun i u c g1 g2 => ?_⟩
   ·rw [List.mapM_cons]
    simp only [resF, Sem.run_bind, Sem.run_pure, Result.andThen_ok, hrun]
    rfl
   ·cases i with
    | zero => simp at g1 g2; subst g1 g2; rw [← List.getD_eq_getElem?_getD]; exact h0
    | succ i => exact hrel i u c (by simpa using g1) (by simpa using g2)
  | cell x t =>
   simp only [resH] at h
   obtain ⟨v, rd, ad, v', h, had, hld, hv⟩ := loadK_run (P := P) pre (eval_rel hr (.tmp x)) h
   obtain ⟨vs, us, h, hlen, hrun, hrel⟩ := ih _ h
   refine ⟨_, v' :: us, h, by simp [hlen], ?_, fun i u c g1 g2 => ?_⟩
   ·rw [List.mapM_cons]
    have had' : a.tmps.getD x undef = .pointer (some ad) := had
    simp only [resF, Sem.run_bind, Sem.run_pure, Result.andThen_ok, hrun, had', asAddr, hld]
   ·cases i with
    | zero => simp at g1 g2; subst g1 g2; exact hv
    | succ i => exact hrel i u c (by simpa using g1) (by simpa using g2)
def blkVal : Option Info → Value
 | some i => .tuple #[.int .i64 i.r, .int .i64 i.len, .int .i64 i.wd]
 | none => undef
theorem blksK_inv {r : Out × List Slot} : ∀ {l : List V} {k : List Nat → Option (Out × List Slot)}, blksK l k = some r → ∃ bs : List Nat, l = bs.map .blk ∧ k bs = some r := by
 intro l
 induction l with
 | nil => intro k h; exact ⟨[], rfl, h⟩
 | cons v l ih =>
  intro k h
  cases v with
  | blk b =>
   simp only [blksK] at h
   obtain ⟨bs, hl, h2⟩ := ih h
   exact ⟨b :: bs, by rw [hl]; rfl, h2⟩
  | _ => cases h
def blkVals (ρ0 : Nat → Option Info) (n : Nat) : Array Value := ((List.range n).map fun b => blkVal (ρ0 b)).toArray
theorem blk_rho {w0 : World} {ρ0 : Nat → Option Info} {n : Nat} (hall : ∀ b, b < n → ∃ i, ρ0 b = some i) {bs : List Nat} (h : RelL w pv ρ (blkVals ρ0 n) (bs.map .blk)) : bs.length = n ∧ ∀ b i, b < n → ρ0 b = some i → ∃ b', bs[b]? = some b' ∧ ρ b' = some i := by
 have hl : bs.length = n := by have := h.1; simp [blkVals] at this; omega
 refine ⟨hl, fun b i hb hi => ?_⟩
 have hb' : b < bs.length := by omega
 have h1 := h.2 b (blkVal (ρ0 b)) (.blk bs[b]) (by simp [blkVals, hb]) (by simp [hb'])
 rw [hi] at h1
 refine ⟨bs[b], List.getElem?_eq_getElem hb', ?_⟩
 generalize hv : blkVal (some i) = v at h1
 cases h1 with
 | @blk _ _ i' hr =>
  rw [hr]
  unfold blkVal at hv
  injection hv with hv
  injection hv with hv
  simp only [List.cons.injEq, Value.int.injEq, true_and, and_true] at hv
  obtain ⟨e1, e2, e3⟩ := hv
  cases i; cases i'
  simp only [Int.natCast_inj] at e1 e2 e3
  subst e1 e2 e3
  rfl
theorem reach_pre (hp : List Slot) : ∀ (n : Nat) (wl seen : List Nat), ∃ more, reach hp n wl seen = seen ++ more := by
 intro n
 induction n with
 | zero => intro wl seen; exact ⟨[], by simp [reach]⟩
 | succ n ih =>
  intro wl seen
  cases wl with
  | nil => exact ⟨[], by simp [reach]⟩
  | cons c wl =>
   simp only [reach]
   cases seen.contains c with
   | true => exact ih wl seen
   | false =>
    obtain ⟨more, h⟩ := ih (wl ++ slotRefs (hp.getD c .free)) (seen ++ [c])
    exact ⟨[c] ++ more, by rw [cond_false, h, List.append_assoc]⟩
theorem finH_ok {w0 : World} {ρ0 : Nat → Option Info} {n : Nat} {pv0 : Nat → Prop} (hall : ∀ b, b < n → ∃ i, ρ0 b = some i) {st : St} {v0 v : V} {hp' : List Slot} (h : finH st v0 = some (.ret v, hp')) (hn : Nw N w0 pv0 ⟨blkVals ρ0 n, fun _ => [], none⟩ st a w pv ρ) {u : Value} (hu : Rel w pv ρ u v0) :
  ∃ ρ', HvPost N w0 pv0 ρ0 n hp' v (.returned u) w pv ρ' := by
 unfold finH at h
 obtain ⟨bs, hext, h⟩ := blksK_inv h
 simp only [] at h
 generalize hseen : reach st.hp 1000 (bs.flatMap (fun b => slotRefs (st.hp.getD b .free)) ++ vrefs closeD v0) bs = seen at h
 obtain ⟨hnd, h⟩ := bif_inv h
 injection h with h
 injection h with h1 h2
 injection h1 with h1
 subst h1 h2
 have hxs := hn.ext
 rw [hext] at hxs
 obtain ⟨hbl, hbr⟩ := blk_rho (w0 := w0) hall hxs
 obtain ⟨more, hmore⟩ := reach_pre st.hp 1000 (bs.flatMap (fun b => slotRefs (st.hp.getD b .free)) ++ vrefs closeD v0) bs
 rw [hseen] at hmore
 have pre := hn.pre
 refine ⟨fun j => (seen[j]?).bind ρ, ⟨hn.keeps, hn.below, hn.sub, pre.lt, hn.low, fun b i hb hi => ?_, ⟨fun b s hs => ?_, fun b hs => ?_, fun b b' s s' i i' hs hs' hl hl' hi hi' he => ?_⟩, u, rfl, ren_rel closeD hu⟩⟩
 ·obtain ⟨b', g1, g2⟩ := hbr b i hb hi
  show (seen[b]?).bind ρ = some i
  rw [hmore, List.getElem?_append_left (by omega), g1]
  exact g2
 ·rw [List.getElem?_map] at hs
  cases hx : seen[b]? with
  | none => simp [hx] at hs
  | some b0 =>
   simp only [hx, Option.map_some, Option.some.injEq] at hs
   have hsl : SlotR N w pv ρ (ρ b0) (st.hp.getD b0 .free) := by
    rw [List.getD_eq_getElem?_getD]
    cases hy : st.hp[b0]? with
    | none => exact pre.slots.out b0 hy
    | some s0 => exact pre.slots.slot b0 s0 hy
   show SlotR N w pv _ (ρ b0) s
   subst hs
   exact hsl.ren_ (fun _ _ h => h)
 ·rw [List.getElem?_map] at hs
  cases hx : seen[b]? with
  | none => rfl
  | some b0 => simp [hx] at hs
 ·rw [List.getElem?_map] at hs hs'
  cases hx : seen[b]? with
  | none => simp [hx] at hs
  | some b0 =>
   cases hx' : seen[b']? with
   | none => simp [hx'] at hs'
   | some b0' =>
    simp only [hx, hx', Option.map_some, Option.some.injEq] at hs hs'
    have e1 : ρ b0 = some i := by have : (seen[b]?).bind ρ = some i := hi; rwa [hx] at this
    have e2 : ρ b0' = some i' := by have : (seen[b']?).bind ρ = some i' := hi'; rwa [hx'] at this
    have live : ∀ (b0 : Nat) s i, ρ b0 = some i → renS seen (st.hp.getD b0 .free) = s → s.live = true → ∃ s0, st.hp[b0]? = some s0 ∧ s0.live = true := by
     intro b0 s i hi hs hl
     cases hy : st.hp[b0]? with
     | none => rw [pre.slots.out b0 hy] at hi; cases hi
     | some s0 =>
      refine ⟨s0, rfl, ?_⟩
      rw [List.getD_eq_getElem?_getD, hy, Option.getD_some] at hs
      subst hs
      exact renS_live _ _ hl
    obtain ⟨t, ht, htl⟩ := live b0 s i e1 hs hl
    obtain ⟨t', ht', htl'⟩ := live b0' s' i' e2 hs' hl'
    have := pre.slots.inj b0 b0' t t' i i' ht ht' htl htl' e1 e2 he
    subst this
    exact nodupB_inj hnd b b' b0 hx hx'
theorem callDefH_ok {β : Type} {r : β} {C : Nat → Cfg} (hC : OkCfg P C) (hnm : OkNames P) {env : Env} (henv : OkEnv P env) {w0 : World} {pv0 : Nat → Prop} {cl : V} {pm : Option V} {st : St} {k : St → Option β} (h : callDefH P C env cl pm st k = some r)
  {fn0 : Func} {R : Ending → World → Prop} {pv : Nat → Prop} {ρ : Nat → Option Info} {d : Deferred} (hdf : Df1 w pv ρ d cl) {vals : Array Value} (hn : Nw N w0 pv0 ⟨vals, fun _ => [], none⟩ st a w pv ρ) {u : FrameMode} (hpm : PmR w pv pm u)
  (hk : ∀ st' w', k st' = some r → Now N w0 pv0 ⟨vals, fun _ => [], none⟩ st' { tmps := a.tmps, defers := [] } w' → ∃ v, (results fn0 a.tmps).run P w' = .ok v w' ∧ R (.returned v) w') : Leaves P fn0 a.tmps R [d] u w := by
 have hn0 := hn
 unfold callDefH at h
 split at h
 ·rename_i g cap
  split at h
  ·rename_i fn hfn
   split at h
   ·rename_i id ops rest hbody hres
    split at h
    ·rename_i o hops
     split at h
     ·rename_i c ho hg
      split at h
      ·rename_i hc hargs
       cases hdf with
       | @fn _ vb _ hf =>
       cases hf with
       | @fn _ _ _ _ _ _ hla ha hlb hb =>
       have hca : c.args = #[] := by rw [← Array.toArray_toList (xs := c.args), hargs]
       have hops' : ops = #[o] := by rw [← Array.toArray_toList (xs := ops), hops]
       have hu : u ≠ .run := by
        cases pm with
        | none => rw [show u = .returning from hpm]; simp
        | some c => obtain ⟨x, hx, _⟩ := hpm; rw [hx]; simp
       refine leaves_cons hu (f := g) (args := vb) ?_ ?_
       ·simp only [invoke]
        rw [MuLone.run_callFunc_enter hfn (hnm g fn _ hfn hbody) hbody]
        simp
       ·refine callsD_of_wpS hfn hbody fun c₀ cs hc₀ => ?_
        refine wpS_seq (wpS_region ?_)
        have hrec : ∀ (a' : Act), (execOp a'.eval o).run P w = .ok .recover w := by
         intro a'
         simp [execOp, ho, resolve, hc, hca, invoke, builtin]
        subst hops'
        have fin : ∀ (v : Value) (cv : V) (u' : FrameMode), Rel w pv none_ v cv → settle u' = .returning → evCode P (C g) env .no rest { tm := setTm (cap ++ List.replicate (fn.ntmps - cap.length) .undef) o.dst cv, hp := st.hp, df := [], ext := st.tm ++ st.ext }
          (fun ex st' => (match ex, st'.df with
           | .normal, [] => k { tm := st'.ext.take st.tm.length, hp := st'.hp, df := [], ext := st'.ext.drop st.tm.length }
           | .ret, [] => k { tm := st'.ext.take st.tm.length, hp := st'.hp, df := [], ext := st'.ext.drop st.tm.length }
           | _, _ => none)) = some r →
          rest.wpS P (bodyPostS P fn c₀ cs fun
           | .returned _, u', w' => Leaves P fn0 a.tmps R [] (settle u') w'
           | .panicked chain, u', w' => Leaves P fn0 a.tmps R [] (raised u' chain) w'
           | .outgrown, _, w' => R .outgrown w') (Act.put { tmps := vb ++ Array.replicate (fn.ntmps - vb.size) undef, defers := [] } o.dst v) ({ c₀ with mode := u' } :: cs) w := by
         intro v cv u' hv hset h
         refine wpS_of_wp ((wpIn_wide (n := 0)).1 (evCode_ok (N := N) (ro := none) (n := 0) (w0 := w0) (pv0 := pv0) (cx := ⟨a.tmps ++ vals, fun _ => [], none⟩) (hC g) henv HkOk.no_ rest _ _ _ h ?_ _ w ?_))
         ·intro ex st' a' w' e h he
          have fin2 : st'.df = [] → k { tm := st'.ext.take st.tm.length, hp := st'.hp, df := [], ext := st'.ext.drop st.tm.length } = some r → Now N w0 pv0 ⟨a.tmps ++ vals, fun _ => [], none⟩ st' a' w' → a'.defers = [] ∧ ∃ u'', ({ c₀ with mode := u' } :: cs : List Frame) = { c₀ with mode := u'' } :: cs ∧ ∃ v, (results fn a'.tmps).run P w' = .ok v w' ∧ Leaves P fn0 a.tmps R [] (settle u'') w' := by
           intro hdf h hn
           obtain ⟨pv1, ρ1, hn⟩ := hn
           have hsz : a.tmps.size = st.tm.length := hn0.tm.1
           have hd : a'.defers = [] := by
            have := hn.df
            rw [hdf] at this
            exact dfR_nil this
           obtain ⟨v1, g1, g2⟩ := hk _ w' h ⟨pv1, ρ1, hn.pre, (relL_take (xs := a.tmps) (ys := vals) hn.ext hsz).1, hn.low, .nil, (relL_take (xs := a.tmps) (ys := vals) hn.ext hsz).2, fun p h => by simp at h, hn.below, hn.keeps, hn.sub⟩
           refine ⟨hd, u', rfl, .tuple #[], ?_, ?_⟩
           ·rw [results_resF]
            have : fn.results = #[] := by rw [← Array.toArray_toList (xs := fn.results), hres]
            rw [this]
            simp
           ·rw [hset]
            exact ⟨v1, g1, g2⟩
          split at h
          ·rename_i hex hdf
           obtain ⟨rfl, hn⟩ := he
           exact fin2 hdf h hn
          ·rename_i hex hdf
           obtain ⟨rfl, hn⟩ := he
           exact fin2 hdf h hn
          ·cases h
         ·refine ⟨pv, ρ, hn.pre, put_rel (v := v) ?_ (hv.closed ρ) o.dst, hn.low, by rw [put_defers]; exact .nil, relL_app hn.tm hn.ext, fun p h => by simp at h, hn.below, hn.keeps, hn.sub⟩
          refine ⟨by simp [hlb], fun i v c g1 g2 => ?_⟩
          have g1 : (vb ++ Array.replicate (fn.ntmps - vb.size) undef)[i]? = some v := g1
          rw [Array.getElem?_append] at g1
          rw [List.getElem?_append, ← hlb] at g2
          split at g1
          ·rename_i hlt'
           rw [if_pos hlt'] at g2
           exact hb i v c g1 g2
          ·rename_i hlt'
           rw [if_neg hlt'] at g2
           have e1 : v = undef := by
            have := Array.mem_of_getElem? g1
            simp at this
            exact this.2
           have e2 : c = .undef := by
            have := List.mem_of_getElem? g2
            simp at this
            exact this.2
           subst e1 e2
           exact .undef
        have hw : ∀ (t : Array Value), Region.wanted o (yielded #[o] t) = true := fun t => by unfold Region.wanted; rw [hg]
        show wpOpsS P #[o] _ [0] _ _ _
        simp only [wpOpsS]
        rw [show (#[o] : Array Oper)[0]? = some o from rfl]
        simp only [hw, if_true, hrec]
        cases pm with
        | none =>
         have hm : c₀.mode = .returning := hc₀.trans hpm
         have hr : recoverD (c₀ :: cs) = none := by simp [recoverD, hm]
         rw [hr]
         have hc0 : ({ c₀ with mode := .returning } : Frame) = c₀ := by rw [← hm]
         have := fin .nilIface .nili .returning .nili rfl h
         rw [hc0] at this
         exact this
        | some c1 =>
         obtain ⟨x, hx, hrx⟩ := hpm
         have hm : c₀.mode = .panicking [{ v := x, recovered := false }] := hc₀.trans hx
         have hr : recoverD (c₀ :: cs) = some (x, { c₀ with mode := .panicking [{ v := x, recovered := true }] } :: cs) := by simp [recoverD, hm]
         rw [hr]
         exact fin x c1 (.panicking [{ v := x, recovered := true }]) hrx rfl h
      ·cases h
     ·cases h
    ·cases h
   ·cases h
  ·cases h
 ·cases h
theorem resHK2xok {w0 : World} {ρ0 : Nat → Option Info} {n : Nat} {pv0 : Nat → Prop} (hall : ∀ b, b < n → ∃ i, ρ0 b = some i) {fn : Func} {v : V} {hp' : List Slot} : ∀ {st : St} {w : World} {tmps : Array Value} {pv ρ}, resHK2 P fn.results.toList st = some (.ret v, hp') → Nw N w0 pv0 ⟨blkVals ρ0 n, fun _ => [], none⟩ st { tmps := tmps, defers := [] } w pv ρ → ∃ x, (results fn tmps).run P w = .ok x w ∧ ∃ pv' ρ', HvPost N w0 pv0 ρ0 n hp' v (.returned x) w pv' ρ' := by
 intro st w tmps pv ρ h hn
 unfold resHK2 at h
 obtain ⟨cs, us, h, hlen, hrun, hrel⟩ := resH_ok (P := P) hn.pre hn.tm _ _ h
 have hres : (results fn tmps).run P w = .ok (if h : us.toArray.size = 1 then us.toArray[0] else .tuple us.toArray) w := by
  rw [results_resF, Array.mapM_eq_mapM_toList]
  simp only [Sem.run_bind, Sem.run_map, hrun, Result.andThen_ok, Sem.run_pure]
 refine ⟨_, hres, ?_⟩
 split at h
 ·rename_i c
  match us, hlen, hrel with
  | [u], _, hrel =>
   obtain ⟨ρ', hpost⟩ := finH_ok hall h hn (hrel 0 u c rfl rfl)
   exact ⟨pv, ρ', hpost⟩
 ·rename_i hne
  have h1 : us.toArray.size ≠ 1 := fun h1 => by
   have h2 : cs.length = 1 := by rw [← hlen]; simpa using h1
   match cs, h2 with
   | [c], _ => exact hne c rfl
  rw [dif_neg h1]
  obtain ⟨ρ', hpost⟩ := finH_ok hall h hn (u := .tuple us.toArray) (.tup (by simpa using hlen) fun i u c g1 g2 => hrel i u c (by simpa using g1) g2)
  exact ⟨pv, ρ', hpost⟩
theorem resH_same {st st' : St} (h1 : st.tm = st'.tm) (h2 : st.hp = st'.hp) (h3 : st.ext = st'.ext) : ∀ (rs : List ResultVar) (k k' : List V → Option (Out × List Slot)), (∀ vs, k vs = k' vs) → resH P st rs k = resH P st' rs k' := by
 intro rs
 induction rs with
 | nil => intro k k' hk; exact hk []
 | cons x rs ih =>
  intro k k' hk
  cases x with
  | tmp t => simp only [resH, h1]; exact ih _ _ fun vs => hk _
  | cell a t =>
   simp only [resH, h1, h2]
   congr 1
   funext v _ _
   exact ih _ _ fun vs => hk _
theorem endHM_ok {w0 : World} {ρ0 : Nat → Option Info} {n m : Nat} {pv0 : Nat → Prop} (hall : ∀ b, b < n → ∃ i, ρ0 b = some i) {fn : Func} {ex : Ex} {st : St} {v : V} {hp' : List Slot} {e : Exit} (h : endHM P fn.results.toList ex st = some (.ret v, hp')) (hn : ExNow N w0 pv0 (Cx.marks w0.heap.size (blkVals ρ0 n)) ex st a w e) :
  bodyPostM (Fr none) m P fn (fun e w' => ∃ pv' ρ', HvPost N w0 pv0 ρ0 n hp' v e w' pv' ρ') e a w := by
 have hdf : st.df = [] := by
  unfold endHM at h
  split at h <;> first | assumption | cases h
 have hres : resHK2 P fn.results.toList st = some (.ret v, hp') → Now N w0 pv0 (Cx.marks w0.heap.size (blkVals ρ0 n)) st a w → LeavesInM (Fr none) m P fn a.tmps (fun e w' => ∃ pv' ρ', HvPost N w0 pv0 ρ0 n hp' v e w' pv' ρ') a.defers .returning w := by
  rintro h ⟨pv, ρ, hn⟩
  obtain ⟨Ds, h1, h2, h4⟩ := marks_inv (by have := hn.df; rw [hdf] at this; exact this)
  rw [h1]
  refine leaves_marks (xs := blkVals ρ0 n) (st := st) (v := undef) (c := .top) (by simp) Ds w ⟨hn.pre, hn.tm, hn.low, .nil, hn.ext, fun p hp => by simp at hp, hn.below, hn.keeps, hn.sub⟩ .top h2 h4 fun w' hn' _ => ?_
  have hres2 : resHK2 P fn.results.toList { st with df := [], pend := none } = some (.ret v, hp') := by
   rw [← h]
   unfold resHK2
   exact resH_same (P := P) (st := { st with df := [], pend := none }) (st' := st) rfl rfl rfl _ _ _ fun vs => rfl
  exact resHK2xok hall hres2 hn'
 unfold endHM at h
 rw [hdf] at h
 cases ex with
 | normal => obtain ⟨rfl, hn⟩ := hn; exact hres h hn
 | ret => obtain ⟨rfl, hn⟩ := hn; exact hres h hn
 | exit id => cases h
 | pan c => cases h
theorem endH_ok {C : Nat → Cfg} (hC : OkCfg P C) (hnm : OkNames P) {env : Env} (henv : OkEnv P env) {w0 : World} {ρ0 : Nat → Option Info} {n : Nat} {pv0 : Nat → Prop} (hall : ∀ b, b < n → ∃ i, ρ0 b = some i) {fn : Func} {ex : Ex} {st : St} {v : V} {hp' : List Slot} {e : Exit} (h : endH P C env fn.results.toList ex st = some (.ret v, hp')) (hn : ExNow N w0 pv0 ⟨blkVals ρ0 n, fun _ => [], none⟩ ex st a w e) :
  bodyPostD P fn (fun e w' => ∃ pv' ρ', HvPost N w0 pv0 ρ0 n hp' v e w' pv' ρ') e a w := by
 have hres1 : ∀ {st : St} {w : World} {tmps : Array Value} {pv ρ}, resHK2 P fn.results.toList st = some (.ret v, hp') → Nw N w0 pv0 ⟨blkVals ρ0 n, fun _ => [], none⟩ st { tmps := tmps, defers := [] } w pv ρ → ∃ x, (results fn tmps).run P w = .ok x w ∧ ∃ pv' ρ', HvPost N w0 pv0 ρ0 n hp' v (.returned x) w pv' ρ' := resHK2xok hall
 unfold endH at h
 split at h
 ·rename_i hdf
  have hres : ∀ {pv ρ}, resHK2 P fn.results.toList st = some (.ret v, hp') → Nw N w0 pv0 ⟨blkVals ρ0 n, fun _ => [], none⟩ st a w pv ρ → Leaves P fn a.tmps (fun e w' => ∃ pv' ρ', HvPost N w0 pv0 ρ0 n hp' v e w' pv' ρ') a.defers .returning w := by
   intro pv ρ h hn
   have hd : a.defers = [] := by have := hn.df; rw [hdf] at this; exact dfR_nil this
   rw [hd]
   have hn' : Nw N w0 pv0 ⟨blkVals ρ0 n, fun _ => [], none⟩ st { tmps := a.tmps, defers := [] } w pv ρ := by rw [← hd]; exact hn
   exact hres1 h hn'
  cases ex with
  | normal => obtain ⟨rfl, pv, ρ, hn⟩ := hn; exact hres h hn
  | ret => obtain ⟨rfl, pv, ρ, hn⟩ := hn; exact hres h hn
  | exit id => cases h
  | pan c => cases h
 ·rename_i cl hdf
  have hres : ∀ {pm : Option V} {u : FrameMode} {pv ρ}, callDefH P C env cl pm st (resHK2 P fn.results.toList) = some (.ret v, hp') → Nw N w0 pv0 ⟨blkVals ρ0 n, fun _ => [], none⟩ st a w pv ρ → PmR w pv pm u → Leaves P fn a.tmps (fun e w' => ∃ pv' ρ', HvPost N w0 pv0 ρ0 n hp' v e w' pv' ρ') a.defers u w := by
   intro pm u pv ρ h hn hpm
   obtain ⟨d, hd, hdf1⟩ : ∃ d, a.defers = [d] ∧ Df1 w pv ρ d cl := by have := hn.df; rw [hdf] at this; exact dfR_one this
   rw [hd]
   refine callDefH_ok hC hnm henv h hdf1 hn hpm fun st' w' h hn' => ?_
   obtain ⟨pv1, ρ1, hn'⟩ := hn'
   exact hres1 h hn'
  cases ex with
  | normal => obtain ⟨rfl, pv, ρ, hn⟩ := hn; exact hres h hn rfl
  | ret => obtain ⟨rfl, pv, ρ, hn⟩ := hn; exact hres h hn rfl
  | exit id => cases h
  | pan c => obtain ⟨u, rfl, pv, ρ, hn, hu⟩ := hn; exact hres h hn ⟨u, rfl, hu⟩
 ·cases h
theorem evFunH_ok {C : Nat → Cfg} (hC : OkCfg P C) (hnm : OkNames P) {env : Env} {f : Nat} {args : List V} (henv : OkEnv P env) {v : V} {hp' : List Slot} (h : evFunH P C env f args hp = some (.ret v, hp')) (pre : Pre N w pv ρ hp) (hall : ∀ b, b < hp.length → ∃ i, ρ b = some i) (vs : Array Value) (hvs : RelL w pv ρ vs args) :
  Calls P f vs w fun e w' => ∃ pv' ρ', HvPost N w pv ρ hp.length hp' v e w' pv' ρ' := by
 unfold evFunH at h
 split at h
 ·rename_i fn hfn
  split at h
  ·rename_i c hbody
   have hstart : ∀ mk, Now N w pv ⟨blkVals ρ hp.length, fun _ => [], mk⟩ { tm := args ++ List.replicate (fn.ntmps - args.length) .undef, hp := hp, ext := (List.range hp.length).map .blk } { tmps := vs ++ Array.replicate (fn.ntmps - vs.size) undef, defers := [] } w := by
    intro mk
    refine ⟨pv, ρ, pre, ?_, fun _ _ => Iff.rfl, .nil, ⟨by simp [blkVals], fun i v c g1 g2 => ?_⟩, fun p hp => by simp at hp, BelowP.refl _ _, Keeps.refl _ _, fun _ _ h => h⟩
    ·rw [hvs.1]
     refine relL_app hvs ⟨by simp, fun i v c g1 g2 => ?_⟩
     have e1 : v = undef := by
      have := Array.mem_of_getElem? g1
      simp at this
      exact this.2
     have e2 : c = .undef := by
      have := List.mem_of_getElem? g2
      simp at this
      exact this.2
     subst e1 e2
     exact .undef
    ·have hi : i < hp.length := by have := (List.getElem?_eq_some_iff.1 g2).1; simpa using this
     simp [blkVals, hi] at g1
     simp [hi] at g2
     obtain ⟨x, hx⟩ := hall i hi
     rw [hx] at g1
     subst g1 g2
     exact .blk hx
   have noyk : ∀ (n : Nat) (cx : Cx), OkYk P N w pv cx none n (Out.ret v, hp') (hkH P C env f).yk := fun n cx _ _ _ _ h => by cases h
   cases hmk : (C f).marks with
   | false =>
    have hH : HkOk P (C f) env N w pv ⟨blkVals ρ hp.length, fun _ => [], none⟩ none 0 (Out.ret v, hp') (hkH P C env f) := ⟨fun _ => rfl, noyk _ _, by
     intro g ps x y st k Q h
     simp only [hkH, hmk, cond_false] at h
     cases h⟩
    refine calls_of_wp_defers hfn hbody ((wpIn_wide (n := 0)).1 (evCode_ok (ro := none) (n := 0) (hC f) henv hH c _ _ _ h (fun ex st a w' e h he => ?_) _ w (hstart none)))
    simp only [endHF, hmk, cond_false] at h
    exact endH_ok hC hnm henv hall h he
   | true =>
    have hH : HkOk P (C f) env N w pv (Cx.marks w.heap.size (blkVals ρ hp.length)) none 0 (Out.ret v, hp') (hkH P C env f) := ⟨fun _ => rfl, noyk _ _, by
     intro g ps x y st k Q h
     simp only [hkH, hmk, cond_true] at h
     exact inl_ok hC hnm henv g ps x y st k Q h⟩
    refine callsIn_wide.1 (callsIn_of_wp_marks (n := 0) hfn hbody trivial (evCode_ok (ro := none) (n := 0) (hC f) henv hH c _ _ _ h (fun ex st a w' e h he => ?_) _ w (hstart (some w.heap.size))))
    simp only [endHF, hmk, cond_true] at h
    exact endHM_ok hall h he
  ·cases h
 ·cases h
theorem evFunH_fn {C : Nat → Cfg} (hnm : OkNames P) {env : Env} {f : Nat} {args : List V} {r : Out × List Slot} (h : evFunH P C env f args hp = some r) : ∃ fn c, P.funcs[f]? = some fn ∧ (fn.name == "runtime.NumGoroutine") = false ∧ fn.body = some c := by
 unfold evFunH at h
 split at h
 ·rename_i fn hfn
  split at h
  ·rename_i c hbody
   exact ⟨fn, c, hfn, hnm f fn c hfn hbody, hbody⟩
  ·cases h
 ·cases h
end
end Go.Sim


namespace Go.Sim
open Go.RowKit
noncomputable def envN (P : Program) (C : Nat → Cfg) : Nat → Env
 | 0 => ⟨fun _ _ => none, fun _ _ _ => none⟩
 | d + 1 => ⟨fun f args => evFun P C (envN P C d) f args, fun f args hp => evFunH P C (envN P C d) f args hp⟩
theorem okEv {P : Program} {C : Nat → Cfg} (hC : OkCfg P C) (hnm : OkNames P) {env : Env} (ih : OkEnv P env) : OkEnv P ⟨fun f args => evFun P C env f args, fun f args hp => evFunH P C env f args hp⟩ := by
 constructor
 ·intro g args out h
  have h' : evFun P C env g args = some out := h
  refine ⟨?_, fun w pv hlt vs hvs => evFun_ok hC hnm ih h' w pv hlt vs hvs⟩
  unfold evFun at h'
  split at h'
  ·rename_i fn hfn
   split at h'
   ·rename_i c hbody
    exact ⟨fn, c, hfn, hnm g fn c hfn hbody, hbody⟩
   ·cases h'
  ·cases h'
 ·intro g args hp v hp' h
  exact ⟨evFunH_fn hnm h, fun N w pv ρ pre hall vs hvs => evFunH_ok hC hnm ih h pre hall vs hvs⟩
theorem envN_ok {P : Program} {C : Nat → Cfg} (hC : OkCfg P C) (hnm : OkNames P) : ∀ d, OkEnv P (envN P C d) := by
 intro d
 induction d with
 | zero => exact ⟨fun g args out h => (by cases h), fun g args hp v hp' h => (by cases h)⟩
 | succ d ih => exact okEv hC hnm ih
theorem okNames_of {P : Program} (h : P.funcs.toList.all (fun fn => !(fn.name == "runtime.NumGoroutine")) = true) : OkNames P := by
 intro g fn c hg _
 have := List.all_eq_true.1 h fn (List.mem_of_getElem? (by rw [Array.getElem?_toList]; exact hg))
 simpa using this
theorem eqCs_inv : ∀ {bs cs : List V} {r : Bool}, eqCs (R := Option Bool) bs cs none some = some r → ∃ l : List (IntKind × Int × Int), bs = l.map (fun p => .int p.1 p.2.1) ∧ cs = l.map (fun p => .int p.1 p.2.2) ∧ r = l.all (fun p => p.2.1 == p.2.2) := by
 intro bs
 induction bs with
 | nil =>
  intro cs r h
  cases cs with
  | nil => injection h with h; exact ⟨[], rfl, rfl, h.symm⟩
  | cons c cs => cases h
 | cons b bs ih =>
  intro cs r h
  cases cs with
  | nil => cases h
  | cons c cs =>
   simp only [eqCs] at h
   split at h
   ·rename_i q x q' y
    obtain ⟨hq0, g⟩ := bif_inv h
    clear h
    have hq : q = q' := by simpa using hq0
    clear hq0
    subst hq
    obtain ⟨o, ho⟩ := eqCs_n bs cs
    rw [ho] at g
    cases o with
    | none => cases g
    | some r' =>
     injection g with h
     obtain ⟨l, h1, h2, h3⟩ := ih (by rw [ho]; rfl : eqCs (R := Option Bool) bs cs none some = some r')
     exact ⟨(q, x, y) :: l, by simp [h1], by simp [h2], by rw [← h, h3]; rfl⟩
   ·cases h
theorem relL_ints {w : World} {pv : Nat → Prop} {ρ : Nat → Option Info} {vs : Array Value} {l : List (IntKind × Int)} (h : RelL w pv ρ vs (l.map fun p => .int p.1 p.2)) : vs = (l.map fun p => Value.int p.1 p.2).toArray := by
 obtain ⟨h1, h2⟩ := h
 refine Array.ext (by simpa using h1) fun i hi hi' => ?_
 have hi2 : i < l.length := by simpa using hi'
 have := h2 i vs[i] (.int l[i].1 l[i].2) (by simp [hi]) (by simp [hi2])
 generalize vs[i] = u at this
 cases this
 simp
end Go.Sim


namespace Go.Sim
open Go.RowKit Go.ChangeShapes Go.WideShapes Go.ChangeAt
inductive Sh where
 | int (k : IntKind)
 | bool
 | str
 | row (l : List Sh)
inductive Fit : Sh → V → Prop where
 | int {k n} (h : k.min ≤ n ∧ n ≤ k.max) : Fit (.int k) (.int k n)
 | bool {b} : Fit .bool (.bool b)
 | str {s : ByteArray} (h : s.size ≤ 140737488355328) : Fit .str (.str s)
 | row {l : List Sh} {nl : Bool} {len : Nat} {get : Nat → List V} (h : len ≤ 140737488355328) (hn : nl = true → len = 0) (hl : ∀ i, (get i).length = l.length) (hf : ∀ (i j : Nat) (s : Sh) (c : V), l[j]? = some s → (get i)[j]? = some c → Fit s c) : Fit (.row l) (.row nl len l.length get)
def FitL (l : List Sh) (cs : List V) : Prop := cs.length = l.length ∧ ∀ (j : Nat) (s : Sh) (c : V), l[j]? = some s → cs[j]? = some c → Fit s c
theorem Fit.one {s : Sh} {c : V} (h : Fit s c) : c.one = true := by cases h <;> rfl
def shFs (P : Program) (sh : TypeId → Option (List Sh)) : List Field → Nat → Option (List Sh)
 | [], _ => some []
 | f :: r, off => match sh f.type, shFs P sh r (off + P.cellsOf f.type) with
  | some a, some b => bif f.offset == off && a.length == P.cellsOf f.type then some (a ++ b) else none
  | _, _ => none
def shRep : Nat → List Sh → List Sh
 | 0, _ => []
 | n + 1, l => l ++ shRep n l
def shOf (P : Program) : Nat → TypeId → Option (List Sh)
 | 0, _ => none
 | d + 1, t => match P.underlying t with
  | some (.int k) => some [.int k]
  | some .bool => some [.bool]
  | some .string => some [.str]
  | some (.slice e) => (match shOf P d e with
   | some (s :: l) => bif (s :: l).length == P.cellsOf e && Nat.ble 1 (P.bytesOf e) then some [.row (s :: l)] else none
   | _ => none)
  | some (.struct fs) => (match shFs P (shOf P d) fs.toList 0 with
   | some l => bif l.length == P.cellsOf t then some l else none
   | none => none)
  | some (.array n e) => (match shOf P d e with
   | some l => bif l.length == P.cellsOf e && (shRep n l).length == P.cellsOf t then some (shRep n l) else none
   | none => none)
  | _ => none
mutual
def zeroV : Sh → V
 | .int k => .int k 0
 | .bool => .bool false
 | .str => .str ByteArray.empty
 | .row l => .row true 0 l.length fun _ => zeroL l
def zeroL : List Sh → List V
 | [] => []
 | s :: l => zeroV s :: zeroL l
end
theorem zeroL_len : ∀ l : List Sh, (zeroL l).length = l.length
 | [] => by simp [zeroL]
 | _ :: l => by simp [zeroL, zeroL_len l]
theorem zero_int (k : IntKind) : k.min ≤ 0 ∧ 0 ≤ k.max := by cases k <;> decide
mutual
theorem zeroV_fit : ∀ s : Sh, Fit s (zeroV s)
 | .int k => by rw [zeroV]; exact .int (zero_int k)
 | .bool => by rw [zeroV]; exact .bool
 | .str => by rw [zeroV]; exact .str (Nat.zero_le _)
 | .row l => by
  rw [zeroV]
  exact .row (Nat.zero_le _) (fun _ => rfl) (fun _ => zeroL_len l) (fun _ j s c h1 h2 => (zeroL_fit l) j s c h1 h2)
theorem zeroL_fit : ∀ (l : List Sh) (j : Nat) (s : Sh) (c : V), l[j]? = some s → (zeroL l)[j]? = some c → Fit s c
 | [], j, s, c, h, _ => by simp at h
 | x :: l, 0, s, c, h1, h2 => by
  simp only [zeroL, List.getElem?_cons_zero, Option.some.injEq] at h1 h2
  subst h1 h2
  exact zeroV_fit x
 | x :: l, j + 1, s, c, h1, h2 => by
  simp only [zeroL, List.getElem?_cons_succ] at h1 h2
  exact zeroL_fit l j s c h1 h2
end
section
variable {H : Type} {enc : TypeId × Value → H} {P : Program} {w : World} {base : Nat} {sp : Nat → Bool} {held : Bool}
abbrev noPv : Nat → Prop := fun _ => False
def Seen (w : World) (vs : List Value) (sh : List Sh) (cs : List V) : Prop :=
 vs.length = cs.length ∧ FitL sh cs ∧ ∀ (i : Nat) (v : Value) (c : V), vs[i]? = some v → cs[i]? = some c → Rel w noPv none_ v c
theorem Seen.one {vs : List Value} {sh : List Sh} {cs : List V} (h : Seen w vs sh cs) {i : Nat} {c : V} (hc : cs[i]? = some c) : c.one = true := by
 have hi : i < sh.length := by
  have := (List.getElem?_eq_some_iff.1 hc).1
  rw [← h.2.1.1]; exact this
 exact (h.2.1.2 i sh[i] c (List.getElem?_eq_getElem hi) hc).one
theorem seen1 {v : Value} {s : Sh} {c : V} (hf : Fit s c) (hr : Rel w noPv none_ v c) : Seen w [v] [s] [c] := by
 refine ⟨rfl, ⟨rfl, ?_⟩, ?_⟩
 ·intro j s' c' h1 h2
  match j with
  | 0 => simp only [List.getElem?_cons_zero, Option.some.injEq] at h1 h2; subst h1 h2; exact hf
  | j + 1 => simp at h1
 ·intro j v' c' h1 h2
  match j with
  | 0 => simp only [List.getElem?_cons_zero, Option.some.injEq] at h1 h2; subst h1 h2; exact hr
  | j + 1 => simp at h1
theorem Seen.append {vs vs' : List Value} {sh sh' : List Sh} {cs cs' : List V} (h : Seen w vs sh cs) (h' : Seen w vs' sh' cs') : Seen w (vs ++ vs') (sh ++ sh') (cs ++ cs') := by
 obtain ⟨a1, a2, a3⟩ := h
 obtain ⟨b1, b2, b3⟩ := h'
 refine ⟨by simp [a1, b1], ⟨by simp [a2.1, b2.1], fun j s c h1 h2 => ?_⟩, fun j v c h1 h2 => ?_⟩
 ·by_cases hj : j < sh.length
  ·rw [List.getElem?_append_left hj] at h1
   rw [List.getElem?_append_left (by rw [a2.1]; exact hj)] at h2
   exact a2.2 j s c h1 h2
  ·rw [List.getElem?_append_right (by omega)] at h1
   rw [List.getElem?_append_right (by rw [a2.1]; omega), a2.1] at h2
   exact b2.2 _ s c h1 h2
 ·by_cases hj : j < vs.length
  ·rw [List.getElem?_append_left hj] at h1
   rw [List.getElem?_append_left (by rw [← a1]; exact hj)] at h2
   exact a3 j v c h1 h2
  ·rw [List.getElem?_append_right (by omega)] at h1
   rw [List.getElem?_append_right (by rw [← a1]; omega), ← a1] at h2
   exact b3 _ v c h1 h2
theorem wf_bounds {k : IntKind} {n : Int} (h : (Lit.int k n).wf = true) : k.min ≤ n ∧ n ≤ k.max := by
 simpa [Lit.wf] using h
theorem weights_all {e : TypeId} {d : DataW H} : ∀ {l : List (DataW H)}, d ∈ l → ∀ n ∈ d.weights P e, n ∈ DataW.weightsAll P e l := by
 intro l
 induction l with
 | nil => intro h; cases h
 | cons x l ih =>
  intro h n hn
  rw [DataW.weightsAll, List.mem_append]
  rcases List.mem_cons.1 h with rfl | h
  ·exact .inl hn
  ·exact .inr (ih h n hn)
theorem seen_of : ∀ (d fuel : Nat) (t : TypeId) (vs : List Value) (x : DataW H × List MemPlace) (sh : List Sh), DataW.trod enc P w base sp held fuel t vs = some x → (∀ n ∈ x.1.weights P t, n ≤ reachBytes) → shOf P d t = some sh → ∃ cs, Seen w vs sh cs := by
 intro d
 induction d with
 | zero => intro fuel t vs x sh _ _ h; simp [shOf] at h
 | succ d ih =>
  intro fuel t vs x sh h hwt hs
  unfold shOf at hs
  split at hs
  ·rename_i k ht
   injection hs with hs
   subst hs
   obtain ⟨n, rfl, _, hw⟩ := DataW.trod_int ht h
   exact ⟨[.int k n], seen1 (.int (wf_bounds hw)) .int⟩
  ·rename_i ht
   injection hs with hs
   subst hs
   obtain ⟨b, rfl, _⟩ := DataW.trod_bool ht h
   exact ⟨[.bool b], seen1 .bool .bool⟩
  ·rename_i ht
   injection hs with hs
   subst hs
   obtain ⟨s, rfl, rfl, hm⟩ := DataW.trod_string ht h
   have hm2 : s.size ≤ reachBytes := by
    have := hwt s.data.toList.length (by simp [DataW.weights])
    rwa [show s.data.toList.length = s.size from by rw [Array.length_toList]; rfl] at this
   exact ⟨[.str s], seen1 (.str (by unfold reachBytes at hm2; omega)) .str⟩
  ·rename_i e ht
   split at hs
   ·rename_i s0 l he
    cases hc : (s0 :: l).length == P.cellsOf e && Nat.ble 1 (P.bytesOf e) with
    | false => rw [hc] at hs; cases hs
    | true =>
     rw [hc, cond_true] at hs
     injection hs with hs
     subst hs
     rw [Bool.and_eq_true] at hc
     have hw : (s0 :: l).length = P.cellsOf e := by simpa using hc.1
     have hby : 1 ≤ P.bytesOf e := Nat.le_of_ble_eq_true hc.2
     rcases DataW.trod_slice ht h with ⟨rfl, _⟩ | ⟨a, len, cap, elems, rest, n, _, rfl, rfl, hb, hlc, hcm, hel, hget, _⟩
     ·exact ⟨[.row true 0 (s0 :: l).length fun _ => zeroL (s0 :: l)], seen1 (.row (Nat.zero_le _) (fun _ => rfl) (fun _ => zeroL_len _) fun _ j s c h1 h2 => zeroL_fit _ j s c h1 h2) .nilrow⟩
     ·have hlen : len ≤ 140737488355328 := by
       have := hwt (((elems.map (·.1)).length + (rest.map (·.1)).length) * P.bytesOf e) (by simp [DataW.weights, ht])
       have h2 : len * 1 ≤ ((elems.map (·.1)).length + (rest.map (·.1)).length) * P.bytesOf e := Nat.mul_le_mul (by simp; omega) hby
       unfold reachBytes at this
       omega
      have hwe : ∀ i (hi : i < elems.length), ∀ n ∈ elems[i].1.weights P e, n ≤ reachBytes := fun i hi n hn => hwt n (by
       simp only [DataW.weights, ht, List.mem_cons, List.mem_append]
       exact .inr (.inl (weights_all (List.mem_map_of_mem (List.getElem_mem hi)) n hn)))
      have each : ∀ i, i < len → ∃ vs', w.cells? base (a.add (i * P.cellsOf e)) (P.cellsOf e) = some vs' ∧ ∃ cs, Seen w vs' (s0 :: l) cs := fun i hi => by
       have g := hget i hi
       rw [List.getElem?_eq_getElem (by omega), Option.bind_eq_some_iff] at g
       obtain ⟨vs', g1, g2⟩ := g
       exact ⟨vs', g1, ih n e vs' _ _ g2 (hwe i (by omega)) he⟩
      have pick : ∃ f : Nat → List Value × List V, ∀ i, i < len → w.cells? base (a.add (i * P.cellsOf e)) (P.cellsOf e) = some (f i).1 ∧ Seen w (f i).1 (s0 :: l) (f i).2 := by
       refine ⟨fun i => if hi : i < len then ((each i hi).choose, (each i hi).choose_spec.2.choose) else ([], []), fun i hi => ?_⟩
       simp only [dif_pos hi]
       exact ⟨(each i hi).choose_spec.1, (each i hi).choose_spec.2.choose_spec⟩
      obtain ⟨f, hf⟩ := pick
      refine ⟨[.row false len (s0 :: l).length fun i => if i < len then (f i).2 else zeroL (s0 :: l)], seen1 (.row hlen (fun h => by cases h) (fun i => ?_) fun i j s c h1 h2 => ?_) (.row (fun i j => ((f i).1[j]?).getD Go.undef) hlc (fun h0 => ⟨?_, id⟩) (fun i hi => ?_) (fun i j hi hj => ?_) (fun i j c hi hc' => ?_) fun i j c hi hc' => ?_)⟩
      ·by_cases hi : i < len
       ·rw [if_pos hi]; exact (hf i hi).2.2.1.1
       ·rw [if_neg hi]; exact zeroL_len _
      ·by_cases hi : i < len
       ·rw [if_pos hi] at h2; exact (hf i hi).2.2.1.2 j s c h1 h2
       ·rw [if_neg hi] at h2; exact zeroL_fit _ j s c h1 h2
      ·have := World.cells?_block (hf 0 h0).1 (by rw [← hw]; simp)
       rwa [block_add] at this
      ·rw [if_pos hi]; exact (hf i hi).2.2.1.1
      ·obtain ⟨_, q1, q2⟩ := World.cells?_some (hf i hi).1
       have hj' : j < (f i).1.length := by rw [q1, ← hw]; exact hj
       have := q2 j (by rw [← hw]; exact hj)
       rw [← hw, Addr.add_add] at this
       rw [this, List.getElem?_eq_getElem hj']
       rfl
      ·rw [if_pos hi] at hc'
       have hj : j < (f i).2.length := (List.getElem?_eq_some_iff.1 hc').1
       have hj' : j < (f i).1.length := by rw [(hf i hi).2.1]; exact hj
       refine (hf i hi).2.2.2 j _ c ?_ hc'
       rw [List.getElem?_eq_getElem hj']; rfl
      ·rw [if_pos hi] at hc'
       exact (hf i hi).2.one hc'
   ·cases hs
  ·rename_i fs ht
   split at hs
   ·rename_i l hl
    cases hc : l.length == P.cellsOf t with
    | false => rw [hc] at hs; cases hs
    | true =>
     rw [hc, cond_true] at hs
     injection hs with hs
     subst hs
     have hw : l.length = P.cellsOf t := by simpa using hc
     obtain ⟨xs, n, _, rfl, hlen, hxs, hget⟩ := DataW.trod_struct ht h
     have key : ∀ (r : List Field) (off : Nat) (l : List Sh), (∀ f ∈ r, ∃ y, DataW.trod enc P w base sp held n f.type ((vs.drop f.offset).take (P.cellsOf f.type)) = some y ∧ ∀ n ∈ y.1.weights P f.type, n ≤ reachBytes) → shFs P (shOf P d) r off = some l → vs.length = off + l.length → ∃ cs, Seen w (vs.drop off) l cs := by
      intro r
      induction r with
      | nil =>
       intro off l _ hl hv
       simp only [shFs, Option.some.injEq] at hl
       subst hl
       rw [List.drop_of_length_le (by simpa using Nat.le_of_eq hv)]
       exact ⟨[], rfl, ⟨rfl, fun j s c h => by simp at h⟩, fun j v c h => by simp at h⟩
      | cons f r ihr =>
       intro off l hr hl hv
       unfold shFs at hl
       split at hl
       ·rename_i a b ha hb
        cases hc : f.offset == off && a.length == P.cellsOf f.type with
        | false => rw [hc] at hl; cases hl
        | true =>
         rw [hc, cond_true] at hl
         injection hl with hl
         subst hl
         rw [Bool.and_eq_true, beq_iff_eq, beq_iff_eq] at hc
         obtain ⟨y, hy, hy2⟩ := hr f (by simp)
         obtain ⟨cs, hcs⟩ := ih n f.type _ _ a hy hy2 ha
         obtain ⟨cs', hcs'⟩ := ihr (off + P.cellsOf f.type) b (fun g hg => hr g (by simp [hg])) hb (by rw [hv, List.length_append, hc.2]; omega)
         refine ⟨cs ++ cs', ?_⟩
         have e : vs.drop off = (vs.drop off).take (P.cellsOf f.type) ++ vs.drop (off + P.cellsOf f.type) := by
          rw [← List.drop_drop]; exact (List.take_append_drop _ _).symm
         rw [e]
         rw [hc.1] at hcs
         exact hcs.append hcs'
       ·cases hl
     have := key fs.toList 0 l (fun f hf => by
      obtain ⟨i, hi, rfl⟩ := List.getElem_of_mem hf
      have hi' : i < fs.size := by simpa using hi
      have g := hget i fs[i] (Array.getElem?_eq_getElem hi')
      rw [List.getElem?_eq_getElem (by omega)] at g
      refine ⟨xs[i]'(by omega), by simpa using g, fun n hn => hwt n ?_⟩
      simp only [DataW.weights, ht]
      exact DataW.weights_mem_each (j := i) (t := fs[i].type) (d := (xs[i]'(by omega)).1) (by simp [hi']) (by simp [show i < xs.length by omega]) n (by simpa using hn)) hl (by rw [hlen, hw, Nat.zero_add])
     rwa [List.drop_zero] at this
   ·cases hs
  ·rename_i n e ht
   split at hs
   ·rename_i l hl
    cases hc : l.length == P.cellsOf e && (shRep n l).length == P.cellsOf t with
    | false => rw [hc] at hs; cases hs
    | true =>
     rw [hc, cond_true] at hs
     injection hs with hs
     subst hs
     rw [Bool.and_eq_true, beq_iff_eq, beq_iff_eq] at hc
     obtain ⟨xs, m, _, rfl, hlen, hxs, hget⟩ := DataW.trod_array ht h
     have key : ∀ (k i : Nat), i + k = n → vs.length = i * P.cellsOf e + (shRep k l).length → ∃ cs, Seen w (vs.drop (i * P.cellsOf e)) (shRep k l) cs := by
      intro k
      induction k with
      | zero =>
       intro i _ hv
       rw [List.drop_of_length_le (by simp only [shRep, List.length_nil] at hv; omega)]
       exact ⟨[], rfl, ⟨rfl, fun j s c h => by simp [shRep] at h⟩, fun j v c h => by simp at h⟩
      | succ k ihk =>
       intro i hi hv
       have g := hget i (by omega)
       rw [List.getElem?_eq_getElem (by omega)] at g
       obtain ⟨cs, hcs⟩ := ih m e _ _ l g (fun q hq => hwt q (by
        simp only [DataW.weights, ht]
        exact weights_all (List.mem_map_of_mem (List.getElem_mem (by omega))) q hq)) hl
       obtain ⟨cs', hcs'⟩ := ihk (i + 1) (by omega) (by rw [hv, shRep, List.length_append, hc.1, Nat.succ_mul]; omega)
       refine ⟨cs ++ cs', ?_⟩
       have e2 : vs.drop (i * P.cellsOf e) = (vs.drop (i * P.cellsOf e)).take (P.cellsOf e) ++ vs.drop ((i + 1) * P.cellsOf e) := by
        rw [Nat.succ_mul, ← List.drop_drop]; exact (List.take_append_drop _ _).symm
       rw [e2]
       exact hcs.append hcs'
     have := key n 0 (by omega) (by rw [hlen, ← hc.2]; omega)
     rwa [Nat.zero_mul, List.drop_zero] at this
   ·cases hs
  ·cases hs
end
def argKs (P : Program) : List TypeId → Option (List (Bool × List Sh))
 | [] => some []
 | t :: ts => match shOf P 12 t, argKs P ts with
  | some l, some r => some ((aggT P t, l) :: r)
  | _, _ => none
def ArgsFit : List (Bool × List Sh) → List V → Prop
 | [], cs => cs = []
 | (true, sh) :: r, cs => ∃ l cs', cs = .agg l :: cs' ∧ FitL sh l ∧ ArgsFit r cs'
 | (false, sh) :: r, cs => ∃ s c cs', sh = [s] ∧ cs = c :: cs' ∧ Fit s c ∧ ArgsFit r cs'
section
variable {H : Type} {enc : TypeId × Value → H} {P : Program} {W : World} {sp : Nat → Bool}
theorem cells_one {r : Reach} {b : Nat} {t : TypeId} {v : Value} {sh : List Sh} (hv : Value.okWide P W r b t v) (ha : aggT P t = false) (hs : shOf P 12 t = some sh) : v.cells.toList = [v] ∧ sh.length = 1 := by
 unfold shOf at hs
 unfold aggT at ha
 unfold Value.okWide Cell.okWide Cell.ok at hv
 split at hs
 ·rename_i k ht
  rw [ht] at hv
  injection hs with hs; subst hs
  cases v <;> simp at hv <;> exact ⟨rfl, rfl⟩
 ·rename_i ht
  rw [ht] at hv
  injection hs with hs; subst hs
  cases v <;> simp at hv <;> exact ⟨rfl, rfl⟩
 ·rename_i ht
  rw [ht] at hv
  injection hs with hs; subst hs
  cases v <;> simp at hv <;> exact ⟨rfl, rfl⟩
 ·rename_i e ht
  rw [ht] at hv
  have h1 : sh.length = 1 := by
   split at hs
   ·rename_i s0 l he
    cases hc : (s0 :: l).length == P.cellsOf e && Nat.ble 1 (P.bytesOf e) with
    | false => rw [hc] at hs; cases hs
    | true => rw [hc, cond_true] at hs; injection hs with hs; subst hs; rfl
   ·cases hs
  refine ⟨?_, h1⟩
  cases v <;> first | rfl | (simp at hv)
 ·rename_i fs ht
  rw [ht] at ha
  cases ha
 ·rename_i n e ht
  rw [ht] at ha
  cases ha
 ·cases hs
theorem agg_of {r : Reach} {b : Nat} {t : TypeId} {v : Value} (hv : Value.okWide P W r b t v) (ha : aggT P t = true) : ∃ a, v = .agg a := by
 unfold aggT at ha
 unfold Value.okWide at hv
 split at ha
 ·rename_i fs ht; rw [ht] at hv; exact ⟨_, hv.choose_spec.1⟩
 ·rename_i n e ht; rw [ht] at hv; exact ⟨_, hv.choose_spec.1⟩
 ·cases ha
theorem args_seen {r : Reach} {b : Nat} : ∀ (ts : List TypeId) (vs : List Value) (ds : List (DataW H)) (ps : List MemPlace) (ks : List (Bool × List Sh)), DataW.TrodAll enc P W 0 sp true ts vs ds ps →
  (∀ (j : Nat) t v, ts[j]? = some t → vs[j]? = some v → Value.okWide P W r b t v) → (∀ n ∈ DataW.weightsEach P ts ds, n ≤ reachBytes) → argKs P ts = some ks →
  ∃ cs, vs.length = cs.length ∧ ArgsFit ks cs ∧ ∀ (i : Nat) (v : Value) (c : V), vs[i]? = some v → cs[i]? = some c → Rel W noPv none_ v c := by
 intro ts
 induction ts with
 | nil =>
  intro vs ds ps ks h _ _ hk
  obtain ⟨rfl, rfl, rfl⟩ := trodAll_nil h
  simp only [argKs, Option.some.injEq] at hk
  subst hk
  exact ⟨[], rfl, rfl, fun i v c h => by simp at h⟩
 | cons t ts ih =>
  intro vs ds ps ks h hv hwt hk
  obtain ⟨v, vs', dd, ds', p, q, rfl, rfl, rfl, h0, hr⟩ := trodAll_cons h
  unfold argKs at hk
  split at hk
  ·rename_i sh kr hsh hkr
   injection hk with hk
   subst hk
   obtain ⟨cs', l', f', r'⟩ := ih vs' ds' q kr hr (fun j t' v' a1 a2 => hv (j + 1) t' v' (by simpa using a1) (by simpa using a2)) (fun n hn => hwt n (by simp only [DataW.weightsEach, List.mem_append]; exact .inr hn)) hkr
   obtain ⟨fuel, hfu⟩ := h0
   obtain ⟨cs, hcs⟩ := seen_of 12 fuel t _ _ sh hfu (fun n hn => hwt n (by simp only [DataW.weightsEach, List.mem_append]; exact .inl hn)) hsh
   have hv0 := hv 0 t v rfl rfl
   cases ha : aggT P t with
   | true =>
    obtain ⟨a, rfl⟩ := agg_of hv0 ha
    refine ⟨.agg cs :: cs', by simp [l'], ⟨cs, cs', rfl, hcs.2.1, f'⟩, fun i v c h1 h2 => ?_⟩
    match i with
    | 0 =>
     simp only [List.getElem?_cons_zero, Option.some.injEq] at h1 h2
     subst h1 h2
     have hl := hcs.1
     simp only [Value.cells, Array.length_toList] at hl
     refine .agg hl fun j v c g1 g2 => hcs.2.2 j v c ?_ g2
     rw [Array.getElem?_toList]; exact g1
    | i + 1 => exact r' i v c (by simpa using h1) (by simpa using h2)
   | false =>
    obtain ⟨e1, e2⟩ := cells_one hv0 ha hsh
    rw [e1] at hcs
    match sh, e2 with
    | [s], _ =>
     have hl : cs.length = 1 := hcs.1.symm
     match cs, hl with
     | [c0], _ =>
      refine ⟨c0 :: cs', by simp [l'], ⟨s, c0, cs', rfl, rfl, hcs.2.1.2 0 s c0 rfl rfl, f'⟩, fun i v c h1 h2 => ?_⟩
      match i with
      | 0 =>
       simp only [List.getElem?_cons_zero, Option.some.injEq] at h1 h2
       subst h1 h2
       exact hcs.2.2 0 _ _ rfl rfl
      | i + 1 => exact r' i v c (by simpa using h1) (by simpa using h2)
  ·cases hk
theorem trod_count : ∀ {ts : List TypeId} {vs : List Value} {ds : List (DataW H)} {ps : List MemPlace}, DataW.TrodAll enc P W 0 sp true ts vs ds ps → ds.length = ts.length := by
 intro ts
 induction ts with
 | nil => intro vs ds ps h; obtain ⟨rfl, rfl, rfl⟩ := trodAll_nil h; rfl
 | cons t ts ih =>
  intro vs ds ps h
  obtain ⟨v, vs', dd, ds', p, q, rfl, rfl, rfl, _, hr⟩ := trodAll_cons h
  simp [ih hr]
theorem args_stay (hl : laidOutB P = true) {W' : World} (hb : Below W.heap.size W W') {sp' : Nat → Bool} : ∀ (ts : List TypeId) (vs : List Value) (ds : List (DataW H)) (ps : List MemPlace), (∀ t ∈ ts, P.readableRec t = true ∧ t < P.types.size) →
  DataW.TrodAll enc P W 0 (fun _ => true) true ts vs ds ps → (∀ x ∈ ps, x.block < W.heap.size) → (∀ x ∈ ps, sp' x.block = true) → DataW.TrodAll enc P W' 0 sp' true ts vs ds ps := by
 intro ts
 induction ts with
 | nil =>
  intro vs ds ps _ h _ _
  obtain ⟨rfl, rfl, rfl⟩ := trodAll_nil h
  exact trodAll_mk0
 | cons t ts ih =>
  intro vs ds ps ht h hlt hsp
  obtain ⟨v, vs', dd, ds', p, q, rfl, rfl, rfl, h0, hr⟩ := trodAll_cons h
  exact trodAll_cons_mk (WideElems.Trod_stays hl (ht t (by simp)).1 (ht t (by simp)).2 h0 (fun x hx => hb.same (hlt x (by simp [hx]))) fun x hx => hsp x (by simp [hx]))
   (ih vs' ds' q (fun t' h' => ht t' (by simp [h'])) hr (fun x hx => hlt x (by simp [hx])) fun x hx => hsp x (by simp [hx]))
theorem post_below {f : Func} {s : ChangeSpec} {apart fresh handsOn again : Bool} {W W' : World} {args : Array Value} {v : Value} {ds gs : List (DataW H)} {before pa pv : List MemPlace}
  (hW : DataW.Whole enc P f.params.toList s.vars apart W args.toList ds gs before)
  (hres : ∀ (b : Nat) (sp : Nat → Bool) (hd : Bool), DataW.TrodAll enc P W' b sp hd f.resultTypes.toList (v.resultList f.resultTypes.size) (s.fn H (ds ++ gs)).results [])
  (hargs : ∀ sp : Nat → Bool, (∀ p ∈ before, sp p.block = true) → DataW.TrodAll enc P W' 0 sp true f.params.toList args.toList (s.fn H (ds ++ gs)).args pa)
  (hvars : ∀ sp : Nat → Bool, (∀ p ∈ before, sp p.block = true) → DataW.TrodVars enc P W' sp s.vars (s.fn H (ds ++ gs)).vars pv)
  (hps : before = pa ++ pv) (hb : Below W.heap.size W W')
  (hok : ∀ (j : Nat) (t : TypeId) (r : Value), f.resultTypes[j]? = some t → (v.resultList f.resultTypes.size)[j]? = some r → Value.okWide P W' .any 0 t r) :
  s.post enc P f apart fresh handsOn again W args v W' := by
 have hlt : ∀ p ∈ before, p.block < W.heap.size := fun p hp => hW.lt p hp
 have hold : ∀ p ∈ before, (fun b => decide (b < W.heap.size)) p.block = true := fun p hp => by simpa using hlt p hp
 refine ⟨ds, gs, before, [], pa, pv, hW, hres _ _ _, hargs _ hold, hvars _ hold, World.keptBut_mono (fun p hp => ⟨hp, ?_⟩) (hb.frame (· ∈ before)), fun _ => ?_⟩
 ·rw [hps, List.mem_append] at hp
  exact Or.inr hp
 ·obtain ⟨_, _, _, _, _, hz, hn⟩ := hW
  refine ⟨hok, _, _, ([] ++ pa) ++ pv, ⟨[] ++ pa, pv, trodAll_append (hargs _ (fun _ _ => rfl)) (hres _ _ _), hvars _ (fun _ _ => rfl), rfl, ?_, ?_⟩, ?_⟩
  ·intro b off hp
   have hin : MemPlace.cell b off ∈ before := by rw [hps]; simpa using hp
   rw [hb.frozen (hlt _ hin)]
   exact hz b off hin
  ·intro ha
   have := hn ha
   rw [hps] at this
   simpa using this
  ·intro p hp _
   rw [hps]
   simpa using hp
end
theorem weights_more {H : Type} {P : Program} : ∀ (ts us : List TypeId) (ds : List (DataW H)) (n : Nat), n ∈ DataW.weightsEach P ts ds → n ∈ DataW.weightsEach P (ts ++ us) ds := by
 intro ts
 induction ts with
 | nil => intro us ds n h; simp [DataW.weightsEach] at h
 | cons t ts ih =>
  intro us ds n h
  cases ds with
  | nil => simp [DataW.weightsEach] at h
  | cons d ds =>
   simp only [List.cons_append, DataW.weightsEach, List.mem_append] at h ⊢
   rcases h with h | h
   ·exact .inl h
   ·exact .inr (ih us ds n h)
def SaysTrue (s : ChangeSpec) (n : Nat) : Prop := s.vars = [] ∧ ∀ (H : Type) (ds : List (DataW H)), ds.length = n → (s.fn H (ds ++ [])).results = [.lit (.bool true)] ∧ (s.fn H (ds ++ [])).args = ds ∧ (s.fn H (ds ++ [])).vars = []
theorem law_contract {P : Program} {H : Type} {enc : TypeId × Value → H} {f : FuncId} {fn : Func} {s : ChangeSpec} {env : Env} {ks : List (Bool × List Sh)} {tb : TypeId} (henv : OkEnv P env) (hk : argKs P fn.params.toList = some ks)
  (hE : ∀ cs, ArgsFit ks cs → env.pf f cs = some (.ret (.bool true))) (hs : SaysTrue s fn.params.size) (hr : fn.resultTypes = #[tb]) (htb : P.underlying tb = some .bool)
  (hl : laidOutB P = true) (hrd : ∀ t ∈ fn.params.toList, P.readableRec t = true ∧ t < P.types.size) (W : World) (base : Nat) (args : Array Value) (ds gs : List (DataW H)) (before : List MemPlace)
  (hval : ∀ (j : Nat) t v, fn.params[j]? = some t → args[j]? = some v → Value.okWide P W .any base t v) (hW : DataW.Whole enc P fn.params.toList s.vars false W args.toList ds gs before)
  (hwt : (DataW.weightsEach P (fn.params.toList ++ s.plain.varTypes P) (ds ++ gs)).all (· ≤ reachBytes) = true) :
  Calls P f args W fun e W' => ∃ v, e = .returned v ∧ s.post enc P fn false true false false W args v W' := by
 have hW' := hW
 have hlt := hW.lt
 obtain ⟨p, q, hA, hV, rfl, _, _⟩ := hW
 rw [hs.1] at hV
 obtain ⟨rfl, rfl⟩ := trodVars_none hV
 rw [List.append_nil] at hW' hlt
 have hds : ds.length = fn.params.size := by simpa using trod_count hA
 obtain ⟨cs, hlen, hfit, hrel⟩ := args_seen fn.params.toList args.toList ds p ks hA (fun j t v h1 h2 => hval j t v (by simpa using h1) (by simpa using h2)) (fun n hn => by
  have := List.all_eq_true.1 hwt n (by rw [List.append_nil]; exact weights_more _ _ _ n hn)
  simpa using this) hk
 obtain ⟨s1, s2, s3⟩ := hs.2 H ds hds
 refine ((henv.pf f cs _ (hE cs hfit)).2 W noPv (fun _ h => h.elim) args ⟨by simpa using hlen, fun i v c h1 h2 => hrel i v c (by rw [Array.getElem?_toList]; exact h1) h2⟩).mono fun e W' ⟨ho, hb⟩ => ?_
 obtain ⟨u, rfl, hu⟩ := ho
 cases hu
 refine ⟨_, rfl, post_below (pa := p) (pv := []) hW' (fun b sp hd => ?_) (fun sp hsp => ?_) (fun sp _ => ?_) (List.append_nil p).symm hb (ok_one hr rfl (okWide_bool_mk htb _))⟩
 ·rw [s1, hr]
  exact trodAll_mk1 (shut_bool htb true)
 ·rw [s2]
  exact args_stay hl hb fn.params.toList args.toList ds p hrd hA (fun x hx => hlt x hx) hsp
 ·rw [hs.1, s3]
  exact rfl
end Go.Sim


namespace Go.Sim
end Go.Sim


namespace Go.Sim.Le
open Go.RowKit Go.Proofs Go.Maps
def keepTab : List (Nat × List (Nat × List Nat)) := [
 (3, [(4, [3, 4, 5, 6, 7, 8, 9, 15]), (13, [3, 4, 5, 6, 7, 9, 16, 17, 19, 20]), (31, [5, 6, 19, 22, 23, 24, 26, 27, 28]), (35, [5, 6, 19, 22, 23, 24, 26, 27, 29]), (43, [5, 6, 19, 22, 23, 24, 26, 27, 29, 30, 35])]),
 (4, [(2, [1, 3])]),
 (11, [(2, [0, 3])]),
 (12, [(2, [0, 3])]),
 (14, [(6, [2, 3, 8, 23, 24]), (18, [2, 3, 10, 11, 12, 13, 40, 41])]),
 (15, [(2, [0, 1, 2, 7]), (7, [0, 1, 2, 7, 8])]),
 (16, [(3, [0, 3, 4])]),
 (24, [(10, [1, 2, 7, 8, 9, 10, 42, 43])]),
 (26, [(4, [0, 1, 5])]),
 (27, [(2, [1, 4])]),
 (32, [(2, [0, 1, 4, 5, 6])]),
 (33, [(2, [1, 3])]),
 (40, [(9, [0, 1, 2, 3, 4, 6, 9, 10, 13, 41, 42])]),
 (41, [(3, [0, 1, 3, 8, 9, 14, 15, 16])]),
 (42, [(3, [0, 5, 6])]),
 (43, [(2, [20, 21])]),
 (44, [(3, [0, 3, 9, 10, 11])]),
 (45, [(12, [1, 2, 4, 5, 11, 59, 60, 61])]),
 (46, [(3, [3, 6, 7, 8])]),
 (51, [(2, [0, 1, 2, 3, 15, 16]), (6, [0, 1, 2, 3, 10, 11, 12, 15, 16, 19, 20, 21])]),
 (52, [(4, [0, 2, 5, 7, 11, 12, 13, 29, 30]), (10, [0, 2, 5, 7, 11, 12, 13, 15, 16, 17, 18, 29, 30, 38, 39, 40]), (16, [0, 2, 5, 7, 11, 12, 13, 15, 17, 18, 29, 30, 66, 67, 68])]),
 (55, [(3, [0, 2, 3, 10, 11, 12])]),
 (56, [(2, [1, 7, 8, 9])]),
 (57, [(2, [1, 2, 7, 8, 9])]),
 (58, [(3, [0, 1, 5, 26, 27]), (11, [0, 1, 5, 8]), (14, [0, 1, 5, 8, 81, 82])]),
 (68, [(2, [1, 7, 8, 9])]),
 (77, [(3, [3, 9, 10, 11])]),
 (81, [(2, [1, 4, 9, 10, 11])]),
 (84, [(3, [1, 3, 5, 7, 10, 11, 12])]),
 (87, [(3, [3, 6, 7, 8])]),
 (90, [(3, [0, 1, 5, 7, 23, 24]), (11, [0, 5, 7, 9, 10, 11])]),
 (97, [(2, [0, 1, 2, 3, 5, 6])]),
 (98, [(2, [6, 7])]),
 (100, [(2, [1, 7, 8, 9])]),
 (103, [(2, [0, 1, 11, 12, 13])]),
 (110, [(2, [0, 1, 13, 14, 15]), (5, [0, 1, 13, 14, 15, 20, 21, 22])]),
 (122, [(2, [0, 1, 7, 8])]),
 (124, [(2, [1, 7, 8, 9])]),
 (127, [(2, [0, 1, 2, 6, 7, 8]), (7, [0, 1, 2, 6]), (9, [0, 1, 2, 6, 7, 8])]),
 (128, [(2, [0, 1, 7, 8])]),
 (129, [(1, [0, 2, 11, 12, 13])]),
 (136, [(1, [0, 1, 2, 3, 8]), (4, [0, 1, 2, 3, 8, 9])]),
 (137, [(3, [0, 1, 4, 10, 11]), (9, [0, 10, 13]), (15, [0, 2, 4, 14, 15]), (21, [0, 14, 17]), (33, [0, 1, 2, 3, 4, 18, 19, 20, 21, 22])]),
 (138, [(3, [1, 4, 5, 19, 20, 21])]),
 (139, [(2, [0, 2, 4, 10, 11])]),
 (140, [(1, [0, 1, 2, 3, 10])])]
def look {α : Type} (n : Nat) : List (Nat × α) → (d : α) → α
 | [], d => d
 | (m, a) :: r, d => bif n == m then a else look n r d
def eqT (t n : Nat) : Bool := t == 42 && n == 2
def hb (f : Nat) : Bool := f == 40 || f == 111 || f == 103 || f == 107 || f == 127 || f == 136 || f == 137 || f == 139 || f == 140 || f == 59
def keyT (t : Nat) : Bool := t == 102
def fnT (t : Nat) : Option (Nat × List Nat) := bif t == 167 then some (110, [23, 31]) else none
def ro (_ _ : Nat) : Bool := false
def hm (f : Nat) : Bool := f == 116 || f == 117 || f == 121
def opt : Opt := { eqT := eqT, hb := hb, keyT := keyT, fnT := fnT, ro := ro, hm := hm }
def cfg (F f : Nat) : Cfg := { x := { opt with bx := fun d => f == 58 && d == some 20 }, keep := fun r => look r (look f keepTab []) [], fuel := fun r => bif (f == 43 && r == 2) || (f == 41 && r == 3) then F + 7 else F, marks := f == 109 || f == 45 || f == 59 || f == 90 }
noncomputable def E (F d : Nat) : Env := envN Tryz.prog (cfg F) d
theorem E_pf (F d f : Nat) (a : List V) : (E F (d + 1)).pf f a = evFun Tryz.prog (cfg F) (E F d) f a := by kernel_rfl
theorem E_hv (F d f : Nat) (a : List V) (hp : List Slot) : (E F (d + 1)).hv f a hp = evFunH Tryz.prog (cfg F) (E F d) f a hp := by kernel_rfl
theorem names : OkNames Tryz.prog := okNames_of (by kernel_rfl)
end Go.Sim.Le


namespace Go.Sim.Le
open Go.RowKit Go.Proofs Go.Maps
section
variable (w : World)
theorem part3 (cs : Array Value) (off : Nat) (v : Value) (h : cs[off]? = some v) : (part 3 cs off).run Tryz.prog w = .ok v w := by
 unfold part; simp [Tryz.isAgg3, h]
theorem int3 (d : Nat) (k : IntKind) (a b : Int) : (Op.equalIn (d + 1) 3 (.int k a) (.int k b)).run Tryz.prog w = .ok (a == b) w := run_equalIn_int w d 3 k .i64 a b Tryz.underlying3
theorem fieldsOf_ {t : TypeId} {fs : Array Field} (h : Tryz.prog.underlying t = some (.struct fs)) : Tryz.prog.fieldsOf t = fs := by simp [Program.fieldsOf, h]
theorem eqS {d : Nat} {t : TypeId} {fs : Array Field} (xs ys : Array Value) (h : Tryz.prog.underlying t = some (.struct fs)) (hp : Tryz.prog.stoodInHeld t = false) : (Op.equalIn (d + 1) t (.agg xs) (.agg ys)).run Tryz.prog w = (Op.eqFields d xs ys fs.toList).run Tryz.prog w := by
 rw [run_equalIn_struct w d t xs ys (by rw [fieldsOf_ h]; exact h) hp, fieldsOf_ h]
theorem eqF {d : Nat} {xs ys : Array Value} {f : Field} {fs : List Field} {a b : Value} {r : Bool} (hn : f.name ≠ "_") (ha : (part f.type xs f.offset).run Tryz.prog w = .ok a w) (hb : (part f.type ys f.offset).run Tryz.prog w = .ok b w)
  (he : (Op.equalIn d f.type a b).run Tryz.prog w = .ok r w) {q : Bool} (hr : (Op.eqFields d xs ys fs).run Tryz.prog w = .ok q w) : (Op.eqFields d xs ys (f :: fs)).run Tryz.prog w = .ok (r && q) w := by
 simp only [Op.eqFields, if_pos hn, Sem.run_bind, ha, hb, he, Result.andThen_ok]
 cases r
 ·simp
 ·simp [hr]
theorem eqN {d : Nat} {xs ys : Array Value} : (Op.eqFields d xs ys []).run Tryz.prog w = .ok true w := rfl
set_option maxRecDepth 100000 in
theorem eq42 (d : Nat) (k0 k1 : IntKind) (a b c e : Int) : (Op.equalIn (d + 2) 42 (.agg #[.int k0 a, .int k1 b]) (.agg #[.int k0 c, .int k1 e])).run Tryz.prog w = .ok (a == c && (b == e && true)) w :=
 (eqS w _ _ Tryz.underlying42 Tryz.stoodInHeld42).trans (eqF w (by simp) (part3 w _ _ _ rfl) (part3 w _ _ _ rfl) (int3 ..) (eqF w (by simp) (part3 w _ _ _ rfl) (part3 w _ _ _ rfl) (int3 ..) (eqN w)))
set_option maxRecDepth 100000 in
theorem okEq : OkEq Tryz.prog eqT := by
 intro t op xs ys x y w bs cs r het hcs pv ρ hx hy
 obtain ⟨l, rfl, rfl, rfl⟩ := eqCs_inv hcs
 have hx' := relL_ints (l := l.map fun p => (p.1, p.2.1)) (by simpa [List.map_map, Function.comp_def] using hx)
 have hy' := relL_ints (l := l.map fun p => (p.1, p.2.2)) (by simpa [List.map_map, Function.comp_def] using hy)
 subst hx' hy'
 clear hx hy hcs
 have fin : Tryz.prog.eqGuardType Tryz.prog.depth t = false → (Op.equalIn 10000 t (.agg ((l.map fun p => (p.1, p.2.1)).map fun p => Value.int p.1 p.2).toArray) (.agg ((l.map fun p => (p.1, p.2.2)).map fun p => Value.int p.1 p.2).toArray)).run Tryz.prog w = .ok (l.all fun p => p.2.1 == p.2.2) w →
   (op = .eql → (do eqGuard op t x y (.agg ((l.map fun p => (p.1, p.2.1)).map fun p => Value.int p.1 p.2).toArray) (.agg ((l.map fun p => (p.1, p.2.2)).map fun p => Value.int p.1 p.2).toArray); binOp op t (.agg ((l.map fun p => (p.1, p.2.1)).map fun p => Value.int p.1 p.2).toArray) (.agg ((l.map fun p => (p.1, p.2.2)).map fun p => Value.int p.1 p.2).toArray) : Sem Value).run Tryz.prog w = .ok (.bool (l.all fun p => p.2.1 == p.2.2)) w) ∧
   (op = .neq → (do eqGuard op t x y (.agg ((l.map fun p => (p.1, p.2.1)).map fun p => Value.int p.1 p.2).toArray) (.agg ((l.map fun p => (p.1, p.2.2)).map fun p => Value.int p.1 p.2).toArray); binOp op t (.agg ((l.map fun p => (p.1, p.2.1)).map fun p => Value.int p.1 p.2).toArray) (.agg ((l.map fun p => (p.1, p.2.2)).map fun p => Value.int p.1 p.2).toArray) : Sem Value).run Tryz.prog w = .ok (.bool (!(l.all fun p => p.2.1 == p.2.2))) w) := by
  intro hg he
  constructor
  ·rintro rfl
   rw [Sem.run_bind, run_eqGuard_agg w _ _ _ _ _ _ hg, Result.andThen_ok, run_eql_struct, he]; rfl
  ·rintro rfl
   rw [Sem.run_bind, run_eqGuard_agg w _ _ _ _ _ _ hg, Result.andThen_ok, run_neq_struct, he]; rfl
 simp only [eqT, Bool.or_eq_true, Bool.and_eq_true, beq_iff_eq, List.length_map] at het
 have l2 : l.length = 2 → ∃ p0 p1, l = [p0, p1] := fun h => by match l, h with | [p0, p1], _ => exact ⟨p0, p1, rfl⟩
 obtain ⟨rfl, hl⟩ := het
 obtain ⟨p0, p1, rfl⟩ := l2 hl
 exact fin Tryz.eqGuardType42 (eq42 w 9998 p0.1 p1.1 p0.2.1 p1.2.1 p0.2.2 p1.2.2)
end
end Go.Sim.Le


namespace Go.Sim.Le
open Go.RowKit Go.Proofs Go.Maps
theorem laid : laidOutB Tryz.prog = true := by kernel_rfl
theorem wf_mk {x : Int} (h1 : IntKind.i64.min ≤ x) (h2 : x ≤ IntKind.i64.max) : (Lit.int .i64 x).wf = true := by
 unfold Lit.wf
 simp only [Bool.and_eq_true, decide_eq_true_eq]
 exact ⟨h1, h2⟩
theorem ksI {ks : List KS} {cs : List V} (h : kssB (.int .i64 :: ks) cs = true) : ∃ x r, cs = .int .i64 x :: r ∧ (Lit.int .i64 x).wf = true ∧ kssB ks r = true := by
 cases cs with
 | nil => simp [kssB] at h
 | cons c r =>
  simp only [kssB, Bool.and_eq_true] at h
  cases c with
  | int q x =>
   have h1 := h.1
   simp only [ksB, Bool.and_eq_true, decide_eq_true_eq] at h1
   obtain ⟨rfl, h3, h4⟩ := h1
   exact ⟨x, r, rfl, wf_mk h3 h4, h.2⟩
  | _ => simp [ksB] at h
theorem ksBo {ks : List KS} {cs : List V} (h : kssB (.bool :: ks) cs = true) : ∃ x r, cs = .bool x :: r ∧ kssB ks r = true := by
 cases cs with
 | nil => simp [kssB] at h
 | cons c r =>
  simp only [kssB, Bool.and_eq_true] at h
  cases c with
  | bool x => exact ⟨x, r, rfl, h.2⟩
  | _ => simp [ksB] at h
def valC : V → Value
 | .int q n => .int q n
 | .bool b => .bool b
 | _ => .bool false
def plainC : V → Bool
 | .int _ _ => true
 | .bool _ => true
 | _ => false
theorem rel_plain {w : World} {pv : Nat → Prop} {ρ : Nat → Option Info} {v : Value} {c : V} (h : Rel w pv ρ v c) (hp : plainC c = true) : v = valC c := by
 cases h <;> first | rfl | (simp [plainC] at hp)
theorem relL_plain {w : World} {pv : Nat → Prop} {ρ : Nat → Option Info} {vs : Array Value} {cs : List V} (hl : vs.size = cs.length) (h : ∀ (i : Nat) v c, vs[i]? = some v → cs[i]? = some c → Rel w pv ρ v c) (hp : ∀ c ∈ cs, plainC c = true) : vs = (cs.map valC).toArray := by
 apply Array.ext_getElem?
 intro i
 by_cases hi : i < cs.length
 ·have h1 : vs[i]? = some vs[i] := Array.getElem?_eq_getElem (by omega)
  have h2 : cs[i]? = some cs[i] := List.getElem?_eq_getElem hi
  rw [h1]
  simp only [List.getElem?_toArray, List.getElem?_map, h2, Option.map_some]
  rw [rel_plain (h i _ _ h1 h2) (hp _ (List.getElem_mem hi))]
 ·rw [Array.getElem?_eq_none (by omega)]
  simp only [List.getElem?_toArray, List.getElem?_map, List.getElem?_eq_none (by omega : cs.length ≤ i), Option.map_none]
theorem lits3 {d : Nat} {x : Int} (h : (Lit.int .i64 x).wf = true) : Tryz.prog.keyLits (d + 1) 3 [.int .i64 x] = some [.int .i64 x] := by
 unfold Program.keyLits
 rw [Tryz.underlying3]
 simp [h]
theorem lits4 {d : Nat} {x : Bool} : Tryz.prog.keyLits (d + 1) 4 [.bool x] = some [.bool x] := by
 unfold Program.keyLits
 rw [Tryz.underlying4]
theorem cells3 : Tryz.prog.cellsOf 3 = 1 := by kernel_rfl
theorem cells4 : Tryz.prog.cellsOf 4 = 1 := by kernel_rfl
theorem cells99 : Tryz.prog.cellsOf 99 = 5 := by kernel_rfl
theorem cells100 : Tryz.prog.cellsOf 100 = 30 := by kernel_rfl
theorem cells102 : Tryz.prog.cellsOf 102 = 31 := by kernel_rfl
theorem tys : ∃ n, Tryz.prog.types.size = n + 9 := by
 have h : 9 ≤ Tryz.prog.types.size := by decide +kernel
 exact ⟨Tryz.prog.types.size - 9, by omega⟩
theorem lits99 {d : Nat} {a e : Bool} {x y z : Int} (hx : (Lit.int .i64 x).wf = true) (hy : (Lit.int .i64 y).wf = true) (hz : (Lit.int .i64 z).wf = true) : Tryz.prog.keyLits (d + 2) 99 [.bool a, .int .i64 x, .int .i64 y, .int .i64 z, .bool e] = some [.bool a, .int .i64 x, .int .i64 y, .int .i64 z, .bool e] := by
 unfold Program.keyLits
 simp only [Tryz.underlying99, cells99]
 rw [if_pos ⟨rfl, by decide +kernel⟩]
 simp [cells3, cells4, lits4, lits3 hx, lits3 hy, lits3 hz]
set_option maxRecDepth 100000 in
theorem lits100 {d : Nat} {a0 e0 a1 e1 a2 e2 a3 e3 a4 e4 a5 e5 : Bool} {x0 y0 z0 x1 y1 z1 x2 y2 z2 x3 y3 z3 x4 y4 z4 x5 y5 z5 : Int} (hx0 : (Lit.int .i64 x0).wf = true) (hy0 : (Lit.int .i64 y0).wf = true) (hz0 : (Lit.int .i64 z0).wf = true) (hx1 : (Lit.int .i64 x1).wf = true) (hy1 : (Lit.int .i64 y1).wf = true) (hz1 : (Lit.int .i64 z1).wf = true) (hx2 : (Lit.int .i64 x2).wf = true) (hy2 : (Lit.int .i64 y2).wf = true) (hz2 : (Lit.int .i64 z2).wf = true) (hx3 : (Lit.int .i64 x3).wf = true) (hy3 : (Lit.int .i64 y3).wf = true) (hz3 : (Lit.int .i64 z3).wf = true) (hx4 : (Lit.int .i64 x4).wf = true) (hy4 : (Lit.int .i64 y4).wf = true) (hz4 : (Lit.int .i64 z4).wf = true) (hx5 : (Lit.int .i64 x5).wf = true) (hy5 : (Lit.int .i64 y5).wf = true) (hz5 : (Lit.int .i64 z5).wf = true) : Tryz.prog.keyLits (d + 3) 100 [.bool a0, .int .i64 x0, .int .i64 y0, .int .i64 z0, .bool e0, .bool a1, .int .i64 x1, .int .i64 y1, .int .i64 z1, .bool e1, .bool a2, .int .i64 x2, .int .i64 y2, .int .i64 z2, .bool e2, .bool a3, .int .i64 x3, .int .i64 y3, .int .i64 z3, .bool e3, .bool a4, .int .i64 x4, .int .i64 y4, .int .i64 z4, .bool e4, .bool a5, .int .i64 x5, .int .i64 y5, .int .i64 z5, .bool e5] = some [.bool a0, .int .i64 x0, .int .i64 y0, .int .i64 z0, .bool e0, .bool a1, .int .i64 x1, .int .i64 y1, .int .i64 z1, .bool e1, .bool a2, .int .i64 x2, .int .i64 y2, .int .i64 z2, .bool e2, .bool a3, .int .i64 x3, .int .i64 y3, .int .i64 z3, .bool e3, .bool a4, .int .i64 x4, .int .i64 y4, .int .i64 z4, .bool e4, .bool a5, .int .i64 x5, .int .i64 y5, .int .i64 z5, .bool e5] := by
 unfold Program.keyLits
 simp only [Tryz.underlying100, cells100]
 rw [if_pos (by simp), show List.range 6 = [0, 1, 2, 3, 4, 5] from rfl]
 simp [cells99, lits99 hx0 hy0 hz0, lits99 hx1 hy1 hz1, lits99 hx2 hy2 hz2, lits99 hx3 hy3 hz3, lits99 hx4 hy4 hz4, lits99 hx5 hy5 hz5]
set_option maxRecDepth 100000 in
theorem lits102 {d : Nat} {t : Int} {a0 e0 a1 e1 a2 e2 a3 e3 a4 e4 a5 e5 : Bool} {x0 y0 z0 x1 y1 z1 x2 y2 z2 x3 y3 z3 x4 y4 z4 x5 y5 z5 : Int} (ht : (Lit.int .i64 t).wf = true) (hx0 : (Lit.int .i64 x0).wf = true) (hy0 : (Lit.int .i64 y0).wf = true) (hz0 : (Lit.int .i64 z0).wf = true) (hx1 : (Lit.int .i64 x1).wf = true) (hy1 : (Lit.int .i64 y1).wf = true) (hz1 : (Lit.int .i64 z1).wf = true) (hx2 : (Lit.int .i64 x2).wf = true) (hy2 : (Lit.int .i64 y2).wf = true) (hz2 : (Lit.int .i64 z2).wf = true) (hx3 : (Lit.int .i64 x3).wf = true) (hy3 : (Lit.int .i64 y3).wf = true) (hz3 : (Lit.int .i64 z3).wf = true) (hx4 : (Lit.int .i64 x4).wf = true) (hy4 : (Lit.int .i64 y4).wf = true) (hz4 : (Lit.int .i64 z4).wf = true) (hx5 : (Lit.int .i64 x5).wf = true) (hy5 : (Lit.int .i64 y5).wf = true) (hz5 : (Lit.int .i64 z5).wf = true) : Tryz.prog.keyLits (d + 4) 102 [.int .i64 t, .bool a0, .int .i64 x0, .int .i64 y0, .int .i64 z0, .bool e0, .bool a1, .int .i64 x1, .int .i64 y1, .int .i64 z1, .bool e1, .bool a2, .int .i64 x2, .int .i64 y2, .int .i64 z2, .bool e2, .bool a3, .int .i64 x3, .int .i64 y3, .int .i64 z3, .bool e3, .bool a4, .int .i64 x4, .int .i64 y4, .int .i64 z4, .bool e4, .bool a5, .int .i64 x5, .int .i64 y5, .int .i64 z5, .bool e5] = some [.int .i64 t, .bool a0, .int .i64 x0, .int .i64 y0, .int .i64 z0, .bool e0, .bool a1, .int .i64 x1, .int .i64 y1, .int .i64 z1, .bool e1, .bool a2, .int .i64 x2, .int .i64 y2, .int .i64 z2, .bool e2, .bool a3, .int .i64 x3, .int .i64 y3, .int .i64 z3, .bool e3, .bool a4, .int .i64 x4, .int .i64 y4, .int .i64 z4, .bool e4, .bool a5, .int .i64 x5, .int .i64 y5, .int .i64 z5, .bool e5] := by
 unfold Program.keyLits
 simp only [Tryz.underlying102, cells102]
 rw [if_pos ⟨rfl, by decide +kernel⟩]
 simp [cells3, cells100, lits3 ht, lits100 hx0 hy0 hz0 hx1 hy1 hz1 hx2 hy2 hz2 hx3 hy3 hz3 hx4 hy4 hz4 hx5 hy5 hz5]
set_option maxRecDepth 100000 in
theorem key102 {w : World} {pv : Nat → Prop} {ρ : Nat → Option Info} {v : Value} {c : V} (hr : Rel w pv ρ v c) (h : keyB (aggT Tryz.prog 102) (kssOf Tryz.prog 12 102) c = true) : ∃ l, keyOf Tryz.prog 102 v = some l := by
 rw [show aggT Tryz.prog 102 = true by kernel_rfl, show kssOf Tryz.prog 12 102 = [.int .i64, .bool, .int .i64, .int .i64, .int .i64, .bool, .bool, .int .i64, .int .i64, .int .i64, .bool, .bool, .int .i64, .int .i64, .int .i64, .bool, .bool, .int .i64, .int .i64, .int .i64, .bool, .bool, .int .i64, .int .i64, .int .i64, .bool, .bool, .int .i64, .int .i64, .int .i64, .bool] by kernel_rfl] at h
 cases c with
 | agg cs =>
  simp only [keyB, Bool.true_and] at h
  obtain ⟨t, r, rfl, ht, h⟩ := ksI h
  obtain ⟨a0, ra0, hra0, ha0⟩ := ksBo h
  obtain ⟨x0, rx0, hrx0, hx0, hb0⟩ := ksI ha0
  obtain ⟨y0, ry0, hry0, hy0, hc0⟩ := ksI hb0
  obtain ⟨z0, rz0, hrz0, hz0, hd0⟩ := ksI hc0
  obtain ⟨e0, re0, hre0, he0⟩ := ksBo hd0
  obtain ⟨a1, ra1, hra1, ha1⟩ := ksBo he0
  obtain ⟨x1, rx1, hrx1, hx1, hb1⟩ := ksI ha1
  obtain ⟨y1, ry1, hry1, hy1, hc1⟩ := ksI hb1
  obtain ⟨z1, rz1, hrz1, hz1, hd1⟩ := ksI hc1
  obtain ⟨e1, re1, hre1, he1⟩ := ksBo hd1
  obtain ⟨a2, ra2, hra2, ha2⟩ := ksBo he1
  obtain ⟨x2, rx2, hrx2, hx2, hb2⟩ := ksI ha2
  obtain ⟨y2, ry2, hry2, hy2, hc2⟩ := ksI hb2
  obtain ⟨z2, rz2, hrz2, hz2, hd2⟩ := ksI hc2
  obtain ⟨e2, re2, hre2, he2⟩ := ksBo hd2
  obtain ⟨a3, ra3, hra3, ha3⟩ := ksBo he2
  obtain ⟨x3, rx3, hrx3, hx3, hb3⟩ := ksI ha3
  obtain ⟨y3, ry3, hry3, hy3, hc3⟩ := ksI hb3
  obtain ⟨z3, rz3, hrz3, hz3, hd3⟩ := ksI hc3
  obtain ⟨e3, re3, hre3, he3⟩ := ksBo hd3
  obtain ⟨a4, ra4, hra4, ha4⟩ := ksBo he3
  obtain ⟨x4, rx4, hrx4, hx4, hb4⟩ := ksI ha4
  obtain ⟨y4, ry4, hry4, hy4, hc4⟩ := ksI hb4
  obtain ⟨z4, rz4, hrz4, hz4, hd4⟩ := ksI hc4
  obtain ⟨e4, re4, hre4, he4⟩ := ksBo hd4
  obtain ⟨a5, ra5, hra5, ha5⟩ := ksBo he4
  obtain ⟨x5, rx5, hrx5, hx5, hb5⟩ := ksI ha5
  obtain ⟨y5, ry5, hry5, hy5, hc5⟩ := ksI hb5
  obtain ⟨z5, rz5, hrz5, hz5, hd5⟩ := ksI hc5
  obtain ⟨e5, re5, hre5, he5⟩ := ksBo hd5
  have hn : re5 = [] := by cases re5 with | nil => rfl | cons => simp [kssB] at he5
  subst hn
  subst hre5 hrz5 hry5 hrx5 hra5 hre4 hrz4 hry4 hrx4 hra4 hre3 hrz3 hry3 hrx3 hra3 hre2 hrz2 hry2 hrx2 hra2 hre1 hrz1 hry1 hrx1 hra1 hre0 hrz0 hry0 hrx0 hra0
  cases hr with
  | agg h1 h2 =>
   rename_i vs
   have hv := relL_plain h1 h2 (by simp [plainC])
   subst hv
   obtain ⟨n, hn⟩ := tys
   unfold keyOf
   simp only [Tryz.underlying102]
   rw [if_pos (by rw [Bool.and_eq_true]; exact ⟨by kernel_rfl, by simp [Value.formed, Tryz.underlying102, cells102]⟩), hn]
   simp only [List.map, valC, Value.cells, lits102 (d := n + 6) ht hx0 hy0 hz0 hx1 hy1 hz1 hx2 hy2 hz2 hx3 hy3 hz3 hx4 hy4 hz4 hx5 hy5 hz5, Option.map_some]
   exact ⟨_, rfl⟩
 | _ => simp [keyB] at h
theorem okX : OkX Tryz.prog opt := by
 refine ⟨okEq, fun t ht => ?_, fun t ht w pv ρ v c hr hk => ?_⟩
 ·simp only [opt, keyT, beq_iff_eq] at ht
  subst ht
  exact Keyed.of_law (deep_law_laid laid (m := 5) (by omega) (by decide +kernel) (by kernel_rfl) (by kernel_rfl))
 ·simp only [opt, keyT, beq_iff_eq] at ht
  subst ht
  exact key102 hr hk
theorem okCfg (F : Nat) : OkCfg Tryz.prog (cfg F) := fun _ => ⟨okX.eq, okX.keyed, okX.key⟩
theorem okE (F d : Nat) : OkEnv Tryz.prog (E F d) := envN_ok (okCfg F) names d
end Go.Sim.Le


namespace Go.Sim.Le
open Go.RowKit Go.Proofs
abbrev ordV (g : Nat → List V) (n : Nat) (d fl nom u : Int) : V := .agg [.rptr 1 n g 0 0, .int .i64 d, .int .i64 fl, .int .i64 nom, .int .i64 u]
noncomputable def pf123 (e : Env) (f : Nat) (a : List V) : Option Out := match a with
 | [.agg [.rptr 1 n g 0 0, .int .i64 d, .int .i64 fl, .int .i64 nom, .int .i64 u]] => bif Nat.beq f 123 then some (.ret (.agg [.fn (.func 130) [ordV g n d fl nom u] [], .fn (.func 131) [ordV g n d fl nom u] [], .fn (.func 132) [ordV g n d fl nom u] [], .fn (.func 133) [ordV g n d fl nom u] [], .fn (.func 134) [ordV g n d fl nom u] [], .fn (.func 135) [ordV g n d fl nom u] []])) else e.pf f a
 | a => e.pf f a
noncomputable def with123 (e : Env) : Env := { e with pf := pf123 e }
end Go.Sim.Le


namespace Go.Sim.Pl
open Go.Sim.Le (cfg E E_pf E_hv names look)
structure Span where
 lo : Int
 hi : Int
 deriving DecidableEq
structure Sl (α : Type) where
 nl : Bool
 len : Nat
 el : Nat → α
structure Row where
 ratio : Int
 least : Int
 most : Int
 energy : Int
 deriving DecidableEq
structure Mach where
 kind : Int
 rows : Sl Row
 start : Int
 up : Int
 down : Int
 left : Int
 life : Int
 service : Int
 runs : Bool
 since : Int
structure Hour where
 flow : Int
 ratio : Span
 deriving DecidableEq
structure Sta where
 runs : Bool
 since : Int
 left : Int
 served : Int
 complete : Bool
 deriving DecidableEq
abbrev i64 (n : Int) : V := .int .i64 n
abbrev eInt (n : Int) : List V := [.int .i64 n]
abbrev eBool (b : Bool) : List V := [.bool b]
abbrev eSpan (s : Span) : List V := [.int .i64 s.lo, .int .i64 s.hi]
abbrev eRow (r : Row) : List V := [.int .i64 r.ratio, .int .i64 r.least, .int .i64 r.most, .int .i64 r.energy]
abbrev sl {α : Type} (e : α → List V) (wd : Nat) (s : Sl α) : V := .row s.nl s.len wd fun i => e (s.el i)
abbrev eMach (m : Mach) : List V := [.int .i64 m.kind, sl eRow 4 m.rows, .int .i64 m.start, .int .i64 m.up, .int .i64 m.down, .int .i64 m.left, .int .i64 m.life, .int .i64 m.service, .bool m.runs, .int .i64 m.since]
abbrev eHour (h : Hour) : List V := [.int .i64 h.flow, .int .i64 h.ratio.lo, .int .i64 h.ratio.hi]
abbrev eSta (s : Sta) : List V := [.bool s.runs, .int .i64 s.since, .int .i64 s.left, .int .i64 s.served, .bool s.complete]
abbrev eIL (s : Sl Int) : List V := [sl eInt 1 s]
end Go.Sim.Pl


namespace Go.Sim.Gs
structure Sp where
 lo : Int
 hi : Int
 deriving DecidableEq
structure Gas where
 vol : Sp
 least : Int
 most : Int
 f0 : Int
 f1 : Int
 h0 : Int
 h1 : Int
 rock : Int
 pur : Sp
structure Gst where
 gas : Sp
 hyd : Sp
 heat : Sp
 water : Sp
structure Gpt where
 gas : Int
 hyd : Int
 heat : Int
 water : Int
abbrev SpIn (s : Sp) (a b : Int) : Prop := a ≤ s.lo ∧ s.lo ≤ s.hi ∧ s.hi ≤ b
abbrev GasOk (g : Gas) : Prop := ((500 ≤ g.f0 ∧ g.f0 ≤ 2000) ∧ 1 ≤ g.h0 ∧ g.h0 ≤ 100) ∧ ((500 ≤ g.f1 ∧ g.f1 ≤ 2000) ∧ 1 ≤ g.h1 ∧ g.h1 ≤ 100) ∧ SpIn g.vol 1 1000000 ∧ (0 ≤ g.least ∧ g.least ≤ g.most ∧ g.most ≤ 100000) ∧ (2000 ≤ g.rock ∧ g.rock ≤ 5000) ∧ SpIn g.pur 0 1000
abbrev StOk (s : Gst) : Prop := SpIn s.gas 0 1000000 ∧ SpIn s.hyd 0 1000000 ∧ SpIn s.heat 2000 5000 ∧ SpIn s.water 0 1000000000
abbrev HasP (s : Gst) (p : Gpt) : Prop := (s.gas.lo ≤ p.gas ∧ p.gas ≤ s.gas.hi) ∧ (s.hyd.lo ≤ p.hyd ∧ p.hyd ≤ s.hyd.hi) ∧ (s.heat.lo ≤ p.heat ∧ p.heat ≤ s.heat.hi) ∧ s.water.lo ≤ p.water ∧ p.water ≤ s.water.hi
def force (g : Gas) (a h t : Int) : Int := (a * g.f0 + h * g.f1) * t * 8314
def ruleS (g : Gas) (s : Gst) : Int :=
 if force g s.gas.lo s.hyd.lo s.heat.lo < g.least * (g.vol.hi * 10000000) then 2
 else if -(force g s.gas.hi s.hyd.hi s.heat.hi) < -g.most * (g.vol.lo * 10000000) then 3
 else if 1000 * s.hyd.lo < g.pur.lo * (s.gas.hi + s.hyd.lo) then 4
 else if -1000 * s.hyd.hi < -g.pur.hi * (s.gas.lo + s.hyd.hi) then 5 else 1
def keepsS (g : Gas) (p : Gpt) (v : Int) : Int :=
 if force g p.gas p.hyd p.heat < g.least * v * 10000000 then 2
 else if force g p.gas p.hyd p.heat > g.most * v * 10000000 then 3
 else if 1000 * p.hyd < g.pur.lo * (p.gas + p.hyd) then 4
 else if 1000 * p.hyd > g.pur.hi * (p.gas + p.hyd) then 5 else 1
theorem mul_mono {a b c d : Int} (ha : 0 ≤ a) (hab : a ≤ b) (hc : 0 ≤ c) (hcd : c ≤ d) : 0 ≤ a * c ∧ a * c ≤ b * d :=
 ⟨Int.mul_nonneg ha hc, Int.le_trans (Int.mul_le_mul_of_nonneg_right hab hc) (Int.mul_le_mul_of_nonneg_left hcd (by omega))⟩
theorem force_mono {g : Gas} (hg : GasOk g) {a h t a' h' t' : Int} (h1 : 0 ≤ a) (h2 : a ≤ a') (h3 : 0 ≤ h) (h4 : h ≤ h') (h5 : 0 ≤ t) (h6 : t ≤ t') : 0 ≤ force g a h t ∧ force g a h t ≤ force g a' h' t' := by
 unfold force
 have e1 := mul_mono h1 h2 (show 0 ≤ g.f0 by omega) (Int.le_refl _)
 have e2 := mul_mono h3 h4 (show 0 ≤ g.f1 by omega) (Int.le_refl _)
 have e3 := mul_mono (show 0 ≤ a * g.f0 + h * g.f1 by omega) (show a * g.f0 + h * g.f1 ≤ a' * g.f0 + h' * g.f1 by omega) h5 h6
 omega
theorem force_big {g : Gas} (hg : GasOk g) {a h t : Int} (h1 : 0 ≤ a ∧ a ≤ 1000000) (h3 : 0 ≤ h ∧ h ≤ 1000000) (h5 : 0 ≤ t ∧ t ≤ 5000) : (0 ≤ a * g.f0 ∧ a * g.f0 ≤ 2000000000) ∧ (0 ≤ h * g.f1 ∧ h * g.f1 ≤ 2000000000) ∧ (0 ≤ (a * g.f0 + h * g.f1) * t ∧ (a * g.f0 + h * g.f1) * t ≤ 20000000000000) ∧ 0 ≤ force g a h t ∧ force g a h t ≤ 166280000000000000 := by
 have e1 := mul_mono h1.1 h1.2 (show 0 ≤ g.f0 by omega) (show g.f0 ≤ 2000 by omega)
 have e2 := mul_mono h3.1 h3.2 (show 0 ≤ g.f1 by omega) (show g.f1 ≤ 2000 by omega)
 have e3 := mul_mono (show 0 ≤ a * g.f0 + h * g.f1 by omega) (show a * g.f0 + h * g.f1 ≤ 4000000000 by omega) h5.1 h5.2
 unfold force
 omega
end Go.Sim.Gs


namespace Go.Sim.Pl
open Go.Sim
abbrev eGas (g : Gs.Gas) : List V := [.int .i64 g.vol.lo, .int .i64 g.vol.hi, .int .i64 g.least, .int .i64 g.most, .int .i64 g.f0, .int .i64 g.f1, .int .i64 g.h0, .int .i64 g.h1, .int .i64 g.rock, .int .i64 g.pur.lo, .int .i64 g.pur.hi]
abbrev eGst (s : Gs.Gst) : List V := [.int .i64 s.gas.lo, .int .i64 s.gas.hi, .int .i64 s.hyd.lo, .int .i64 s.hyd.hi, .int .i64 s.heat.lo, .int .i64 s.heat.hi, .int .i64 s.water.lo, .int .i64 s.water.hi]
abbrev eGpt (p : Gs.Gpt) : List V := [.int .i64 p.gas, .int .i64 p.hyd, .int .i64 p.heat, .int .i64 p.water]
end Go.Sim.Pl
