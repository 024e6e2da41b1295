import Derived.Test.YtnhhcobpkblchaaGreatAj
set_option linter.unusedVariables false
set_option linter.unusedSimpArgs false
set_option linter.unusedSectionVars false
set_option maxRecDepth 100000
namespace Go.Sim.Le
open Go.RowKit Go.Proofs
theorem tM5 (env:Env) (F:Nat) (n0:Nat) (n1:Nat) (n2:Nat) (n3:Nat) (g0:Nat→List V) (g1:Nat→List V) (g2:Nat→List V) (g3:Nat→List V) (a:Int) (b:Int) (c:Int) (d:Int):(evFunH Tryz.prog (cfg F) env 187 [(.optr 0 0 0),(.agg [(.int .i64 a),(.int .i64 b),(.int .i64 c),(.int .i64 d)])] [(.box 265 [(.osl 1 0 n0),(.osl 2 0 n1),(.osl 3 0 n2),(.osl 4 0 n3)] true),(.arr 3 1 n0 g0 true),(.arr 3 1 n1 g1 true),(.arr 3 1 n2 g2 true),(.arr 3 1 n3 g3 true)]) =
 (bif (
  decide (((n0+1)*8)≤140737488355328)) then (bif (decide (((n1+1)*8)≤140737488355328)) then (bif (decide (((n2+1)*8)≤140737488355328)) then (bif (decide (((n3+1)*8)≤140737488355328)) then some ((.ret (.tup [])),[(.box 265 [(.osl 5 0 (n0+1)),(.osl 6 0 (n1+1)),(.osl 7 0 (n2+1)),(.osl 8 0 (n3+1))] true),.dead,.dead,.dead,.dead,(.arr 3 1 (n0+1) (appGet n0 g0 (fun u14=>[(.int .i64 a)])) true),(.arr 3 1 (n1+1) (appGet n1 g1 (fun u14=>[(.int .i64 b)])) true),(.arr 3 1 (n2+1) (appGet n2 g2 (fun u14=>[(.int .i64 c)])) true),(.arr 3 1 (n3+1) (appGet n3 g3 (fun u14=>[(.int .i64 d)])) true)])
  else none)
  else none)
  else none)
 else none):=by kernel_rfl
noncomputable def quickHv (e:Env) (f:Nat) (ar:List V) (hp:List Slot):Option (Out × List Slot):=match ar,hp with
 |[.optr 0 0 0,.agg [.int .i64 a,.int .i64 b,.int .i64 c,.int .i64 d]],[.box 265 [.osl 1 0 n0,.osl 2 0 n1,.osl 3 0 n2,.osl 4 0 n3] true,.arr 3 1 m0 g0 true,.arr 3 1 m1 g1 true,.arr 3 1 m2 g2 true,.arr 3 1 m3 g3 true] =>
  bif Nat.beq f 187 && (Nat.beq n0 m0 && (Nat.beq n1 m1 && (Nat.beq n2 m2 && (Nat.beq n3 m3 && (Nat.blt n0 1000 && (Nat.blt n1 1000 && (Nat.blt n2 1000 && Nat.blt n3 1000))))))) then
   some ((.ret (.tup [])),[(.box 265 [(.osl 5 0 (n0+1)),(.osl 6 0 (n1+1)),(.osl 7 0 (n2+1)),(.osl 8 0 (n3+1))] true),.dead,.dead,.dead,.dead,(.arr 3 1 (n0+1) (appGet n0 g0 (fun _=>[(.int .i64 a)])) true),(.arr 3 1 (n1+1) (appGet n1 g1 (fun _=>[(.int .i64 b)])) true),(.arr 3 1 (n2+1) (appGet n2 g2 (fun _=>[(.int .i64 c)])) true),(.arr 3 1 (n3+1) (appGet n3 g3 (fun _=>[(.int .i64 d)])) true)])
  else e.hv f ar hp
 |ar,hp=>e.hv f ar hp
noncomputable def quick (e:Env):Env:={ e with hv:=quickHv e }
theorem cond_or {α:Type} {b:Bool} {x y:α} (h:b=true→x=y):cond b x y=y:=by
 cases b
 ·rfl
 ·exact h rfl
theorem quick_eq (F d:Nat):quick (E F (d+1))=E F (d+1):=by
 have h:quickHv (E F (d+1))=(E F (d+1)).hv:=by
  funext f ar hp
  unfold quickHv
  split
  ·refine cond_or fun hb=>?_
   simp only[Bool.and_eq_true,Nat.blt_eq] at hb
   obtain⟨e0,e1,e2,e3,e4,h0,h1,h2,h3⟩:=hb
   obtain rfl:=Nat.eq_of_beq_eq_true e0
   obtain rfl:=Nat.eq_of_beq_eq_true e1
   obtain rfl:=Nat.eq_of_beq_eq_true e2
   obtain rfl:=Nat.eq_of_beq_eq_true e3
   obtain rfl:=Nat.eq_of_beq_eq_true e4
   rw[E_hv,tM5]
   rw[dT (by omega),dT (by omega),dT (by omega),dT (by omega)]
   rfl
  ·rfl
 unfold quick
 rw[h]
abbrev zI (n:Int):V:=.int .i64 n
abbrev S1:V:=.agg [zI 2000,zI 2100,zI 100,zI 110,zI 3000,zI 3100,zI 50000,zI 60000]
abbrev C1:V:=.agg [zI 1000,zI 1100,zI 2000,zI 9000,zI 900,zI 1000,zI 36,zI 29,zI 3200,zI 0,zI 100]
abbrev O1:V:=.agg [zI 2,zI 0,zI 0,zI 0,zI 0,zI 210,zI 0,zI 0,zI 0,zI 0]
end Go.Sim.Le
