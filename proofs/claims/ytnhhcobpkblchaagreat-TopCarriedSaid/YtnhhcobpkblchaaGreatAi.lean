import Derived.Test.YtnhhcobpkblchaaGreatAh
set_option linter.unusedVariables false
set_option linter.unusedSimpArgs false
set_option linter.unusedSectionVars false
namespace Go.Sim.Pl
open Go.Sim.Le (cfg E E_pf E_hv)
open Go.Proofs
variable (F d:Nat)
theorem lD6 {l:Sl Int} (h8:l.len≤1000) (e:Env) (hc:∀ k,k<l.len→e.pf 127 [.int .i64 (l.el k)]=some (.ret (.bool false))):∀ (j i fu:Nat),i+j=l.len→j<fu→LD6x0 e F l fu i=some (.ret (.int .i64 (-1))):=by
 intro j
 induction j with
 |zero =>
  intro i fu hij hf
  obtain⟨fu,rfl⟩:=ex1 (n:=fu) (by omega)
  rw[LD6x0s,dF (by omega),pF]
 |succ j ih =>
  intro i fu hij hf
  obtain⟨fu,rfl⟩:=ex1 (n:=fu) (by omega)
  have hS:=wrS (i:=i) (by omega)
  have q:=hc i (by omega)
  rw[LD6x0s]
  simp (disch:=omega) only[dT,pT,tnC,hS,q,tkOut_ret,tkBool_b,pF]
  exact ih (i+1) fu (by omega) (by omega)
theorem sH9 {l:Sl Int} (h8:l.len≤1000) (hF:1000<F) (hc:∀ k,k<l.len→(E F d).pf 127 [.int .i64 (l.el k)]=some (.ret (.bool false))):(E F (d+2)).pf 45 [sl eInt 1 l,.fn (.func 127) [] []]=some (.ret (.bool false)):=by
 have q:(E F (d+1)).pf 100 [sl eInt 1 l,.fn (.func 127) [] []]=some (.ret (.int .i64 (-1))):=by
  rw[E_pf,tD6]
  exact lD6 F h8 (E F d) hc l.len 0 F (by omega) (by omega)
 rw[E_pf,tH9,q]
 simp only[tkOut_ret,tkInt_i,decide_true,pT]
 rfl
theorem lD7 {l:Sl Int} (h8:l.len≤1000) (e:Env) (hc:∀ k,k<l.len→e.pf 175 [.int .i64 (l.el k)]=some (.ret (.bool false))):∀ (j i fu:Nat),i+j=l.len→j<fu→LD7x0 e F l fu i=some (.ret (.int .i64 (-1))):=by
 intro j
 induction j with
 |zero =>
  intro i fu hij hf
  obtain⟨fu,rfl⟩:=ex1 (n:=fu) (by omega)
  rw[LD7x0s,dF (by omega),pF]
 |succ j ih =>
  intro i fu hij hf
  obtain⟨fu,rfl⟩:=ex1 (n:=fu) (by omega)
  have hS:=wrS (i:=i) (by omega)
  have q:=hc i (by omega)
  rw[LD7x0s]
  simp (disch:=omega) only[dT,pT,tnC,hS,q,tkOut_ret,tkBool_b,pF]
  exact ih (i+1) fu (by omega) (by omega)
theorem sI0 {l:Sl Int} (h8:l.len≤1000) (hF:1000<F) (hc:∀ k,k<l.len→(E F d).pf 175 [.int .i64 (l.el k)]=some (.ret (.bool false))):(E F (d+2)).pf 45 [sl eInt 1 l,.fn (.func 175) [] []]=some (.ret (.bool false)):=by
 have q:(E F (d+1)).pf 100 [sl eInt 1 l,.fn (.func 175) [] []]=some (.ret (.int .i64 (-1))):=by
  rw[E_pf,tD7]
  exact lD7 F h8 (E F d) hc l.len 0 F (by omega) (by omega)
 rw[E_pf,tI0,q]
 simp only[tkOut_ret,tkInt_i,decide_true,pT]
 rfl
theorem lD8 {l:Sl Con} (h8:l.len≤1000) (e:Env) (hc:∀ k,k<l.len→e.pf 71 [.agg (eCon (l.el k))]=some (.ret (.bool false))):∀ (j i fu:Nat),i+j=l.len→j<fu→LD8x0 e F l fu i=some (.ret (.int .i64 (-1))):=by
 intro j
 induction j with
 |zero =>
  intro i fu hij hf
  obtain⟨fu,rfl⟩:=ex1 (n:=fu) (by omega)
  rw[LD8x0s,dF (by omega),pF]
 |succ j ih =>
  intro i fu hij hf
  obtain⟨fu,rfl⟩:=ex1 (n:=fu) (by omega)
  have hS:=wrS (i:=i) (by omega)
  have q:=hc i (by omega)
  rw[LD8x0s]
  simp (disch:=omega) only[dT,pT,tnC,hS,q,tkOut_ret,tkBool_b,pF]
  exact ih (i+1) fu (by omega) (by omega)
theorem sI1 {l:Sl Con} (h8:l.len≤1000) (hF:1000<F) (hc:∀ k,k<l.len→(E F d).pf 71 [.agg (eCon (l.el k))]=some (.ret (.bool false))):(E F (d+2)).pf 70 [sl eCon 11 l,.fn (.func 71) [] []]=some (.ret (.bool false)):=by
 have q:(E F (d+1)).pf 128 [sl eCon 11 l,.fn (.func 71) [] []]=some (.ret (.int .i64 (-1))):=by
  rw[E_pf,tD8]
  exact lD8 F h8 (E F d) hc l.len 0 F (by omega) (by omega)
 rw[E_pf,tI1,q]
 simp only[tkOut_ret,tkInt_i,decide_true,pT]
 rfl
theorem lD9 {l:Sl Hr} (h8:l.len≤1000) (e:Env) (hc:∀ k,k<l.len→e.pf 75 [.agg (eHr (l.el k))]=some (.ret (.bool false))):∀ (j i fu:Nat),i+j=l.len→j<fu→LD9x0 e F l fu i=some (.ret (.int .i64 (-1))):=by
 intro j
 induction j with
 |zero =>
  intro i fu hij hf
  obtain⟨fu,rfl⟩:=ex1 (n:=fu) (by omega)
  rw[LD9x0s,dF (by omega),pF]
 |succ j ih =>
  intro i fu hij hf
  obtain⟨fu,rfl⟩:=ex1 (n:=fu) (by omega)
  have hS:=wrS (i:=i) (by omega)
  have q:=hc i (by omega)
  rw[LD9x0s]
  simp (disch:=omega) only[dT,pT,tnC,hS,q,tkOut_ret,tkBool_b,pF]
  exact ih (i+1) fu (by omega) (by omega)
theorem sI2 {l:Sl Hr} (h8:l.len≤1000) (hF:1000<F) (hc:∀ k,k<l.len→(E F d).pf 75 [.agg (eHr (l.el k))]=some (.ret (.bool false))):(E F (d+2)).pf 74 [sl eHr 4 l,.fn (.func 75) [] []]=some (.ret (.bool false)):=by
 have q:(E F (d+1)).pf 133 [sl eHr 4 l,.fn (.func 75) [] []]=some (.ret (.int .i64 (-1))):=by
  rw[E_pf,tD9]
  exact lD9 F h8 (E F d) hc l.len 0 F (by omega) (by omega)
 rw[E_pf,tI2,q]
 simp only[tkOut_ret,tkInt_i,decide_true,pT]
 rfl
theorem lE0 {l:Sl Nom} (n:Int) (h8:l.len≤1000) (e:Env) (hc:∀ k,k<l.len→e.pf 135 [.agg (eNom (l.el k)),.rptr 1 1 (fun _=>[.int .i64 n]) 0 0]=some (.ret (.bool false))):∀ (j i fu:Nat),i+j=l.len→j<fu→LE0x0 e F l n fu i=some (.ret (.int .i64 (-1))):=by
 intro j
 induction j with
 |zero =>
  intro i fu hij hf
  obtain⟨fu,rfl⟩:=ex1 (n:=fu) (by omega)
  rw[LE0x0s,dF (by omega),pF]
 |succ j ih =>
  intro i fu hij hf
  obtain⟨fu,rfl⟩:=ex1 (n:=fu) (by omega)
  have hS:=wrS (i:=i) (by omega)
  have q:=hc i (by omega)
  rw[LE0x0s]
  simp (disch:=omega) only[dT,pT,tnC,hS,q,tkOut_ret,tkBool_b,pF]
  exact ih (i+1) fu (by omega) (by omega)
theorem sI3 {l:Sl Nom} (n:Int) (h8:l.len≤1000) (hF:1000<F) (hc:∀ k,k<l.len→(E F d).pf 135 [.agg (eNom (l.el k)),.rptr 1 1 (fun _=>[.int .i64 n]) 0 0]=some (.ret (.bool false))):(E F (d+2)).pf 134 [sl eNom 4 l,.fn (.func 135) [] [.rptr 1 1 (fun _=>[.int .i64 n]) 0 0]]=some (.ret (.bool false)):=by
 have q:(E F (d+1)).pf 177 [sl eNom 4 l,.fn (.func 135) [] [.rptr 1 1 (fun _=>[.int .i64 n]) 0 0]]=some (.ret (.int .i64 (-1))):=by
  rw[E_pf,tE0]
  exact lE0 F n h8 (E F d) hc l.len 0 F (by omega) (by omega)
 rw[E_pf,tI3,q]
 simp only[tkOut_ret,tkInt_i,decide_true,pT]
 rfl
theorem lE1 {l:Sl Trd} (n:Int) (h8:l.len≤1000) (e:Env) (hc:∀ k,k<l.len→e.pf 78 [.agg (eTrd (l.el k)),.rptr 1 1 (fun _=>[.int .i64 n]) 0 0]=some (.ret (.bool false))):∀ (j i fu:Nat),i+j=l.len→j<fu→LE1x0 e F l n fu i=some (.ret (.int .i64 (-1))):=by
 intro j
 induction j with
 |zero =>
  intro i fu hij hf
  obtain⟨fu,rfl⟩:=ex1 (n:=fu) (by omega)
  rw[LE1x0s,dF (by omega),pF]
 |succ j ih =>
  intro i fu hij hf
  obtain⟨fu,rfl⟩:=ex1 (n:=fu) (by omega)
  have hS:=wrS (i:=i) (by omega)
  have q:=hc i (by omega)
  rw[LE1x0s]
  simp (disch:=omega) only[dT,pT,tnC,hS,q,tkOut_ret,tkBool_b,pF]
  exact ih (i+1) fu (by omega) (by omega)
theorem sI4 {l:Sl Trd} (n:Int) (h8:l.len≤1000) (hF:1000<F) (hc:∀ k,k<l.len→(E F d).pf 78 [.agg (eTrd (l.el k)),.rptr 1 1 (fun _=>[.int .i64 n]) 0 0]=some (.ret (.bool false))):(E F (d+2)).pf 77 [sl eTrd 5 l,.fn (.func 78) [] [.rptr 1 1 (fun _=>[.int .i64 n]) 0 0]]=some (.ret (.bool false)):=by
 have q:(E F (d+1)).pf 136 [sl eTrd 5 l,.fn (.func 78) [] [.rptr 1 1 (fun _=>[.int .i64 n]) 0 0]]=some (.ret (.int .i64 (-1))):=by
  rw[E_pf,tE1]
  exact lE1 F n h8 (E F d) hc l.len 0 F (by omega) (by omega)
 rw[E_pf,tI4,q]
 simp only[tkOut_ret,tkInt_i,decide_true,pT]
 rfl
end Go.Sim.Pl

namespace Go.Sim.Pl
open Go.Sim.Le (cfg E E_pf E_hv)
open Go.Proofs
variable (F d:Nat)
def lit (l:List Int) (z:Int):Sl Int:=⟨false,l.length,fun k=>l.getD k z⟩
theorem lit3 (a b c:Int):(V.row false 3 1 (fun u=>(List.take 1 (List.drop ((Min.min u 2)*1) [(V.int .i64 a),(.int .i64 b),(.int .i64 c)]))))=sl eInt 1 (lit [a,b,c] c):=by
 refine congrArg (fun g=>V.row false 3 1 g) ?_
 funext i
 match i with
 |0=>rfl
 |1=>rfl
 |2=>rfl
 |i+3=>rw[show Min.min (i+3) 2=2 by omega];rfl
theorem lit4 (a b c e:Int):(V.row false 4 1 (fun u=>(List.take 1 (List.drop ((Min.min u 3)*1) [(V.int .i64 a),(.int .i64 b),(.int .i64 c),(.int .i64 e)]))))=sl eInt 1 (lit [a,b,c,e] e):=by
 refine congrArg (fun g=>V.row false 4 1 g) ?_
 funext i
 match i with
 |0=>rfl
 |1=>rfl
 |2=>rfl
 |3=>rfl
 |i+4=>rw[show Min.min (i+4) 3=3 by omega];rfl
theorem lit5 (a b c e f:Int):(V.row false 5 1 (fun u=>(List.take 1 (List.drop ((Min.min u 4)*1) [(V.int .i64 a),(.int .i64 b),(.int .i64 c),(.int .i64 e),(.int .i64 f)]))))=sl eInt 1 (lit [a,b,c,e,f] f):=by
 refine congrArg (fun g=>V.row false 5 1 g) ?_
 funext i
 match i with
 |0=>rfl
 |1=>rfl
 |2=>rfl
 |3=>rfl
 |4=>rfl
 |i+5=>rw[show Min.min (i+5) 4=4 by omega];rfl
theorem sI5 {n:Int} (h:0≤n∧n≤800000000):(E F (d+2)).pf 127 [.int .i64 n]=some (.ret (.bool false)):=by
 rw[E_pf,tI5,sB2,dT (by omega)];rfl
theorem sI6 {n:Int} (h:0≤n∧n≤10000):(E F (d+2)).pf 175 [.int .i64 n]=some (.ret (.bool false)):=by
 rw[E_pf,tI6,sB2,dT (by omega)];rfl
theorem sH2 {l:Sl Int} (hF:1000<F) (h8:l.len≤1000) (h:∀ k,k<l.len→0≤l.el k∧l.el k≤800000000):(E F (d+5)).pf 68 [sl eInt 1 l]=some (.ret (.bool true)):=by
 have q:=sH9 F (d+2) h8 hF (fun k hk=>sI5 F d (h k hk))
 rw[E_pf,tH2,q];rfl
theorem sI7 {l:Sl Int} (hF:1000<F) (h8:l.len≤1000) (h:∀ k,k<l.len→0≤l.el k∧l.el k≤10000):(E F (d+5)).pf 130 [sl eInt 1 l]=some (.ret (.bool true)):=by
 have q:=sI0 F (d+2) h8 hF (fun k hk=>sI6 F d (h k hk))
 rw[E_pf,tI7,q];rfl
theorem sI8 {a b:Int} (h:0≤a∧a≤b∧b<48):(E F (d+1)).pf 129 [.agg [.int .i64 a,.int .i64 b]]=some (.ret (.bool true)):=by
 rw[E_pf,tI8,dT (by omega),pT,dT (by omega),pT,dT (by omega)]
theorem sG9 (c:Con) (h:Int):(E F (d+2)).pf 176 [.agg (eCon c),.int .i64 h]=some (.ret (.bool (decide (h≥c.h0∧h≤c.h1)))):=by
 rw[E_pf,tG9,sB2];rfl
end Go.Sim.Pl

namespace Go.Sim.Pl
open Go.Sim.Le (cfg E E_pf E_hv)
open Go.Proofs
variable (F d:Nat)
section
variable (hF:1000<F) {c:Con} (hc:ConOk c)
include hF hc
theorem lC3:∀ (j i fu:Nat),i+j=c.rates.len→j<fu→LC3x0 (E F (d+5)) F c fu i=some (.ret (.bool true)):=by
 have hlen:=hc.len
 intro j
 induction j with
 |zero =>
  intro i fu hij hf
  obtain⟨fu,rfl⟩:=ex1 (n:=fu) (by omega)
  have q1:=sB2 F (d+4) c.space 1 100000000
  have q2:=sI8 F (d+4) (a:=c.h0) (b:=c.h1) (by have:=hc.hours;omega)
  have q3:=sB2 F (d+4) c.rates.len 1 6
  have q4:=sB2 F (d+4) c.gas 0 c.space
  have q5:=sI7 F d (l:=lit [c.fixed,c.inn,c.out,c.cut,c.lack] c.lack) hF (by show 5≤1000;omega) (fun k hk=>by
   have hk:k<5:=hk
   match k,hk with
   |0,_=>exact hc.fixed
   |1,_=>exact hc.inn
   |2,_=>exact hc.out
   |3,_=>exact hc.cut
   |4,_=>exact hc.lack)
  rw[dT (by have:=hc.space;omega)] at q1
  rw[dT (by omega)] at q3
  rw[dT (by have:=hc.gas;omega)] at q4
  rw[LC3x0s,dF (by omega),pF,lit5]
  simp only[q1,q2,q3,q4,q5,tkOut_ret,tkBool_b,pT]
 |succ j ih =>
  intro i fu hij hf
  obtain⟨fu,rfl⟩:=ex1 (n:=fu) (by omega)
  have hi:i<c.rates.len:=by omega
  have hS:=wrS (i:=i) (by omega)
  obtain⟨h1,h2,h3,h4,h5⟩:=hc.rates i hi
  have q1:=sB2 F (d+4) (c.rates.el i).fill 0 1000
  have q2:=sB2 F (d+4) (c.rates.el i).inn 0 100000000
  have q3:=sB2 F (d+4) (c.rates.el i).out 0 100000000
  rw[dT (by omega)] at q1 q2 q3
  have e:=ih (i+1) fu (by omega) (by omega)
  rw[LC3x0s]
  simp (disch:=omega) only[dT,pT,tnC,q1,q2,q3,tkOut_ret,tkBool_b,hS,Bool.not_true,pF]
  by_cases h0:i=0
  ·subst h0
   rw[show (((0:Nat):Int)==0)=true from rfl,pT,show ((c.rates.el 0).fill != 0)=false by simpa using h4 rfl,pF,dF (by omega),pF]
   exact e
  ·have hw:IntKind.i64.wrap ((i:Int) - 1)=((i - 1:Nat):Int):=by rw[wr (by omega)];omega
   have h5:=h5 (by omega)
   rw[show (((i:Nat):Int)==0)=false by simpa using h0,pF,dT (by omega),pT]
   simp (disch:=omega) only[hw,dT,pT,tnC]
   rw[dF (by omega),pF,dF (by omega),pF,dF (by omega),pF]
   exact e
theorem sI9:(E F (d+7)).pf 71 [.agg (eCon c)]=some (.ret (.bool false)):=by
 have q:(E F (d+6)).pf 72 [.agg (eCon c)]=some (.ret (.bool true)):=by
  rw[E_pf,tC3]
  exact lC3 F d hF hc c.rates.len 0 F (by omega) (by have:=hc.len;omega)
 rw[E_pf,tI9,q];rfl
end
theorem sJ0 (hF:1000<F) {h:Hr} (hh:HrOk h):(E F (d+6)).pf 75 [.agg (eHr h)]=some (.ret (.bool false)):=by
 obtain⟨h1,h2,h3,h4⟩:=hh
 have q:=sH2 F d (l:=lit [h.inn,h.out,h.fin,h.fout] h.fout) hF (by show 4≤1000;omega) (fun k hk=>by
  have hk:k<4:=hk
  match k,hk with
  |0,_=>exact h1
  |1,_=>exact h2
  |2,_=>exact h3
  |3,_=>exact h4)
 rw[E_pf,tJ0,lit4,q];rfl
end Go.Sim.Pl

namespace Go.Sim.Pl
open Go.Sim.Le (cfg E E_pf E_hv)
open Go.Proofs
variable (F d:Nat)
section
variable {n:Int} (hn:0≤n∧n≤8)
include hn
theorem sJ1 {x:Nom} (hx:NomOk n x):(E F (d+2)).pf 135 [.agg (eNom x),.rptr 1 1 (fun _=>[.int .i64 n]) 0 0]=some (.ret (.bool false)):=by
 obtain⟨h1,h2,h3,h4⟩:=hx
 have q1:=sB2 F d x.con 0 (n - 1)
 have q2:=sB2 F d x.hour 0 47
 have q3:=sB2 F d x.sent 0 47
 have q4:=sB2 F d x.amount (-100000000) 100000000
 rw[dT (by omega)] at q1 q2 q3 q4
 rw[E_pf,tJ1,wr (n:=n - 1) (by omega)]
 simp only[q1,q2,q3,q4,tkOut_ret,tkBool_b,Bool.not_true,pF]
theorem sJ2 {t:Trd} (ht:TrdOk n t):(E F (d+2)).pf 79 [.agg (eTrd t),.int .i64 n]=some (.ret (.bool true)):=by
 obtain⟨h1,h2,h3,h4,h5,h6⟩:=ht
 have q1:=sB2 F d t.hour 0 47
 have q3:=sB2 F d t.src 0 (n - 1)
 have q4:=sB2 F d t.dst 0 (n - 1)
 have q5:=sB2 F d t.amount 1 100000000
 rw[dT (by omega)] at q1 q3 q4 q5
 have h5':(t.src != t.dst)=true:=by simpa using h5
 rw[E_pf,tJ2,wr (n:=n - 1) (by omega),wr (n:=t.hour+1) (by omega)]
 simp only[q1,q3,q4,q5,tkOut_ret,tkBool_b,pT,h5']
 rcases h2 with h2 | h2
 ·rw[show (t.back == -1)=true by simpa using h2,pT]
 ·have q2:=sB2 F d t.back (t.hour+1) 47
  rw[dT (by omega)] at q2
  rw[show (t.back == -1)=false by rw[beq_eq_false_iff_ne];omega,pF]
  simp only[q2,tkOut_ret,tkBool_b,pT]
theorem sJ3 {t:Trd} (ht:TrdOk n t):(E F (d+3)).pf 78 [.agg (eTrd t),.rptr 1 1 (fun _=>[.int .i64 n]) 0 0]=some (.ret (.bool false)):=by
 have q:=sJ2 F d hn ht
 rw[E_pf,tJ3,q];rfl
theorem sJ4 (hF:1000<F) {dy:Dy} (hd:DyOk n dy):(E F (d+9)).pf 34 [.agg (eDy dy),.int .i64 n]=some (.ret (.bool true)):=by
 obtain⟨hl,hm,ht⟩:=hd.len
 have q1:=sI2 F (d+6) (l:=dy.hours) (by omega) hF (fun k hk=>sJ0 F d hF (hd.hours k hk))
 have q2':=sI3 F (d+5) (l:=dy.noms) n (by omega) hF (fun k hk=>sJ1 F (d+3) hn (hd.noms k hk))
 have q2:(E F (d+8)).pf 76 [sl eNom 4 dy.noms,.int .i64 n]=some (.ret (.bool true)):=by
  rw[E_pf,tK8,q2'];rfl
 have q3:=sI4 F (d+6) (l:=dy.trades) n (by omega) hF (fun k hk=>sJ3 F (d+3) hn (hd.trades k hk))
 rw[E_pf,tJ4,dT (by omega),pT,dT (by omega),pT,dT (by omega),pT]
 simp only[q1,q2,q3,tkOut_ret,tkBool_b,Bool.not_false,pT]
end
end Go.Sim.Pl

namespace Go.Sim.Pl
open Go.Sim.Le (cfg E E_pf E_hv)
open Go.Proofs
variable (F d:Nat)
section
variable {l:Sl Con} (hc:∀ k,k<l.len→ConOk (l.el k)) (h8:l.len≤8)
include hc h8
theorem lC9 (h:Int):∀ (j i fu:Nat),i+j=l.len→j<fu→LC9x0 (E F (d+2)) F l h fu (siF l h i) (soF l h i) i=some (.ret (.tup [.int .i64 (siF l h l.len),.int .i64 (soF l h l.len)])):=by
 intro j
 induction j with
 |zero =>
  intro i fu hij hf
  obtain⟨fu,rfl⟩:=ex1 (n:=fu) (by omega)
  obtain rfl:i=l.len:=by omega
  rw[LC9x0s,dF (by omega),pF]
 |succ j ih =>
  intro i fu hij hf
  obtain⟨fu,rfl⟩:=ex1 (n:=fu) (by omega)
  have hi:i<l.len:=by omega
  have hS:=wrS (i:=i) (by omega)
  have c:=hc i hi
  have c2:=c.len
  have b0:=sold_in hc h i (by omega)
  have q:=sG9 F d (l.el i) h
  have e:=ih (i+1) fu (by omega) (by omega)
  simp only[siF,soF] at e
  have hw:IntKind.i64.wrap ((((l.el i).rates.len:Nat):Int) - 1)=(((l.el i).rates.len - 1:Nat):Int):=by rw[wr (by omega)];omega
  have r0:=(c.rates 0 (by omega)).2.1
  have r1:=(c.rates ((l.el i).rates.len - 1) (by omega)).2.2.1
  rw[LC9x0s]
  simp (disch:=omega) only[dT,pT,tnC,hS,q,tkOut_ret,tkBool_b,hw]
  unfold conA at e
  cases hf1:(l.el i).firm with
  |false =>
   rw[hf1] at e
   rw[pF]
   simpa using e
  |true =>
   rw[hf1] at e
   rw[pT]
   by_cases ha:h≥(l.el i).h0∧h≤(l.el i).h1
   ·rw[dT ha] at e ⊢
    rw[pT,wr (n:=siF l h i+((l.el i).rates.el 0).inn) (by omega),wr (n:=soF l h i+_) (by omega)]
    simpa using e
   ·rw[dF ha] at e ⊢
    rw[pF]
    simpa using e
theorem lE2 (e:Env):∀ (j i fu:Nat),i+j=l.len→j<fu→LE2x0 e F l fu (spF l i) i=some (.ret (.int .i64 (spF l l.len))):=by
 intro j
 induction j with
 |zero =>
  intro i fu hij hf
  obtain⟨fu,rfl⟩:=ex1 (n:=fu) (by omega)
  obtain rfl:i=l.len:=by omega
  rw[LE2x0s,dF (by omega),pF]
 |succ j ih =>
  intro i fu hij hf
  obtain⟨fu,rfl⟩:=ex1 (n:=fu) (by omega)
  have hS:=wrS (i:=i) (by omega)
  have c1:=(hc i (by omega)).space
  have b0:=sold_in hc 0 i (by omega)
  rw[LE2x0s]
  simp (disch:=omega) only[dT,pT,tnC,hS,wr]
  exact ih (i+1) fu (by omega) (by omega)
end
end Go.Sim.Pl

namespace Go.Sim.Pl
open Go.Sim.Le (cfg E E_pf E_hv)
open Go.Proofs
variable (F d:Nat)
section
variable (hF:1000<F) {s:Sto} (hs:StoOk s)
include hF hs
theorem lE3:∀ (j i fu:Nat),i+j=48→j<fu→LE3x0 (E F (d+3)) F s fu i=some (.ret (.bool true)):=by
 have h8:=hs.len
 intro j
 induction j with
 |zero =>
  intro i fu hij hf
  obtain⟨fu,rfl⟩:=ex1 (n:=fu) (by omega)
  have q:(E F (d+3)).pf 132 [sl eCon 11 s.cons]=some (.ret (.int .i64 (spF s.cons s.cons.len))):=by
   rw[E_pf,tE2];exact lE2 F hs.cons h8 _ s.cons.len 0 F (by omega) (by omega)
  rw[LE3x0s,dF (by omega),pF,q]
  simp only[tkOut_ret,tkInt_i,decide_true,pT]
  rw[dT hs.once.1]
 |succ j ih =>
  intro i fu hij hf
  obtain⟨fu,rfl⟩:=ex1 (n:=fu) (by omega)
  have hS:=wrS (i:=i) (by omega)
  have q:(E F (d+3)).pf 131 [sl eCon 11 s.cons,.int .i64 i]=some (.ret (.tup [.int .i64 (siF s.cons i s.cons.len),.int .i64 (soF s.cons i s.cons.len)])):=by
   rw[E_pf,tC9];exact lC9 F d hs.cons h8 i s.cons.len 0 F (by omega) (by omega)
  have h1:=hs.once.2 i (by omega)
  rw[LE3x0s,dT (by omega),pT,q]
  simp only[tkOut_ret,tkTup_t,tkCons_c,tkInt_i,tkNil_n,decide_true,pT,hS]
  rw[dF (by omega),pF,dF (by omega),pF]
  exact ih (i+1) fu (by omega) (by omega)
theorem sJ5:(E F (d+10)).pf 33 [.agg (eSto s)]=some (.ret (.bool true)):=by
 have h8:=hs.len
 have q1:=sH2 F (d+4) (l:=lit [s.space,s.inn,s.out] s.out) hF (by show 3≤1000;omega) (fun k hk=>by
  have hk:k<3:=hk
  match k,hk with
  |0,_=>exact hs.space
  |1,_=>exact hs.inn
  |2,_=>exact hs.out)
 have q2:=sB2 F (d+8) s.lead 0 48
 have q3:=sB2 F (d+8) s.fuel 0 1000
 rw[dT (by have:=hs.lead;omega)] at q2
 rw[dT (by have:=hs.fuel;omega)] at q3
 have q4:=sI1 F (d+7) (l:=s.cons) (by omega) hF (fun k hk=>sI9 F d hF (hs.cons k hk))
 have q5:(E F (d+9)).pf 73 [.agg (eSto s)]=some (.ret (.bool true)):=by
  rw[E_pf,tE3];exact lE3 F (d+5) hF hs 48 0 F (by omega) (by omega)
 rw[E_pf,tJ5,lit3]
 simp only[q1,q2,q3,q4,q5,tkOut_ret,tkBool_b,pT,Bool.not_false]
 rw[dT (by omega),pT]
end
end Go.Sim.Pl

namespace Go.Sim.Pl
open Go.Sim.Le (cfg E E_pf E_hv names look)
open Go.Proofs
abbrev RwOk (r:Nat→Row) (i:Nat):Prop:=(1000≤(r i).ratio∧(r i).ratio≤5000)∧(0<i→(r (i - 1)).ratio<(r i).ratio)∧(0≤(r i).least∧(r i).least≤(r i).most)∧(r i).most≤1000000∧0≤(r i).energy∧(r i).energy≤1000
abbrev MachOk (m:Mach):Prop:=(∀ i,i<m.rows.len→RwOk m.rows.el i)∧(1≤m.kind∧m.kind≤3)∧(1≤m.rows.len∧m.rows.len≤6)∧(0≤m.start∧m.start≤1000000000)∧(1≤m.up∧m.up≤1000)∧(1≤m.down∧m.down≤1000)∧(1≤m.service∧m.service≤1000)∧(0≤m.left∧m.left≤1000)∧(0≤m.life∧m.life≤1000)∧0≤m.since∧m.since≤1000
abbrev PlantOk (l:Sl Mach):Prop:=(∀ i,i<l.len→MachOk (l.el i))∧1≤l.len∧l.len≤6
abbrev RatioOk (s:Span):Prop:=1000≤s.lo∧s.lo≤s.hi∧s.hi≤5000
abbrev FlowOk (n:Int):Prop:=0≤n∧n≤1000000
abbrev HourOk (h:Hour):Prop:=FlowOk h.flow∧RatioOk h.ratio
abbrev HoursOk (hs:Sl Hour):Prop:=∀ i,i<hs.len→HourOk (hs.el i)
abbrev DoesOk (n:Nat) (w:Sl Int):Prop:=w.len=n∧∀ i,i<n→0≤w.el i∧w.el i≤2
abbrev SchedOk (l:Sl Mach) (n:Nat) (sc:Sl (Sl Int)):Prop:=(∀ i,i<sc.len→DoesOk l.len (sc.el i))∧sc.len=n
instance decMach (m : Mach) : Decidable (MachOk m) := inferInstance
instance decAll {p : Nat → Prop} [h : ∀ i, Decidable (p i)] (n : Nat) : Decidable (∀ i, i < n → p i) := Nat.decidableBallLT n fun i _ => p i
instance decPlant (l : Sl Mach) : Decidable (PlantOk l) := @instDecidableAnd _ _ (decAll (p := fun i => MachOk (l.el i)) (h := fun i => decMach (l.el i)) l.len) inferInstance
instance decHours (hs : Sl Hour) : Decidable (HoursOk hs) := decAll (p := fun i => HourOk (hs.el i)) hs.len
instance decDoes (n : Nat) (w : Sl Int) : Decidable (DoesOk n w) := @instDecidableAnd _ _ inferInstance (decAll (p := fun i => 0 ≤ w.el i ∧ w.el i ≤ 2) n)
instance decSched (l : Sl Mach) (n : Nat) (sc : Sl (Sl Int)) : Decidable (SchedOk l n sc) := @instDecidableAnd _ _ (decAll (p := fun i => DoesOk l.len (sc.el i)) (h := fun i => decDoes l.len (sc.el i)) sc.len) inferInstance
variable (F d:Nat)
theorem s52 (x y z:Int):(E F (d+1)).pf 38 [.int .i64 x,.int .i64 y,.int .i64 z]=some (.ret (.bool (decide (y≤x∧x≤z)))):=by
 rw[E_pf,t52];simp only[cAnd,Bool.decide_and,ge_iff_le]
theorem s68 (x y z:Int):(E F (d+1)).pf 22 [.int .i64 x,.int .i64 y,.int .i64 z]=some (.ret (.bool (decide (y≤x∧x≤z)))):=by
 rw[E_pf,t68];simp only[cAnd,Bool.decide_and,ge_iff_le]
theorem s110 (x y:Int):(E F (d+2)).pf 181 [.int .i64 x,.int .i64 y]=some (.ret (.bool (decide (y≤x∧x≤1000)))):=by
 rw[E_pf,t110];simp only[s52,tkOut_ret,tkBool_b]
theorem s56 (x:Int):(E F (d+2)).pf 23 [.int .i64 x]=some (.ret (.bool (decide (FlowOk x)))):=by
 rw[E_pf,t56];simp only[s68,tkOut_ret,tkBool_b]
theorem s27 (s:Span):(E F (d+1)).pf 24 [.agg (eSpan s)]=some (.ret (.bool (decide (RatioOk s)))):=by
 rw[E_pf,t27];simp only[cAnd,Bool.decide_and,ge_iff_le]
theorem s53 (s:Span):(E F (d+1)).pf 39 [.agg (eSpan s)]=some (.ret (.bool (decide (RatioOk s)))):=by
 rw[E_pf,t53];simp only[cAnd,Bool.decide_and,ge_iff_le]
def row0:Row:=⟨0,0,0,0⟩
def rowR (m:Mach) (x:Int):Nat→Nat→Row
 |0,_=>row0
 |j+1,i=>if (m.rows.el i).ratio≥x then m.rows.el i else rowR m x j (i+1)
def rowAt (m:Mach) (x:Int):Row:=rowR m x m.rows.len 0
theorem l82 (m:Mach) (x:Int) (hB:m.rows.len<Big):∀ j i fu,i+j=m.rows.len→j<fu →
 L82x0 (E F d) F m x fu i=some (.ret (.agg (eRow (rowR m x j i)))):=by
 intro j
 induction j with
 |zero =>
  intro i fu h hf
  obtain⟨fu,rfl⟩:=ex1 (n:=fu) (by omega)
  rw[L82x0s,dF (by omega),pF]
  rfl
 |succ j ih =>
  intro i fu h hf
  obtain⟨fu,rfl⟩:=ex1 (n:=fu) (by omega)
  have hB':m.rows.len<4611686018427387904:=hB
  have hS:=wrS (i:=i) (by omega)
  rw[L82x0s]
  simp (disch:=omega) only[dT,pT,tnC,hS]
  simp only[rowR]
  by_cases h1:(m.rows.el i).ratio≥x
  ·rw[dT h1,pT,if_pos h1]
  ·rw[dF h1,pF,if_neg h1]
   exact ih (i+1) fu (by omega) (by omega)
theorem s82 (m:Mach) (x:Int) (hB:m.rows.len<Big) (hF:m.rows.len<F):(E F (d+1)).pf 91 [.agg (eMach m),.int .i64 x]=some (.ret (.agg (eRow (rowAt m x)))):=by
 rw[E_pf,t82]
 exact l82 F d m x hB m.rows.len 0 F (by omega) hF
theorem rw_dec (r:Nat→Row) (i:Nat):decide (RwOk r i)=(decide (1000≤(r i).ratio∧(r i).ratio≤5000) && (decide (0<i→(r (i - 1)).ratio<(r i).ratio) && (decide (0≤(r i).least∧(r i).least≤(r i).most) && (decide ((r i).most≤1000000) && decide (0≤(r i).energy∧(r i).energy≤1000))))):=by
 simp only[Bool.decide_and]
def mRest (m:Mach):Bool:=decide ((1≤m.kind∧m.kind≤3)∧(1≤m.rows.len∧m.rows.len≤6)∧(0≤m.start∧m.start≤1000000000)∧(1≤m.up∧m.up≤1000)∧(1≤m.down∧m.down≤1000)∧(1≤m.service∧m.service≤1000)∧(0≤m.left∧m.left≤1000)∧(0≤m.life∧m.life≤1000)∧0≤m.since∧m.since≤1000)
theorem l48 (m:Mach) (hB:m.rows.len<Big):∀ j i fu,i+j=m.rows.len→j<fu →
 L48x0 (E F (d+1)) F m fu i=some (.ret (.bool (allF (fun i=>decide (RwOk m.rows.el i)) j i && mRest m))):=by
 intro j
 induction j with
 |zero =>
  intro i fu h hf
  obtain⟨fu,rfl⟩:=ex1 (n:=fu) (by omega)
  rw[L48x0s,dF (by omega),pF]
  simp only[s68,tkOut_ret,tkBool_b,cAnd]
  refine b3 (b2 ?_)
  unfold mRest
  simp only[allF,Bool.true_and,Bool.and_eq_true,decide_eq_true_iff]
  omega
 |succ j ih =>
  intro i fu h hf
  obtain⟨fu,rfl⟩:=ex1 (n:=fu) (by omega)
  have hB':m.rows.len<4611686018427387904:=hB
  have hS:=wrS (i:=i) (by omega)
  have e:=ih (i+1) fu (by omega) (by omega)
  rw[L48x0s]
  simp (disch:=omega) only[dT,pT,tnC,hS,s68,tkOut_ret,tkBool_b,e]
  simp only[allF,rw_dec]
  have hm:decide ((m.rows.el i).most>1000000) = !decide ((m.rows.el i).most≤1000000):=by
   refine b2 ?_
   simp only[decide_eq_true_iff,Bool.not_eq_true',decide_eq_false_iff_not]
   omega
  rw[hm]
  by_cases hi:(i:Int)>0
  ·have hS2:IntKind.i64.wrap ((i:Int) - 1)=((i - 1:Nat):Int):=by rw[wr (by omega)];omega
   have hr:decide ((m.rows.el i).ratio≤(m.rows.el (i - 1)).ratio) = !decide (0<i→(m.rows.el (i - 1)).ratio<(m.rows.el i).ratio):=by
    refine b2 ?_
    simp only[decide_eq_true_iff,Bool.not_eq_true',decide_eq_false_iff_not]
    omega
   rw[dT hi,pT,hS2]
   simp (disch:=omega) only[dT,pT,tnC]
   rw[hr]
   generalize decide (1000≤(m.rows.el i).ratio∧(m.rows.el i).ratio≤5000)=b1
   generalize decide (0<i→(m.rows.el (i - 1)).ratio<(m.rows.el i).ratio)=b2'
   generalize decide (0≤(m.rows.el i).least∧(m.rows.el i).least≤(m.rows.el i).most)=b3'
   generalize decide ((m.rows.el i).most≤1000000)=b4
   generalize decide (0≤(m.rows.el i).energy∧(m.rows.el i).energy≤1000)=b5
   cases b1<;>cases b2'<;>cases b3'<;>cases b4<;>cases b5<;>rfl
  ·have hr:decide (0<i→(m.rows.el (i - 1)).ratio<(m.rows.el i).ratio)=true:=dT (by omega)
   rw[dF hi,pF,hr]
   generalize decide (1000≤(m.rows.el i).ratio∧(m.rows.el i).ratio≤5000)=b1
   generalize decide (0≤(m.rows.el i).least∧(m.rows.el i).least≤(m.rows.el i).most)=b3'
   generalize decide ((m.rows.el i).most≤1000000)=b4
   generalize decide (0≤(m.rows.el i).energy∧(m.rows.el i).energy≤1000)=b5
   cases b1<;>cases b3'<;>cases b4<;>cases b5<;>rfl
theorem mach_dec (m:Mach):(allF (fun i=>decide (RwOk m.rows.el i)) m.rows.len 0 && mRest m)=decide (MachOk m):=by
 refine b2 ?_
 rw[allF_dec]
 unfold mRest
 simp only[Bool.and_eq_true,decide_eq_true_iff]
theorem s48 (m:Mach) (hB:m.rows.len<Big) (hF:m.rows.len<F):(E F (d+2)).pf 21 [.agg (eMach m)]=some (.ret (.bool (decide (MachOk m)))):=by
 rw[E_pf,t48]
 refine Eq.trans (l48 F d m hB m.rows.len 0 F (by omega) hF) (b3 (mach_dec m))
theorem l39 (l:Sl Mach) (hB:l.len<Big) (hR:∀ i,i<l.len→(l.el i).rows.len<Big∧(l.el i).rows.len<F):∀ j i fu,i+j=l.len→j<fu →
 L39x0 (E F (d+2)) F l fu i=some (.ret (.bool (allF (fun i=>decide (MachOk (l.el i))) j i && decide (1≤l.len∧l.len≤6)))):=by
 intro j
 induction j with
 |zero =>
  intro i fu h hf
  obtain⟨fu,rfl⟩:=ex1 (n:=fu) (by omega)
  rw[L39x0s,dF (by omega),pF]
  simp only[s68,tkOut_ret,tkBool_b]
  refine b3 (b2 ?_)
  simp only[allF,Bool.true_and,decide_eq_true_iff]
  omega
 |succ j ih =>
  intro i fu h hf
  obtain⟨fu,rfl⟩:=ex1 (n:=fu) (by omega)
  have hB':l.len<4611686018427387904:=hB
  have hS:=wrS (i:=i) (by omega)
  have hr:=hR i (by omega)
  rw[L39x0s]
  simp (disch:=omega) only[dT,pT,tnC,hS,s48 F d (l.el i) hr.1 hr.2,tkOut_ret,tkBool_b,ih (i+1) fu (by omega) (by omega),allF,cStep,Bool.and_assoc]
abbrev RowsB (l:Sl Mach) (F:Nat):Prop:=∀ i,i<l.len→(l.el i).rows.len<Big∧(l.el i).rows.len<F
theorem s39 (l:Sl Mach) (hB:l.len<Big) (hF:l.len<F) (hR:RowsB l F):(E F (d+3)).pf 5 [sl eMach 10 l]=some (.ret (.bool (decide (PlantOk l)))):=by
 rw[E_pf,t39]
 refine Eq.trans (l39 F d l hB hR l.len 0 F (by omega) hF) (b3 (b2 ?_))
 rw[allF_dec]
 simp only[Bool.and_eq_true,decide_eq_true_iff]
theorem s109 (m:Mach) (i:Nat) (hB:m.rows.len<Big) (hi:i<m.rows.len):(E F (d+2)).pf 180 [.int .i64 i,.agg (eRow (m.rows.el i)),.rptr 1 10 (fun _=>eMach m) 0 0]=some (.ret (.bool (decide (RwOk m.rows.el i)))):=by
 have hB':m.rows.len<4611686018427387904:=hB
 rw[E_pf,t109]
 simp only[s52,tkOut_ret,tkBool_b]
 rw[rw_dec]
 rcases Nat.eq_zero_or_pos i with h0 | h0
 ·subst h0
  rw[show (((0:Nat):Int)==0)=true from rfl,show decide (0<0→(m.rows.el (0 - 1)).ratio<(m.rows.el 0).ratio)=true from dT (by omega)]
  simp only[pT]
  generalize decide (1000≤(m.rows.el 0).ratio∧(m.rows.el 0).ratio≤5000)=b1
  generalize decide (0≤(m.rows.el 0).least∧(m.rows.el 0).least≤(m.rows.el 0).most)=b3'
  generalize decide ((m.rows.el 0).most≤1000000)=b4
  generalize decide (0≤(m.rows.el 0).energy∧(m.rows.el 0).energy≤1000)=b5
  cases b1<;>cases b3'<;>cases b4<;>cases b5<;>rfl
 ·have hS2:IntKind.i64.wrap ((i:Int) - 1)=((i - 1:Nat):Int):=by rw[wr (by omega)];omega
  have hr:decide ((m.rows.el i).ratio>(m.rows.el (i - 1)).ratio)=decide (0<i→(m.rows.el (i - 1)).ratio<(m.rows.el i).ratio):=by
   refine b2 ?_
   simp only[decide_eq_true_iff]
   omega
  rw[show ((i:Int)==0)=false by rw[beq_eq_false_iff_ne];omega,hS2]
  simp (disch:=omega) only[dT,pT,pF,tnC]
  rw[hr]
  generalize decide (1000≤(m.rows.el i).ratio∧(m.rows.el i).ratio≤5000)=b1
  generalize decide (0<i→(m.rows.el (i - 1)).ratio<(m.rows.el i).ratio)=b2'
  generalize decide (0≤(m.rows.el i).least∧(m.rows.el i).least≤(m.rows.el i).most)=b3'
  generalize decide ((m.rows.el i).most≤1000000)=b4
  generalize decide (0≤(m.rows.el i).energy∧(m.rows.el i).energy≤1000)=b5
  cases b1<;>cases b2'<;>cases b3'<;>cases b4<;>cases b5<;>rfl
theorem l108 (m:Mach) (hB:m.rows.len<Big):∀ j i fu,i+j=m.rows.len→j<fu →
 L108x0 (E F (d+2)) F m.rows m fu i=some (.ret (.bool (allF (fun i=>decide (RwOk m.rows.el i)) j i))):=by
 intro j
 induction j with
 |zero =>
  intro i fu h hf
  obtain⟨fu,rfl⟩:=ex1 (n:=fu) (by omega)
  rw[L108x0s,dF (by omega),pF]
  rfl
 |succ j ih =>
  intro i fu h hf
  obtain⟨fu,rfl⟩:=ex1 (n:=fu) (by omega)
  have hB':m.rows.len<4611686018427387904:=hB
  have hS:=wrS (i:=i) (by omega)
  have e:=s109 F d m i hB (by omega)
  rw[L108x0s]
  simp (disch:=omega) only[dT,pT,tnC,hS,e,tkOut_ret,tkBool_b,ih (i+1) fu (by omega) (by omega),allF,cStep]
theorem s108 (m:Mach) (hB:m.rows.len<Big) (hF:m.rows.len<F):(E F (d+3)).pf 179 [sl eRow 4 m.rows,.fn (.func 180) [] [.rptr 1 10 (fun _=>eMach m) 0 0]]=some (.ret (.bool (allF (fun i=>decide (RwOk m.rows.el i)) m.rows.len 0))):=by
 rw[E_pf,t108]
 exact l108 F d m hB m.rows.len 0 F (by omega) hF
theorem s81 (m:Mach) (hB:m.rows.len<Big) (hF:m.rows.len<F):(E F (d+4)).pf 150 [.agg (eMach m)]=some (.ret (.bool (decide (MachOk m)))):=by
 rw[E_pf,t81]
 simp only[s108 F d m hB hF,s52,s110,tkOut_ret,tkBool_b,cAnd]
 refine b3 ((b2 ?_).trans (mach_dec m))
 unfold mRest
 simp only[Bool.and_eq_true,decide_eq_true_iff]
 generalize allF _ _ _=q
 cases q
 ·simp
 ·simp only[true_and,and_true]
  omega
theorem l106 (l:Sl Mach) (hB:l.len<Big) (hR:RowsB l F):∀ j i fu,i+j=l.len→j<fu →
 L106x0 (E F (d+5)) F l fu i=some (.ret (.bool (allF (fun i=>decide (MachOk (l.el i))) j i))):=by
 intro j
 induction j with
 |zero =>
  intro i fu h hf
  obtain⟨fu,rfl⟩:=ex1 (n:=fu) (by omega)
  rw[L106x0s,dF (by omega),pF];rfl
 |succ j ih =>
  intro i fu h hf
  obtain⟨fu,rfl⟩:=ex1 (n:=fu) (by omega)
  have hB':l.len<4611686018427387904:=hB
  have hS:=wrS (i:=i) (by omega)
  have hr:=hR i (by omega)
  have e:(E F (d+5)).pf 149 [.int .i64 i,.agg (eMach (l.el i))]=some (.ret (.bool (decide (MachOk (l.el i))))):=by
   rw[E_pf,t107];simp only[s81 F d (l.el i) hr.1 hr.2,tkOut_ret,tkBool_b]
  rw[L106x0s]
  simp (disch:=omega) only[dT,pT,tnC,hS,e,tkOut_ret,tkBool_b,ih (i+1) fu (by omega) (by omega),allF,cStep]
theorem s80 (l:Sl Mach) (hB:l.len<Big) (hF:l.len<F) (hR:RowsB l F):(E F (d+7)).pf 89 [sl eMach 10 l]=some (.ret (.bool (decide (PlantOk l)))):=by
 have e:(E F (d+6)).pf 148 [sl eMach 10 l,.fn (.func 149) [] []]=some (.ret (.bool (allF (fun i=>decide (MachOk (l.el i))) l.len 0))):=by
  rw[E_pf,t106]
  exact l106 F d l hB hR l.len 0 F (by omega) hF
 rw[E_pf,t80]
 simp only[e,s52,tkOut_ret,tkBool_b,cAnd]
 refine b3 (b2 ?_)
 rw[allF_dec]
 simp only[Bool.and_eq_true,decide_eq_true_iff]
 constructor
 ·rintro⟨h1,h2⟩;exact⟨h2,by omega,by omega⟩
 ·rintro⟨h1,h2,h3⟩;exact⟨by omega,h1⟩
theorem s51 (l:Sl Mach) (r:Sl Bool) (hB:l.len<Big) (hF:l.len<F) (hR:RowsB l F):(E F (d+8)).pf 37 [sl eMach 10 l,sl eBool 1 r]=some (.ret (.bool (decide (PlantOk l∧r.len=l.len)))):=by
 rw[E_pf,t51]
 simp only[s80 F d l hB hF hR,tkOut_ret,tkBool_b,cAnd]
 refine b3 (b2 ?_)
 simp only[Bool.and_eq_true,decide_eq_true_iff,beq_iff_eq,Int.natCast_inj]
end Go.Sim.Pl

namespace Go.Sim.Pl
open Go.Sim.Le (cfg E E_pf E_hv names look)
open Go.Proofs
abbrev RowIn (r:Row):Prop:=(0≤r.least∧r.least≤r.most)∧r.most≤1000000∧0≤r.energy∧r.energy≤1000
theorem rowR_in {m:Mach} (hm:MachOk m) (x:Int):∀ j i,i+j=m.rows.len→RowIn (rowR m x j i)
 |0,_,_=>by show RowIn row0;decide
 |j+1,i,h=>by
  simp only[rowR]
  split
  ·have:=hm.1 i (by omega)
   exact this.2.2
  ·exact rowR_in hm x j (i+1) (by omega)
theorem row_in {m:Mach} (hm:MachOk m) (x:Int):RowIn (rowAt m x):=rowR_in hm x _ _ (by omega)
def thereS (l:Nat→Mach) (k:Int):Nat→Bool
 |0=>false
 |j+1=>thereS l k j || decide ((l j).kind=k)
def mostS (l:Nat→Mach) (r:Nat→Bool) (x k:Int):Nat→Int
 |0=>0
 |j+1=>mostS l r x k j+(if (l j).kind=k∧r j=true then (rowAt (l j) x).most else 0)
def shortK (l:Nat→Mach) (r:Nat→Bool) (f x k:Int) (n:Nat):Bool:=thereS l k n && decide (mostS l r x k n<f)
def lackK (l:Nat→Mach) (r:Nat→Bool) (f x:Int) (n:Nat):Nat→Int→Int
 |0,_=>0
 |j+1,k=>if shortK l r f x k n=true then k else lackK l r f x n j (k+1)
def lacks (l:Sl Mach) (r:Nat→Bool) (f x:Int):Int:=lackK l.el r f x l.len 3 1
theorem lackK_in (l:Nat→Mach) (r:Nat→Bool) (f x:Int) (n:Nat):∀ (j:Nat) (k:Int),1≤k→0≤lackK l r f x n j k∧lackK l r f x n j k<k+j
 |0,k,h=>by simp only[lackK];omega
 |j+1,k,h=>by
  have:=lackK_in l r f x n j (k+1) (by omega)
  simp only[lackK]
  split<;>omega
theorem lacks_in (l:Sl Mach) (r:Nat→Bool) (f x:Int):0≤lacks l r f x∧lacks l r f x≤3:=by
 have:=lackK_in l.el r f x l.len 3 1 (by omega)
 unfold lacks
 omega
variable (F d:Nat)
theorem rowsB {l:Sl Mach} (hl:PlantOk l) (hF:1000<F):RowsB l F:=fun i hi=>by
 have:=(hl.1 i hi).2.2.1
 exact⟨lenB (by omega),by omega⟩
section
variable {l:Sl Mach} (hl:PlantOk l) (hF:1000<F)
include hl
theorem mostS_in (r:Nat→Bool) (x k:Int):∀ j,j≤l.len→0≤mostS l.el r x k j∧mostS l.el r x k j≤1000000*j
 |0,_=>by simp[mostS]
 |j+1,h=>by
  have i:=mostS_in r x k j (by omega)
  have hr:=row_in (hl.1 j (by omega)) x
  simp only[mostS]
  split<;>omega
include hF
theorem e82 (x:Int) {i:Nat} (hi:i<l.len):(E F (d+1)).pf 91 [.agg (eMach (l.el i)),.int .i64 x]=some (.ret (.agg (eRow (rowAt (l.el i) x)))):=s82 F d (l.el i) x (rowsB F hl hF i hi).1 (rowsB F hl hF i hi).2
theorem l54x1 (r:Sl Bool) (hr:r.len=l.len) (f x:Int) (m0 a:Nat) (k:Int) (R:Option Out)
 (K:(bif shortK l.el r.el f x k l.len then some (.ret (.int .i64 k)) else L54x0 (E F (d+1)) F l r f x m0 .i64 1 .i64 2 .i64 3 (IntKind.i64.wrap ((a:Int)+1)))=R):∀ j i fu,i+j=l.len→j<fu →
 L54x1 (E F (d+1)) F l r f x m0 fu .i64 k (thereS l.el k i) (mostS l.el r.el x k i) .i64 1 .i64 2 .i64 3 a i=R:=by
 have hll:=hl.2
 intro j
 induction j with
 |zero =>
  intro i fu h hf
  obtain⟨fu,rfl⟩:=ex1 (n:=fu) (by omega)
  have hi:i=l.len:=by omega
  subst hi
  rw[L54x1s,dF (by omega),pF]
  unfold shortK at K
  cases hb:thereS l.el k l.len with
  |true =>
   rw[hb,Bool.true_and] at K
   rw[pT]
   cases hd:decide (mostS l.el r.el x k l.len<f) with
   |true=>rw[hd,cond_true] at K;rw[pT];exact K
   |false=>rw[hd,cond_false] at K;rw[pF];exact K
  |false =>
   rw[hb,Bool.false_and,cond_false] at K
   rw[pF]
   exact K
 |succ j ih =>
  intro i fu h hf
  obtain⟨fu,rfl⟩:=ex1 (n:=fu) (by omega)
  have hS:=wrS (i:=i) (by omega)
  have hm:=mostS_in hl r.el x k i (by omega)
  have hrw:=row_in (hl.1 i (by omega)) x
  have e:=ih (i+1) fu (by omega) (by omega)
  have q:=e82 F d hl hF x (i:=i) (by omega)
  simp only[thereS,mostS] at e
  rw[L54x1s]
  simp (disch:=omega) only[dT,decide_true,pT,tnC,hS]
  by_cases hk:(l.el i).kind=k
  ·rw[show ((l.el i).kind != k)=false by simp[hk],pF]
   rw[dT hk,Bool.or_true] at e
   cases hb:r.el i with
   |true =>
    rw[if_pos ⟨hk,hb⟩] at e
    rw[pT]
    simp only[q,tkOut_ret,tkAgg_a,tkCons_c,tkInt_i,tkNil_n,decide_true,pT]
    rw[wr (n:=mostS l.el r.el x k i+(rowAt (l.el i) x).most) (by omega)]
    exact e
   |false =>
    rw[if_neg (fun hh=>by rw[hb] at hh;cases hh.2),Int.add_zero] at e
    rw[pF]
    exact e
  ·rw[show ((l.el i).kind != k)=true by simp[hk],pT]
   rw[dF hk,Bool.or_false,if_neg (fun hh=>hk hh.1),Int.add_zero] at e
   exact e
omit hl hF in
theorem kind_at {a:Nat} (ha:a<3):List.drop (a*1) [V.int .i64 1,.int .i64 2,.int .i64 3] = .int .i64 ((a:Int)+1) :: List.drop (a+1) [V.int .i64 1,.int .i64 2,.int .i64 3]:=by
 match a,ha with
 |0,_=>rfl
 |1,_=>rfl
 |2,_=>rfl
theorem l54x0 (r:Sl Bool) (hr:r.len=l.len) (f x:Int):∀ (j a:Nat) fu,a+j=3→j<fu→L54x0 (E F (d+1)) F l r f x fu .i64 1 .i64 2 .i64 3 a=some (.ret (.int .i64 (lackK l.el r.el f x l.len j ((a:Int)+1)))):=by
 have hll:=hl.2
 intro j
 induction j with
 |zero =>
  intro a fu h hf
  obtain⟨fu,rfl⟩:=ex1 (n:=fu) (by omega)
  rw[L54x0s,dF (by omega),pF];rfl
 |succ j ih =>
  intro a fu h hf
  obtain⟨fu,rfl⟩:=ex1 (n:=fu) (by omega)
  rw[L54x0s]
  simp (disch:=omega) only[dT,decide_true,pT,tnC,kind_at,tkCons_c,tkInt_i]
  refine l54x1 F d hl hF r hr f x fu a ((a:Int)+1) _ ?_ l.len 0 F (by omega) (by omega)
  simp only[lackK]
  cases shortK l.el r.el f x ((a:Int)+1) l.len with
  |true=>rw[cond_true,if_pos rfl]
  |false =>
   rw[cond_false,if_neg (by simp),wrS (by omega)]
   have e:=ih (a+1) fu (by omega) (by omega)
   rw[show (((a+1:Nat):Int)+1)=(a:Int)+1+1 by omega] at e
   exact e
theorem s54 (r:Sl Bool) (hr:r.len=l.len) (f x:Int):(E F (d+2)).pf 40 [sl eMach 10 l,sl eBool 1 r,.int .i64 f,.int .i64 x]=some (.ret (.int .i64 (lacks l r.el f x))):=by
 have q:(E F (d+1)).pf 90 []=some (.ret (.agg [.int .i64 1,.int .i64 2,.int .i64 3])):=by rw[E_pf,t83]
 rw[E_pf,t54]
 simp only[q,tkOut_ret,tkAgg_a,tkCons_c,tkInt_i,tkNil_n]
 exact l54x0 F d hl hF r hr f x 3 0 F (by omega) (by omega)
end
def ratR (m:Mach) (s:Span):Nat→Nat→List Int
 |0,_=>[]
 |j+1,i=>(if s.lo<(m.rows.el i).ratio+1∧(m.rows.el i).ratio+1≤s.hi then [(m.rows.el i).ratio+1] else []) ++ ratR m s j (i+1)
def ratM (l:Sl Mach) (s:Span):Nat→Nat→List Int
 |0,_=>[]
 |j+1,i=>ratR (l.el i) s (l.el i).rows.len 0 ++ ratM l s j (i+1)
def ratL (l:Sl Mach) (s:Span):List Int:=s.lo :: ratM l s l.len 0
theorem ratR_in {m:Mach} {s:Span}:∀ j i,∀ x ∈ ratR m s j i,s.lo<x∧x≤s.hi
 |0,_,x,h=>by simp[ratR] at h
 |j+1,i,x,h=>by
  simp only[ratR,List.mem_append] at h
  rcases h with h | h
  ·split at h
   ·rename_i hc
    rw[List.mem_singleton] at h
    subst h
    exact hc
   ·simp at h
  ·exact ratR_in j (i+1) x h
theorem ratM_in {l:Sl Mach} {s:Span}:∀ j i,∀ x ∈ ratM l s j i,s.lo<x∧x≤s.hi
 |0,_,x,h=>by simp[ratM] at h
 |j+1,i,x,h=>by
  simp only[ratM,List.mem_append] at h
  rcases h with h | h
  ·exact ratR_in _ _ x h
  ·exact ratM_in j (i+1) x h
theorem ratL_in {l:Sl Mach} {s:Span} (hs:RatioOk s):∀ x ∈ ratL l s,s.lo≤x∧x≤s.hi:=fun x h=>by
 rcases List.mem_cons.1 h with rfl | h
 ·exact⟨Int.le_refl _,hs.2.1⟩
 ·have:=ratM_in _ _ x h
  omega
section
variable {l:Sl Mach} (hl:PlantOk l) (hF:1000<F) {s:Span} (hs:RatioOk s)
include hl hF hs
end
def updK (o k:Int):Int:=if k ≠ 0∧(o=0∨k<o) then k else o
def shortF (l:Sl Mach) (r:Nat→Bool) (f:Int) (o:Int) (xs:List Int):Int:=xs.foldl (fun o x=>updK o (lacks l r f x)) o
def shortest (l:Sl Mach) (r:Nat→Bool) (f:Int) (s:Span):Int:=shortF l r f 0 (ratL l s)
def failsB (l:Sl Mach) (r:Nat→Bool) (f:Int) (xs:List Int):Bool:=xs.any fun x=>decide (lacks l r f x>0)
theorem shortF_in (l:Sl Mach) (r:Nat→Bool) (f:Int):∀ xs o,0≤o→o≤3→0≤shortF l r f o xs∧shortF l r f o xs≤3
 |[],o,h1,h2=>⟨h1,h2⟩
 |x :: xs,o,h1,h2=>by
  have hx:=lacks_in l r f x
  have:shortF l r f o (x :: xs)=shortF l r f (updK o (lacks l r f x)) xs:=rfl
  rw[this]
  refine shortF_in l r f xs _ ?_ ?_<;>unfold updK<;>split<;>omega
theorem shortF_0 (l:Sl Mach) (r:Nat→Bool) (f:Int):∀ xs o,0≤o→(shortF l r f o xs ≠ 0↔o ≠ 0∨failsB l r f xs=true)
 |[],o,_=>by simp[shortF,failsB]
 |x :: xs,o,h1=>by
  have hx:=lacks_in l r f x
  have e:shortF l r f o (x :: xs)=shortF l r f (updK o (lacks l r f x)) xs:=rfl
  rw[e,shortF_0 l r f xs _ (by unfold updK;split<;>omega)]
  have e2:failsB l r f (x :: xs)=(decide (lacks l r f x>0) || failsB l r f xs):=rfl
  rw[e2,Bool.or_eq_true,decide_eq_true_iff]
  have e3:updK o (lacks l r f x) ≠ 0↔o ≠ 0∨lacks l r f x>0:=by
   unfold updK
   split
   ·rename_i h
    constructor
    ·intro _;omega
    ·intro _;omega
   ·rename_i h
    constructor
    ·intro hh;exact .inl hh
    ·rintro (hh | hh)
     ·exact hh
     ·intro ho;exact h ⟨by omega,.inl ho⟩
  rw[e3,or_assoc]
theorem shortest_0 (l:Sl Mach) (r:Nat→Bool) (f:Int) (s:Span):shortest l r f s ≠ 0↔failsB l r f (ratL l s)=true:=by
 unfold shortest
 rw[shortF_0 l r f _ 0 (by omega)]
 simp
section
variable {l:Sl Mach} (hl:PlantOk l) (hF:1000<F) {s:Span} (hs:RatioOk s) (r:Sl Bool) (hr:r.len=l.len) (f:Int)
include hl hF hs hr
theorem l57x1 (m0 i:Nat) (hi:i<l.len) (R:Option Out) (hFd:(E F (d+2)).pf 38=(E F (d+2)).pf 38):∀ j k fu (o:Int),k+j=(l.el i).rows.len→j<fu→0≤o→o≤3 →
 (L57x0 (E F (d+2)) F l r f s m0 (fun _=>eSpan s) l.nl l.len 10 (fun i=>eMach (l.el i)) l.len ((i+1:Nat):Int) .i64 (shortF l r.el f o (ratR (l.el i) s j k)) (fun _=>eSpan s) (fun _=>[sl eMach 10 l])=R) →
 L57x1 (E F (d+2)) F l r f s m0 fu (fun _=>eSpan s) l.nl l.len 10 (fun i=>eMach (l.el i)) l.len i (l.el i).rows.nl (l.el i).rows.len 4 (fun k=>eRow ((l.el i).rows.el k)) (l.el i).rows.len k .i64 o (fun _=>eSpan s) (fun _=>[sl eMach 10 l])=R:=by
 have hll:=hl.2
 intro j
 induction j with
 |zero =>
  intro k fu o h hf ho1 ho2 K
  obtain⟨fu,rfl⟩:=ex1 (n:=fu) (by omega)
  have hS:=wrS (i:=i) (by omega)
  simp only[ratR,shortF,List.foldl_nil] at K
  rw[L57x1s,dF (by omega),pF,hS]
  exact K
 |succ j ih =>
  intro k fu o h hf ho1 ho2 K
  obtain⟨fu,rfl⟩:=ex1 (n:=fu) (by omega)
  have hm:=(hl.1 i hi).1 k (by omega)
  have hml:=(hl.1 i hi).2.2.1
  have hS:=wrS (i:=k) (by omega)
  have q52:=s52 F (d+1) (((l.el i).rows.el k).ratio+1) (s.lo+1) s.hi
  have q54:=s54 F d hl hF r hr f (((l.el i).rows.el k).ratio+1)
  have hlk:=lacks_in l r.el f (((l.el i).rows.el k).ratio+1)
  simp only[ratR] at K
  rw[L57x1s]
  simp (disch:=omega) only[dT,decide_true,pT,tnC,show ((4:Nat)==4)=true from rfl,List.take,List.length,List.drop,show ((0+1+1+1+1:Nat)==4)=true from rfl,tkCons_c,tkInt_i,tkNil_n,wr (n:=((l.el i).rows.el k).ratio+1),wr (n:=s.lo+1),q52,tkOut_ret,tkBool_b,hS]
  by_cases h1:s.lo<((l.el i).rows.el k).ratio+1∧((l.el i).rows.el k).ratio+1≤s.hi
  ·rw[dT (show s.lo+1≤((l.el i).rows.el k).ratio+1∧((l.el i).rows.el k).ratio+1≤s.hi by omega),pT]
   rw[if_pos h1] at K
   have K':L57x0 (E F (d+2)) F l r f s m0 (fun _=>eSpan s) l.nl l.len 10 (fun i=>eMach (l.el i)) l.len ((i+1:Nat):Int) .i64 (shortF l r.el f (updK o (lacks l r.el f (((l.el i).rows.el k).ratio+1))) (ratR (l.el i) s j (k+1))) (fun _=>eSpan s) (fun _=>[sl eMach 10 l])=R:=K
   have e:=fun h1 h2=>ih (k+1) fu (updK o (lacks l r.el f (((l.el i).rows.el k).ratio+1))) (by omega) (by omega) h1 h2 K'
   simp only[q54,tkOut_ret,tkInt_i,decide_true,pT]
   by_cases g1:lacks l r.el f (((l.el i).rows.el k).ratio+1)=0
   ·rw[show (lacks l r.el f (((l.el i).rows.el k).ratio+1) != 0)=false by simp[g1],pF]
    have eu:updK o (lacks l r.el f (((l.el i).rows.el k).ratio+1))=o:=by unfold updK;rw[if_neg (by omega)]
    rw[eu] at e
    exact e ho1 ho2
   ·rw[show (lacks l r.el f (((l.el i).rows.el k).ratio+1) != 0)=true by simp[g1],pT]
    by_cases g2:o=0
    ·rw[show (o==0)=true by simp[g2],pT]
     have eu:updK o (lacks l r.el f (((l.el i).rows.el k).ratio+1))=lacks l r.el f (((l.el i).rows.el k).ratio+1):=by unfold updK;rw[if_pos ⟨g1,.inl g2⟩]
     rw[eu] at e
     exact e (by omega) (by omega)
    ·rw[show (o==0)=false by simp[g2],pF]
     by_cases g3:lacks l r.el f (((l.el i).rows.el k).ratio+1)<o
     ·rw[dT g3,pT]
      have eu:updK o (lacks l r.el f (((l.el i).rows.el k).ratio+1))=lacks l r.el f (((l.el i).rows.el k).ratio+1):=by unfold updK;rw[if_pos ⟨g1,.inr g3⟩]
      rw[eu] at e
      exact e (by omega) (by omega)
     ·rw[dF g3,pF]
      have eu:updK o (lacks l r.el f (((l.el i).rows.el k).ratio+1))=o:=by unfold updK;rw[if_neg (by omega)]
      rw[eu] at e
      exact e ho1 ho2
  ·rw[dF (show ¬ (s.lo+1≤((l.el i).rows.el k).ratio+1∧((l.el i).rows.el k).ratio+1≤s.hi) by omega),pF]
   rw[if_neg h1,List.nil_append] at K
   exact ih (k+1) fu o (by omega) (by omega) ho1 ho2 K
theorem l57x0:∀ j i fu (o:Int),i+j=l.len→j<fu→0≤o→o≤3 →
 L57x0 (E F (d+2)) F l r f s fu (fun _=>eSpan s) l.nl l.len 10 (fun i=>eMach (l.el i)) l.len i .i64 o (fun _=>eSpan s) (fun _=>[sl eMach 10 l])=some (.ret (.int .i64 (shortF l r.el f o (ratM l s j i)))):=by
 have hll:=hl.2
 intro j
 induction j with
 |zero =>
  intro i fu o h hf ho1 ho2
  obtain⟨fu,rfl⟩:=ex1 (n:=fu) (by omega)
  rw[L57x0s,dF (by omega),pF];rfl
 |succ j ih =>
  intro i fu o h hf ho1 ho2
  obtain⟨fu,rfl⟩:=ex1 (n:=fu) (by omega)
  have hml:=(hl.1 i (by omega)).2.2.1
  have hsf:=shortF_in l r.el f (ratR (l.el i) s (l.el i).rows.len 0) o ho1 ho2
  have e:=ih (i+1) fu (shortF l r.el f o (ratR (l.el i) s (l.el i).rows.len 0)) (by omega) (by omega) hsf.1 hsf.2
  have e':shortF l r.el f (shortF l r.el f o (ratR (l.el i) s (l.el i).rows.len 0)) (ratM l s j (i+1))=shortF l r.el f o (ratM l s (j+1) i):=by
   unfold shortF
   rw[ratM,List.foldl_append]
  rw[e'] at e
  rw[L57x0s]
  simp (disch:=omega) only[dT,decide_true,pT,tnC,show ((10:Nat)==10)=true from rfl,List.take,List.length,show ((0+1+1+1+1+1+1+1+1+1+1:Nat)==10)=true from rfl,tkCons_c,tkInt_i,tkBool_b,tkRow_r,tkNil_n]
  exact l57x1 F d hl hF hs r hr f fu i (by omega) _ rfl (l.el i).rows.len 0 F o (by omega) (by omega) ho1 ho2 e
theorem s57:(E F (d+3)).pf 173 [sl eMach 10 l,sl eBool 1 r,.int .i64 f,.agg (eSpan s)]=some (.ret (.int .i64 (shortest l r.el f s))):=by
 have q90:(E F (d+2)).pf 125 [sl eMach 10 l,.agg (eSpan s)]=some (.ret (.fn (.func 174) [] [.rptr 1 2 (fun _=>eSpan s) 0 0,.rptr 1 1 (fun _=>[sl eMach 10 l]) 0 0])):=by
  rw[E_pf]
  exact t90 _ _ l s
 have q54:=s54 F d hl hF r hr f s.lo
 have hlk:=lacks_in l r.el f s.lo
 have e:=l57x0 F d hl hF hs r hr f l.len 0 F (lacks l r.el f s.lo) (by omega) (by have:=hl.2;omega) hlk.1 hlk.2
 have e':shortF l r.el f (lacks l r.el f s.lo) (ratM l s l.len 0)=shortest l r.el f s:=by
  have:shortest l r.el f s=shortF l r.el f (updK 0 (lacks l r.el f s.lo)) (ratM l s l.len 0):=rfl
  have eu:updK 0 (lacks l r.el f s.lo)=lacks l r.el f s.lo:=by
   unfold updK
   split
   ·rfl
   ·omega
  rw[this,eu]
 rw[e'] at e
 rw[E_pf,t57]
 simp only[q90,tkOut_ret,tkFn_f,Nat.beq_refl,pT,tkNil_n,tkCons_c,tkPtr_p,Bool.and_self,tkInt_i,tkRow_r]
 simp only[q54,tkOut_ret,tkInt_i,decide_true,pT]
 by_cases h0:lacks l r.el f s.lo=0
 ·rw[show (lacks l r.el f s.lo != 0)=false by simp[h0],pF]
  rw[h0,Int.natCast_zero] at e
  exact e
 ·rw[show (lacks l r.el f s.lo != 0)=true by simp[h0],pT]
  exact e
end
end Go.Sim.Pl

namespace Go.Sim.Pl
open Go.Sim.Le (cfg E E_pf E_hv names look)
open Go.Proofs
def pd (key:Nat→Int):List Nat→Nat→List Nat→List Nat
 |[],x,B=>x :: B
 |y :: A,x,B=>if key x<key y then pd key A x (y :: B) else (y :: A).reverse ++ x :: B
def srt (key:Nat→Int):List Nat→List Nat→List Nat
 |S,[]=>S
 |S,y :: r=>srt key (pd key S.reverse y []) r
theorem pd_len (key:Nat→Int):∀ (A:List Nat) (x:Nat) (B:List Nat),(pd key A x B).length=A.length+1+B.length
 |[],x,B=>by simp only[pd,List.length_cons,List.length_nil];omega
 |y :: A,x,B=>by
  simp only[pd]
  split
  ·rw[pd_len key A x (y :: B)];simp only[List.length_cons];omega
  ·simp only[List.length_append,List.length_reverse,List.length_cons];omega
theorem pd_mem (key:Nat→Int):∀ (A:List Nat) (x:Nat) (B:List Nat) (z:Nat),z ∈ pd key A x B↔z ∈ A∨z=x∨z ∈ B
 |[],x,B,z=>by simp[pd]
 |y :: A,x,B,z=>by
  simp only[pd]
  split
  ·rw[pd_mem key A x (y :: B)]
   simp only[List.mem_cons]
   constructor
   ·rintro (h | h | h | h)
    ·exact .inl (.inr h)
    ·exact .inr (.inl h)
    ·exact .inl (.inl h)
    ·exact .inr (.inr h)
   ·rintro ((h | h) | h | h)
    ·exact .inr (.inr (.inl h))
    ·exact .inl h
    ·exact .inr (.inl h)
    ·exact .inr (.inr (.inr h))
  ·simp only[List.mem_append,List.mem_reverse,List.mem_cons]
theorem srt_len (key:Nat→Int):∀ (r S:List Nat),(srt key S r).length=S.length+r.length
 |[],S=>by simp[srt]
 |y :: r,S=>by
  simp only[srt]
  rw[srt_len key r,pd_len]
  simp only[List.length_reverse,List.length_nil,List.length_cons]
  omega
theorem srt_mem (key:Nat→Int):∀ (r S:List Nat) (z:Nat),z ∈ srt key S r↔z ∈ S∨z ∈ r
 |[],S,z=>by simp[srt]
 |y :: r,S,z=>by
  simp only[srt]
  rw[srt_mem key r,pd_mem]
  simp only[List.mem_reverse,List.mem_cons,List.not_mem_nil,or_false,or_assoc]
def Bef (key:Nat→Int) (a b:Nat):Prop:=key a<key b∨key a=key b∧a<b
theorem pd_ord (key:Nat→Int):∀ (A:List Nat) (x:Nat) (B:List Nat),(A.reverse ++ B).Pairwise (Bef key)→(∀ b ∈ B,Bef key x b)→(∀ a ∈ A,a<x)→(pd key A x B).Pairwise (Bef key)
 |[],x,B,h,hB,hA=>by
  simp only[pd]
  exact List.pairwise_cons.2 ⟨hB,by simpa using h⟩
 |y :: A,x,B,h,hB,hA=>by
  simp only[pd]
  split
  ·rename_i hk
   refine pd_ord key A x (y :: B) (by simpa using h) ?_ (fun a ha=>hA a (by simp[ha]))
   intro b hb
   rcases List.mem_cons.1 hb with rfl | hb
   ·exact .inl hk
   ·exact hB b hb
  ·rename_i hk
   rw[List.pairwise_append] at h ⊢
   refine⟨h.1,List.pairwise_cons.2 ⟨hB,h.2.1⟩,?_⟩
   intro a ha b hb
   rcases List.mem_cons.1 hb with rfl | hb
   ·have hax:=hA a (by simpa[or_comm] using ha)
    have h1:=h.1
    rw[List.reverse_cons,List.pairwise_append] at h1
    rw[List.reverse_cons,List.mem_append,List.mem_singleton] at ha
    rcases ha with ha | rfl
    ·have:=h1.2.2 a ha y (by simp)
     rcases this with h2 | ⟨h2,_⟩
     ·exact .inl (by omega)
     ·rcases Int.lt_or_eq_of_le (Int.not_lt.1 hk) with h3 | h3
      ·exact .inl (by omega)
      ·exact .inr ⟨by omega,hax⟩
    ·rcases Int.lt_or_eq_of_le (Int.not_lt.1 hk) with h3 | h3
     ·exact .inl h3
     ·exact .inr ⟨h3,hax⟩
   ·exact h.2.2 a ha b hb
theorem srt_ord (key:Nat→Int):∀ (r S:List Nat),S.Pairwise (Bef key)→(∀ a ∈ S,∀ b ∈ r,a<b)→r.Pairwise (· < ·)→(srt key S r).Pairwise (Bef key)
 |[],S,h,_,_=>h
 |y :: r,S,h,hS,hr=>by
  simp only[srt]
  rw[List.pairwise_cons] at hr
  refine srt_ord key r _ (pd_ord key S.reverse y [] (by simpa using h) (by simp) (fun a ha=>hS a (by simpa using ha) y (by simp))) ?_ hr.2
  intro a ha b hb
  rw[pd_mem] at ha
  rcases ha with ha | rfl | ha
  ·exact hS a (by simpa using ha) b (by simp[hb])
  ·exact hr.1 b hb
  ·simp at ha
theorem bef_irr {key:Nat→Int} {a b:Nat} (h1:Bef key a b) (h2:Bef key b a):False:=by
 unfold Bef at h1 h2;omega
theorem bef_self {key:Nat→Int} {a:Nat} (h1:Bef key a a):False:=bef_irr h1 h1
def key0:Nat→Int:=fun _=>0
def keyE (l:Sl Mach) (x:Int):Nat→Int:=fun i=>(rowAt (l.el i) x).energy
def IsL (g:Nat→List V) (L:List Nat):Prop:=∀ j,j<L.length→g j=eInt ((L.getD j 0:Nat):Int)
theorem getD_append_l {a b:List Nat} {j:Nat} (h:j<a.length):(a ++ b).getD j 0=a.getD j 0:=by
 rw[List.getD_eq_getElem?_getD,List.getElem?_append_left h,← List.getD_eq_getElem?_getD]
theorem getD_append_r {a b:List Nat} {j:Nat} (h:a.length≤j):(a ++ b).getD j 0=b.getD (j - a.length) 0:=by
 rw[List.getD_eq_getElem?_getD,List.getElem?_append_right h,← List.getD_eq_getElem?_getD]
theorem upd_at {g:Nat→List V} {n:Nat} {p a:Int} (h:g n=eInt a):updGet g n 0 (eInt p)=fun j=>if j=n then eInt p else g j:=by
 funext j
 unfold updGet
 by_cases hj:j=n
 ·rw[if_pos hj,if_pos hj,hj,h];rfl
 ·rw[if_neg hj,if_neg hj]
theorem sameK0:sameV 8 (.fn (.func 95) [] []) (.fn (.func 95) [] [])=true:=by simp[sameV]
theorem sameK1 (x:Int):sameV 8 (.fn (.func 96) [] [(.rptr 1 1 (fun _=>[(.fn (.func 93) [] [(.rptr 1 1 (fun _=>[(.int .i64 x)]) 0 0)])]) 0 0)]) (.fn (.func 96) [] [(.rptr 1 1 (fun _=>[(.fn (.func 93) [] [(.rptr 1 1 (fun _=>[(.int .i64 x)]) 0 0)])]) 0 0)])=true:=by simp[sameV]
variable (F d:Nat)
section
variable {l:Sl Mach} (hl:PlantOk l) (hF:1000<F)
include hl hF
theorem s84 (i:Nat) (hi:i<l.len) (k:Int) (r:Sl Bool) (hr:r.len=l.len):(E F (d+1)).pf 92 [.int .i64 i,.agg (eMach (l.el i)),.rptr 1 1 (fun _=>[.int .i64 k]) 0 0,.rptr 1 1 (fun _=>[sl eBool 1 r]) 0 0]=some (.ret (.bool (decide ((l.el i).kind=k∧r.el i=true)))):=by
 rw[E_pf,t84]
 by_cases h:(l.el i).kind=k
 ·rw[show ((l.el i).kind==k)=true by simp[h],pT]
  simp (disch:=omega) only[dT,pT,tnC]
  refine b3 (b2 ?_)
  simp[h]
 ·rw[show ((l.el i).kind==k)=false by simp[h],pF]
  refine b3 (b2 ?_)
  simp[h]
theorem s85 (i:Nat) (hi:i<l.len) (x:Int):(E F (d+2)).pf 93 [.agg (eMach (l.el i)),.rptr 1 1 (fun _=>[.int .i64 x]) 0 0]=some (.ret (.agg (eRow (rowAt (l.el i) x)))):=by
 have e:=e82 F d hl hF x hi
 rw[E_pf,t85]
 simp only[e,tkOut_ret,tkAgg_a,tkCons_c,tkInt_i,tkNil_n]
theorem s87 (i:Nat):(E F (d+3)).pf 95 [.agg (eMach (l.el i))]=some (.ret (.int .i64 0)):=by
 rw[E_pf,t87]
theorem s88 (i:Nat) (hi:i<l.len) (x:Int):(E F (d+3)).pf 96 [.agg (eMach (l.el i)),.rptr 1 1 (fun _=>[.fn (.func 93) [] [.rptr 1 1 (fun _=>[.int .i64 x]) 0 0]]) 0 0]=some (.ret (.int .i64 (rowAt (l.el i) x).energy)):=by
 have e:=s85 F d hl hF i hi x
 rw[E_pf,t88]
 simp only[e,tkOut_ret,tkAgg_a,tkCons_c,tkInt_i,tkNil_n]
theorem sJ6 {a b:Nat} (ha:a<l.len) (hb:b<l.len):(E F (d+4)).pf 152 [.int .i64 a,.int .i64 b,.rptr 1 1 (fun _=>[(.fn (.func 95) [] [])]) 0 0,.rptr 1 1 (fun _=>[sl eMach 10 l]) 0 0]=some (.ret (.int .i64 (key0 a - key0 b))):=by
 have hl2:=hl.2
 skip
 rw[E_pf,tJ6]
 simp (disch:=omega) only[dT,decide_true,pT,tnC,s87 F d hl hF a,s87 F d hl hF b,tkOut_ret,tkInt_i,wr]
 rfl
theorem lB0x1 {n:Nat} (g0:Nat→Int) (b:Int) (m0 i0:Nat) (hi0:i0<1000) (P:Option (Out × List Slot)→Prop) (rest:List Nat) (hn:n<1000) :
 ∀ (A:List Nat) (y:Nat) (B:List Nat) fu g,A.length<fu→n=A.length+1+B.length+rest.length→(∀ z ∈ A,z<l.len)→y<l.len→IsL g (A.reverse ++ y :: (B ++ rest)) →
 (∀ g',IsL g' (pd (key0) A y B ++ rest)→P (LB0x0 (E F (d+4)) F n g0 0 b l m0 ((i0+1:Nat):Int) g'))→P (LB0x1 (E F (d+4)) F n g0 0 b l m0 fu i0 A.length g):=by
 intro A
 induction A with
 |nil =>
  intro y B fu g hf hn1 hA hy hg K
  obtain⟨fu,rfl⟩:=ex1 (n:=fu) (by omega)
  have hS:=wrS (i:=i0) (by omega)
  rw[LB0x1s,show ((([]:List Nat).length:Nat):Int)=0 from rfl,dF (by omega),pF,hS]
  exact K g hg
 |cons z A ih =>
  intro y B fu g hf hn1 hA hy hg K
  obtain⟨fu,rfl⟩:=ex1 (n:=fu) (by omega)
  have hS:=wrS (i:=i0) (by omega)
  rw[List.length_cons] at hn1 hf ⊢
  have hP:IntKind.i64.wrap (((A.length+1:Nat):Int) - 1)=((A.length:Nat):Int):=by rw[wr (by omega)];omega
  have g1:g (A.length+1)=eInt (y:Int):=by
   rw[hg (A.length+1) (by simp)]
   simp
  have g2:g A.length=eInt (z:Int):=by
   rw[hg A.length (by simp)]
   simp
  have q:=sJ6 F d hl hF (a:=y) (b:=z) hy (hA z (by simp))
  have hIs:IsL (updGet (updGet g (A.length+1) 0 (eInt (z:Int))) A.length 0 (eInt (y:Int))) (A.reverse ++ y :: ((z :: B) ++ rest)):=by
   rw[upd_at g1,upd_at (n:=A.length) (a:=(z:Int)) (by rw[if_neg (by omega)];exact g2)]
   intro j hj
   show (if j=A.length then eInt (y:Int) else if j=A.length+1 then eInt (z:Int) else g j)=_
   by_cases h1:j=A.length
   ·rw[if_pos h1,h1,getD_append_r (by simp)];simp
   ·rw[if_neg h1]
    by_cases h2:j=A.length+1
    ·rw[if_pos h2,h2,getD_append_r (by simp)];simp
    ·rw[if_neg h2,hg j (by simp at hj ⊢;omega),List.reverse_cons,List.append_assoc]
     by_cases h3:j<A.length
     ·rw[getD_append_l (by simp;omega),getD_append_l (by simp;omega)]
     ·obtain⟨t,rfl⟩:∃ t,j=A.length+2+t:=⟨j - A.length - 2,by omega⟩
      rw[getD_append_r (a:=A.reverse) (b:=[z] ++ y :: (B ++ rest)) (by simp;omega),getD_append_r (a:=A.reverse) (b:=y :: (z :: B ++ rest)) (by simp;omega)]
      rw[show A.length+2+t - A.reverse.length=t+1+1 by simp;omega]
      rfl
  rw[LB0x1s]
  simp (disch:=omega) only[dT,decide_true,pT,tnC,hP,g1,g2,tkCons_c,tkInt_i,q,tkOut_ret]
  by_cases hk:(key0) y<(key0) z
  ·rw[dT (show (key0) y - (key0) z<0 by omega),pT]
   refine ih y (z :: B) fu _ (by omega) (by simp only[List.length_cons];omega) (fun w hw=>hA w (by simp[hw])) hy hIs ?_
   intro g' h'
   refine K g' ?_
   simp only[pd]
   rw[if_pos hk]
   exact h'
  ·rw[dF (show ¬ (key0) y - (key0) z<0 by omega),pF,hS]
   refine K g ?_
   simp only[pd]
   rw[if_neg hk,List.append_assoc,List.cons_append]
   exact hg
theorem lB0x0 {n:Nat} (g0:Nat→Int) (hn:n<1000) (hFn:n<F):∀ (rest S:List Nat) fu g,S.length+rest.length=n→rest.length<fu→(∀ z ∈ S,z<l.len)→(∀ z ∈ rest,z<l.len)→0<S.length→IsL g (S ++ rest) →
 ∃ g',IsL g' (srt (key0) S rest)∧LB0x0 (E F (d+4)) F n g0 0 n l fu S.length g=some (.ret (.tup []),[.arr 3 1 n g' true,.box 185 [(.fn (.func 95) [] [])] true,.box 22 [sl eMach 10 l] true]):=by
 intro rest
 induction rest with
 |nil =>
  intro S fu g hn1 hf hS1 hr hS0 hg
  obtain⟨fu,rfl⟩:∃ k,fu=k+1:=⟨fu - 1,by simp at hf;omega⟩
  refine⟨g,?_,?_⟩
  ·simp only[srt];rw[List.append_nil] at hg;exact hg
  ·rw[LB0x0s,dF (by simp at hn1;omega),pF]
 |cons y rest ih =>
  intro S fu g hn1 hf hS1 hr hS0 hg
  obtain⟨fu,rfl⟩:=ex1 (n:=fu) (by omega)
  rw[List.length_cons] at hn1 hf
  rw[LB0x0s,dT (by omega),pT]
  have e:=lB0x1 F d hl hF (n:=n) g0 n fu S.length (by omega) (fun o=>∃ g',IsL g' (srt (key0) S (y :: rest))∧o=some (.ret (.tup []),[.arr 3 1 n g' true,.box 185 [(.fn (.func 95) [] [])] true,.box 22 [sl eMach 10 l] true])) rest hn S.reverse y [] F g (by simp;omega) (by simp;omega) (fun z hz=>hS1 z (by simpa using hz)) (hr y (by simp)) (by simpa using hg)
  rw[List.length_reverse] at e
  refine e fun g' h'=>?_
  have hlen:(pd (key0) S.reverse y []).length=S.length+1:=by rw[pd_len];simp
  have e2:=ih (pd (key0) S.reverse y []) fu g' (by rw[hlen];omega) (by omega) (fun z hz=>?_) (fun z hz=>hr z (by simp[hz])) (by omega) h'
  ·rw[hlen] at e2
   exact e2
  ·rw[pd_mem] at hz
   rcases hz with hz | hz | hz
   ·exact hS1 z (by simpa using hz)
   ·rw[hz];exact hr y (by simp)
   ·simp at hz
theorem sJ7 {n:Nat} (g0:Nat→Int) (L:List Nat) (hn:n<20) (h0:0<n) (hL:L.length=n) (hLl:∀ z ∈ L,z<l.len) (hg:IsL (fun j=>eInt (g0 j)) L) :
 ∃ g',IsL g' (srt (key0) [] L)∧(E F (d+7)).hv 151 [.osl 0 0 n,.fn (.func 152) [] [.optr 1 0 0,.optr 2 0 0]] [.arr 3 1 n (fun j=>eInt (g0 j)) true,.box 185 [(.fn (.func 95) [] [])] true,.box 22 [sl eMach 10 l] true]=some (.ret (.tup []),[.arr 3 1 n g' true,.box 185 [(.fn (.func 95) [] [])] true,.box 22 [sl eMach 10 l] true]):=by
 obtain⟨F,rfl⟩:=ex1 (n:=F) (by omega)
 match L,hL with
 |[],hL=>simp at hL;omega
 |y :: L,hL =>
  have e1:∃ g',IsL g' (srt (key0) [y] L)∧(E (F+1) (d+5)).hv 194 [.osl 0 0 n,.int .i64 0,.int .i64 n,.fn (.func 152) [] [.optr 1 0 0,.optr 2 0 0]] [.arr 3 1 n (fun j=>eInt (g0 j)) true,.box 185 [(.fn (.func 95) [] [])] true,.box 22 [sl eMach 10 l] true]=some (.ret (.tup []),[.arr 3 1 n g' true,.box 185 [(.fn (.func 95) [] [])] true,.box 22 [sl eMach 10 l] true]):=by
   rw[E_hv,tB0]
   have e:=lB0x0 (F+1) d hl hF (n:=n) g0 (by omega) (by omega) L [y] (F+1) (fun j=>eInt (g0 j)) (by simp at hL ⊢;omega) (by simp at hL;omega) (fun z hz=>hLl z (by simp at hz;simp[hz])) (fun z hz=>hLl z (by simp[hz])) (by simp) (by simpa using hg)
   rw[wr (by omega)]
   exact e
  obtain⟨g',h1,h2⟩:=e1
  refine⟨g',h1,?_⟩
  have e2:(E (F+1) (d+6)).hv 182 [.osl 0 0 n,.int .i64 n,.fn (.func 152) [] [.optr 1 0 0,.optr 2 0 0]] [.arr 3 1 n (fun j=>eInt (g0 j)) true,.box 185 [(.fn (.func 95) [] [])] true,.box 22 [sl eMach 10 l] true]=some (.ret (.tup []),[.arr 3 1 n g' true,.box 185 [(.fn (.func 95) [] [])] true,.box 22 [sl eMach 10 l] true]):=by
   rw[E_hv,tC4]
   rw[LC4x0s,dF (by omega),pF]
   simp only[h2,tkHv_h,tkTup_t,tkNil_n,tkSCons_c,tkArr_a,tkBox_b,Nat.beq_refl,Bool.and_self,beq_self_eq_true,pT,tkCons_c,sameK0,tkRow_r,tkSNil_n]
   rw[LC4x1s,dF (by omega),pF]
  rw[E_hv,tJ7]
  simp only[e2,tkHv_h,tkTup_t,tkNil_n,tkSCons_c,tkArr_a,tkBox_b,Nat.beq_refl,Bool.and_self,beq_self_eq_true,pT,tkCons_c,sameK0,tkRow_r,tkSNil_n]
theorem sJ8:(E F (d+7)).hv 151 [nL,.fn (.func 152) [] [.optr 0 0 0,.optr 1 0 0]] [.box 185 [(.fn (.func 95) [] [])] true,.box 22 [sl eMach 10 l] true]=some (.ret (.tup []),[.box 185 [(.fn (.func 95) [] [])] true,.box 22 [sl eMach 10 l] true]):=by
 obtain⟨F,rfl⟩:=ex1 (n:=F) (by omega)
 have h2:(E (F+1) (d+5)).hv 194 [nL,.int .i64 0,.int .i64 ((0:Nat):Int),.fn (.func 152) [] [.optr 0 0 0,.optr 1 0 0]] [.box 185 [(.fn (.func 95) [] [])] true,.box 22 [sl eMach 10 l] true]=some (.ret (.tup []),[.box 185 [(.fn (.func 95) [] [])] true,.box 22 [sl eMach 10 l] true]):=by
  rw[E_hv,tF4,wr (by omega)]
  rw[LF4x0s,dF (by omega),pF]
 have e2:(E (F+1) (d+6)).hv 182 [nL,.int .i64 ((0:Nat):Int),.fn (.func 152) [] [.optr 0 0 0,.optr 1 0 0]] [.box 185 [(.fn (.func 95) [] [])] true,.box 22 [sl eMach 10 l] true]=some (.ret (.tup []),[.box 185 [(.fn (.func 95) [] [])] true,.box 22 [sl eMach 10 l] true]):=by
  rw[E_hv,tC5]
  rw[LC5x0s,dF (by omega),pF]
  simp only[h2,tkHv_h,tkTup_t,tkNil_n,tkSCons_c,tkArr_a,tkBox_b,Nat.beq_refl,Bool.and_self,beq_self_eq_true,pT,tkCons_c,sameK0,tkRow_r,tkSNil_n]
  rw[LC5x1s,dF (by omega),pF]
 rw[E_hv,tJ8]
 simp only[e2,tkHv_h,tkTup_t,tkNil_n,tkSCons_c,tkArr_a,tkBox_b,Nat.beq_refl,Bool.and_self,beq_self_eq_true,pT,tkCons_c,sameK0,tkRow_r,tkSNil_n]
theorem sJ9 {a b:Nat} (ha:a<l.len) (hb:b<l.len) (x:Int):(E F (d+4)).pf 152 [.int .i64 a,.int .i64 b,.rptr 1 1 (fun _=>[(.fn (.func 96) [] [(.rptr 1 1 (fun _=>[(.fn (.func 93) [] [(.rptr 1 1 (fun _=>[(.int .i64 x)]) 0 0)])]) 0 0)])]) 0 0,.rptr 1 1 (fun _=>[sl eMach 10 l]) 0 0]=some (.ret (.int .i64 (keyE l x a - keyE l x b))):=by
 have hl2:=hl.2
 have ra:=row_in (hl.1 a ha) x
 have rb:=row_in (hl.1 b hb) x
 rw[E_pf,tJ9]
 simp (disch:=omega) only[dT,decide_true,pT,tnC,s88 F d hl hF a ha x,s88 F d hl hF b hb x,tkOut_ret,tkInt_i,wr]
 rfl
theorem lB1x1 {n:Nat} (g0:Nat→Int) (x:Int) (b:Int) (m0 i0:Nat) (hi0:i0<1000) (P:Option (Out × List Slot)→Prop) (rest:List Nat) (hn:n<1000) :
 ∀ (A:List Nat) (y:Nat) (B:List Nat) fu g,A.length<fu→n=A.length+1+B.length+rest.length→(∀ z ∈ A,z<l.len)→y<l.len→IsL g (A.reverse ++ y :: (B ++ rest)) →
 (∀ g',IsL g' (pd (keyE l x) A y B ++ rest)→P (LB1x0 (E F (d+4)) F n g0 0 b l x m0 ((i0+1:Nat):Int) g'))→P (LB1x1 (E F (d+4)) F n g0 0 b l x m0 fu i0 A.length g):=by
 intro A
 induction A with
 |nil =>
  intro y B fu g hf hn1 hA hy hg K
  obtain⟨fu,rfl⟩:=ex1 (n:=fu) (by omega)
  have hS:=wrS (i:=i0) (by omega)
  rw[LB1x1s,show ((([]:List Nat).length:Nat):Int)=0 from rfl,dF (by omega),pF,hS]
  exact K g hg
 |cons z A ih =>
  intro y B fu g hf hn1 hA hy hg K
  obtain⟨fu,rfl⟩:=ex1 (n:=fu) (by omega)
  have hS:=wrS (i:=i0) (by omega)
  rw[List.length_cons] at hn1 hf ⊢
  have hP:IntKind.i64.wrap (((A.length+1:Nat):Int) - 1)=((A.length:Nat):Int):=by rw[wr (by omega)];omega
  have g1:g (A.length+1)=eInt (y:Int):=by
   rw[hg (A.length+1) (by simp)]
   simp
  have g2:g A.length=eInt (z:Int):=by
   rw[hg A.length (by simp)]
   simp
  have q:=sJ9 F d hl hF (a:=y) (b:=z) hy (hA z (by simp)) x
  have hIs:IsL (updGet (updGet g (A.length+1) 0 (eInt (z:Int))) A.length 0 (eInt (y:Int))) (A.reverse ++ y :: ((z :: B) ++ rest)):=by
   rw[upd_at g1,upd_at (n:=A.length) (a:=(z:Int)) (by rw[if_neg (by omega)];exact g2)]
   intro j hj
   show (if j=A.length then eInt (y:Int) else if j=A.length+1 then eInt (z:Int) else g j)=_
   by_cases h1:j=A.length
   ·rw[if_pos h1,h1,getD_append_r (by simp)];simp
   ·rw[if_neg h1]
    by_cases h2:j=A.length+1
    ·rw[if_pos h2,h2,getD_append_r (by simp)];simp
    ·rw[if_neg h2,hg j (by simp at hj ⊢;omega),List.reverse_cons,List.append_assoc]
     by_cases h3:j<A.length
     ·rw[getD_append_l (by simp;omega),getD_append_l (by simp;omega)]
     ·obtain⟨t,rfl⟩:∃ t,j=A.length+2+t:=⟨j - A.length - 2,by omega⟩
      rw[getD_append_r (a:=A.reverse) (b:=[z] ++ y :: (B ++ rest)) (by simp;omega),getD_append_r (a:=A.reverse) (b:=y :: (z :: B ++ rest)) (by simp;omega)]
      rw[show A.length+2+t - A.reverse.length=t+1+1 by simp;omega]
      rfl
  rw[LB1x1s]
  simp (disch:=omega) only[dT,decide_true,pT,tnC,hP,g1,g2,tkCons_c,tkInt_i,q,tkOut_ret]
  by_cases hk:(keyE l x) y<(keyE l x) z
  ·rw[dT (show (keyE l x) y - (keyE l x) z<0 by omega),pT]
   refine ih y (z :: B) fu _ (by omega) (by simp only[List.length_cons];omega) (fun w hw=>hA w (by simp[hw])) hy hIs ?_
   intro g' h'
   refine K g' ?_
   simp only[pd]
   rw[if_pos hk]
   exact h'
  ·rw[dF (show ¬ (keyE l x) y - (keyE l x) z<0 by omega),pF,hS]
   refine K g ?_
   simp only[pd]
   rw[if_neg hk,List.append_assoc,List.cons_append]
   exact hg
theorem lB1x0 {n:Nat} (g0:Nat→Int) (x:Int) (hn:n<1000) (hFn:n<F):∀ (rest S:List Nat) fu g,S.length+rest.length=n→rest.length<fu→(∀ z ∈ S,z<l.len)→(∀ z ∈ rest,z<l.len)→0<S.length→IsL g (S ++ rest) →
 ∃ g',IsL g' (srt (keyE l x) S rest)∧LB1x0 (E F (d+4)) F n g0 0 n l x fu S.length g=some (.ret (.tup []),[.arr 3 1 n g' true,.box 185 [(.fn (.func 96) [] [(.rptr 1 1 (fun _=>[(.fn (.func 93) [] [(.rptr 1 1 (fun _=>[(.int .i64 x)]) 0 0)])]) 0 0)])] true,.box 22 [sl eMach 10 l] true]):=by
 intro rest
 induction rest with
 |nil =>
  intro S fu g hn1 hf hS1 hr hS0 hg
  obtain⟨fu,rfl⟩:∃ k,fu=k+1:=⟨fu - 1,by simp at hf;omega⟩
  refine⟨g,?_,?_⟩
  ·simp only[srt];rw[List.append_nil] at hg;exact hg
  ·rw[LB1x0s,dF (by simp at hn1;omega),pF]
 |cons y rest ih =>
  intro S fu g hn1 hf hS1 hr hS0 hg
  obtain⟨fu,rfl⟩:=ex1 (n:=fu) (by omega)
  rw[List.length_cons] at hn1 hf
  rw[LB1x0s,dT (by omega),pT]
  have e:=lB1x1 F d hl hF (n:=n) g0 x n fu S.length (by omega) (fun o=>∃ g',IsL g' (srt (keyE l x) S (y :: rest))∧o=some (.ret (.tup []),[.arr 3 1 n g' true,.box 185 [(.fn (.func 96) [] [(.rptr 1 1 (fun _=>[(.fn (.func 93) [] [(.rptr 1 1 (fun _=>[(.int .i64 x)]) 0 0)])]) 0 0)])] true,.box 22 [sl eMach 10 l] true])) rest hn S.reverse y [] F g (by simp;omega) (by simp;omega) (fun z hz=>hS1 z (by simpa using hz)) (hr y (by simp)) (by simpa using hg)
  rw[List.length_reverse] at e
  refine e fun g' h'=>?_
  have hlen:(pd (keyE l x) S.reverse y []).length=S.length+1:=by rw[pd_len];simp
  have e2:=ih (pd (keyE l x) S.reverse y []) fu g' (by rw[hlen];omega) (by omega) (fun z hz=>?_) (fun z hz=>hr z (by simp[hz])) (by omega) h'
  ·rw[hlen] at e2
   exact e2
  ·rw[pd_mem] at hz
   rcases hz with hz | hz | hz
   ·exact hS1 z (by simpa using hz)
   ·rw[hz];exact hr y (by simp)
   ·simp at hz
theorem sK0 {n:Nat} (g0:Nat→Int) (L:List Nat) (x:Int) (hn:n<20) (h0:0<n) (hL:L.length=n) (hLl:∀ z ∈ L,z<l.len) (hg:IsL (fun j=>eInt (g0 j)) L) :
 ∃ g',IsL g' (srt (keyE l x) [] L)∧(E F (d+7)).hv 151 [.osl 0 0 n,.fn (.func 152) [] [.optr 1 0 0,.optr 2 0 0]] [.arr 3 1 n (fun j=>eInt (g0 j)) true,.box 185 [(.fn (.func 96) [] [(.rptr 1 1 (fun _=>[(.fn (.func 93) [] [(.rptr 1 1 (fun _=>[(.int .i64 x)]) 0 0)])]) 0 0)])] true,.box 22 [sl eMach 10 l] true]=some (.ret (.tup []),[.arr 3 1 n g' true,.box 185 [(.fn (.func 96) [] [(.rptr 1 1 (fun _=>[(.fn (.func 93) [] [(.rptr 1 1 (fun _=>[(.int .i64 x)]) 0 0)])]) 0 0)])] true,.box 22 [sl eMach 10 l] true]):=by
 obtain⟨F,rfl⟩:=ex1 (n:=F) (by omega)
 match L,hL with
 |[],hL=>simp at hL;omega
 |y :: L,hL =>
  have e1:∃ g',IsL g' (srt (keyE l x) [y] L)∧(E (F+1) (d+5)).hv 194 [.osl 0 0 n,.int .i64 0,.int .i64 n,.fn (.func 152) [] [.optr 1 0 0,.optr 2 0 0]] [.arr 3 1 n (fun j=>eInt (g0 j)) true,.box 185 [(.fn (.func 96) [] [(.rptr 1 1 (fun _=>[(.fn (.func 93) [] [(.rptr 1 1 (fun _=>[(.int .i64 x)]) 0 0)])]) 0 0)])] true,.box 22 [sl eMach 10 l] true]=some (.ret (.tup []),[.arr 3 1 n g' true,.box 185 [(.fn (.func 96) [] [(.rptr 1 1 (fun _=>[(.fn (.func 93) [] [(.rptr 1 1 (fun _=>[(.int .i64 x)]) 0 0)])]) 0 0)])] true,.box 22 [sl eMach 10 l] true]):=by
   rw[E_hv,tB1]
   have e:=lB1x0 (F+1) d hl hF (n:=n) g0 x (by omega) (by omega) L [y] (F+1) (fun j=>eInt (g0 j)) (by simp at hL ⊢;omega) (by simp at hL;omega) (fun z hz=>hLl z (by simp at hz;simp[hz])) (fun z hz=>hLl z (by simp[hz])) (by simp) (by simpa using hg)
   rw[wr (by omega)]
   exact e
  obtain⟨g',h1,h2⟩:=e1
  refine⟨g',h1,?_⟩
  have e2:(E (F+1) (d+6)).hv 182 [.osl 0 0 n,.int .i64 n,.fn (.func 152) [] [.optr 1 0 0,.optr 2 0 0]] [.arr 3 1 n (fun j=>eInt (g0 j)) true,.box 185 [(.fn (.func 96) [] [(.rptr 1 1 (fun _=>[(.fn (.func 93) [] [(.rptr 1 1 (fun _=>[(.int .i64 x)]) 0 0)])]) 0 0)])] true,.box 22 [sl eMach 10 l] true]=some (.ret (.tup []),[.arr 3 1 n g' true,.box 185 [(.fn (.func 96) [] [(.rptr 1 1 (fun _=>[(.fn (.func 93) [] [(.rptr 1 1 (fun _=>[(.int .i64 x)]) 0 0)])]) 0 0)])] true,.box 22 [sl eMach 10 l] true]):=by
   rw[E_hv,tC6]
   rw[LC6x0s,dF (by omega),pF]
   simp only[h2,tkHv_h,tkTup_t,tkNil_n,tkSCons_c,tkArr_a,tkBox_b,Nat.beq_refl,Bool.and_self,beq_self_eq_true,pT,tkCons_c,sameK1,tkRow_r,tkSNil_n]
   rw[LC6x1s,dF (by omega),pF]
  rw[E_hv,tK0]
  simp only[e2,tkHv_h,tkTup_t,tkNil_n,tkSCons_c,tkArr_a,tkBox_b,Nat.beq_refl,Bool.and_self,beq_self_eq_true,pT,tkCons_c,sameK1,tkRow_r,tkSNil_n]
theorem sK1 (x:Int):(E F (d+7)).hv 151 [nL,.fn (.func 152) [] [.optr 0 0 0,.optr 1 0 0]] [.box 185 [(.fn (.func 96) [] [(.rptr 1 1 (fun _=>[(.fn (.func 93) [] [(.rptr 1 1 (fun _=>[(.int .i64 x)]) 0 0)])]) 0 0)])] true,.box 22 [sl eMach 10 l] true]=some (.ret (.tup []),[.box 185 [(.fn (.func 96) [] [(.rptr 1 1 (fun _=>[(.fn (.func 93) [] [(.rptr 1 1 (fun _=>[(.int .i64 x)]) 0 0)])]) 0 0)])] true,.box 22 [sl eMach 10 l] true]):=by
 obtain⟨F,rfl⟩:=ex1 (n:=F) (by omega)
 have h2:(E (F+1) (d+5)).hv 194 [nL,.int .i64 0,.int .i64 ((0:Nat):Int),.fn (.func 152) [] [.optr 0 0 0,.optr 1 0 0]] [.box 185 [(.fn (.func 96) [] [(.rptr 1 1 (fun _=>[(.fn (.func 93) [] [(.rptr 1 1 (fun _=>[(.int .i64 x)]) 0 0)])]) 0 0)])] true,.box 22 [sl eMach 10 l] true]=some (.ret (.tup []),[.box 185 [(.fn (.func 96) [] [(.rptr 1 1 (fun _=>[(.fn (.func 93) [] [(.rptr 1 1 (fun _=>[(.int .i64 x)]) 0 0)])]) 0 0)])] true,.box 22 [sl eMach 10 l] true]):=by
  rw[E_hv,tF5,wr (by omega)]
  rw[LF5x0s,dF (by omega),pF]
 have e2:(E (F+1) (d+6)).hv 182 [nL,.int .i64 ((0:Nat):Int),.fn (.func 152) [] [.optr 0 0 0,.optr 1 0 0]] [.box 185 [(.fn (.func 96) [] [(.rptr 1 1 (fun _=>[(.fn (.func 93) [] [(.rptr 1 1 (fun _=>[(.int .i64 x)]) 0 0)])]) 0 0)])] true,.box 22 [sl eMach 10 l] true]=some (.ret (.tup []),[.box 185 [(.fn (.func 96) [] [(.rptr 1 1 (fun _=>[(.fn (.func 93) [] [(.rptr 1 1 (fun _=>[(.int .i64 x)]) 0 0)])]) 0 0)])] true,.box 22 [sl eMach 10 l] true]):=by
  rw[E_hv,tC7]
  rw[LC7x0s,dF (by omega),pF]
  simp only[h2,tkHv_h,tkTup_t,tkNil_n,tkSCons_c,tkArr_a,tkBox_b,Nat.beq_refl,Bool.and_self,beq_self_eq_true,pT,tkCons_c,sameK1,tkRow_r,tkSNil_n]
  rw[LC7x1s,dF (by omega),pF]
 rw[E_hv,tK1]
 simp only[e2,tkHv_h,tkTup_t,tkNil_n,tkSCons_c,tkArr_a,tkBox_b,Nat.beq_refl,Bool.and_self,beq_self_eq_true,pT,tkCons_c,sameK1,tkRow_r,tkSNil_n]
end
end Go.Sim.Pl

namespace Go.Sim.Pl
open Go.Sim.Le (cfg E E_pf E_hv names look)
open Go.Proofs
def mineR (l:Sl Mach) (r:Nat→Bool) (k:Int):Nat→Nat→List Nat
 |0,_=>[]
 |j+1,i=>if (l.el i).kind=k∧r i=true then i :: mineR l r k j (i+1) else mineR l r k j (i+1)
def mine (l:Sl Mach) (r:Nat→Bool) (k:Int):List Nat:=mineR l r k l.len 0
theorem mineR_mem (l:Sl Mach) (r:Nat→Bool) (k:Int):∀ j i z,z ∈ mineR l r k j i↔(i≤z∧z<i+j)∧(l.el z).kind=k∧r z=true
 |0,i,z=>by simp[mineR];omega
 |j+1,i,z=>by
  have ih:=mineR_mem l r k j (i+1) z
  simp only[mineR]
  split
  ·rename_i h
   rw[List.mem_cons,ih]
   constructor
   ·rintro (rfl | ⟨h1,h2⟩)
    ·exact⟨by omega,h⟩
    ·exact⟨by omega,h2⟩
   ·rintro⟨h1,h2⟩
    rcases Nat.eq_or_lt_of_le h1.1 with h3 | h3
    ·exact .inl h3.symm
    ·exact .inr ⟨by omega,h2⟩
  ·rename_i h
   rw[ih]
   constructor
   ·rintro⟨h1,h2⟩;exact⟨by omega,h2⟩
   ·rintro⟨h1,h2⟩
    rcases Nat.eq_or_lt_of_le h1.1 with h3 | h3
    ·subst h3;exact (h h2).elim
    ·exact⟨by omega,h2⟩
theorem mine_mem {l:Sl Mach} {r:Nat→Bool} {k:Int} {z:Nat}:z ∈ mine l r k↔z<l.len∧(l.el z).kind=k∧r z=true:=by
 unfold mine
 rw[mineR_mem]
 constructor
 ·rintro⟨h1,h2⟩;exact⟨by omega,h2⟩
 ·rintro⟨h1,h2⟩;exact⟨by omega,h2⟩
theorem mineR_ord (l:Sl Mach) (r:Nat→Bool) (k:Int):∀ j i,(mineR l r k j i).Pairwise (· < ·)
 |0,i=>by simp[mineR]
 |j+1,i=>by
  have ih:=mineR_ord l r k j (i+1)
  simp only[mineR]
  split
  ·refine List.pairwise_cons.2 ⟨fun z hz=>?_,ih⟩
   rw[mineR_mem] at hz
   omega
  ·exact ih
theorem mineR_len (l:Sl Mach) (r:Nat→Bool) (k:Int):∀ j i,(mineR l r k j i).length≤j
 |0,i=>by simp[mineR]
 |j+1,i=>by
  have ih:=mineR_len l r k j (i+1)
  simp only[mineR]
  split<;>simp<;>omega
abbrev eNat (n:Nat):List V:=eInt (n:Int)
theorem isL_gl (A:List Nat):IsL (fun j=>eInt ((A.getD j (A.getLastD 0):Nat):Int)) A:=by
 intro j hj
 have e:∀ y,A.getD j y=A.getD j 0:=fun y=>by
  rw[List.getD_eq_getElem?_getD,List.getD_eq_getElem?_getD,List.getElem?_eq_getElem hj];rfl
 show eInt ((A.getD j (A.getLastD 0):Nat):Int)=_
 rw[e]
theorem pd_0:∀ (A:List Nat) (x:Nat),pd key0 A x []=A.reverse ++ [x]
 |[],x=>rfl
 |y :: A,x=>by simp only[pd];rw[if_neg (by simp[key0])]
theorem srt_0:∀ (r S:List Nat),srt key0 S r=S ++ r
 |[],S=>by simp[srt]
 |y :: r,S=>by
  simp only[srt]
  rw[pd_0,srt_0 r,List.reverse_reverse,List.append_assoc];rfl
def mineE (l:Sl Mach) (r:Nat→Bool) (x k:Int):List Nat:=srt (keyE l x) [] (mine l r k)
theorem mineE_mem {l:Sl Mach} {r:Nat→Bool} {x k:Int} {z:Nat}:z ∈ mineE l r x k↔z<l.len∧(l.el z).kind=k∧r z=true:=by
 unfold mineE
 rw[srt_mem,← mine_mem]
 simp
theorem mineE_len (l:Sl Mach) (r:Nat→Bool) (x k:Int):(mineE l r x k).length=(mine l r k).length:=by
 unfold mineE
 rw[srt_len];simp
theorem mineE_ord (l:Sl Mach) (r:Nat→Bool) (x k:Int):(mineE l r x k).Pairwise (Bef (keyE l x)) :=
 srt_ord (keyE l x) _ [] List.Pairwise.nil (fun a h=>by simp at h) (mineR_ord l r k l.len 0)
variable (F d:Nat)
section
variable {l:Sl Mach} (hl:PlantOk l) (hF:1000<F)
include hl hF
theorem l860x1 (r:Sl Bool) (hr:r.len=l.len) (k:Int):∀ j i fu (A:List Nat),i+j=l.len→j<fu→0<A.length→A.length+j≤l.len→(∀ z ∈ A,z<l.len) →
 ∃ g',IsL g' (srt (key0) [] (A ++ mineR l r.el k j i))∧L860x1 (E F (d+7)) F l r k fu A.length i A.length (gl eNat 0 A)=some (.ret (.row false (A ++ mineR l r.el k j i).length 1 g')):=by
 have hl2:=hl.2
 intro j
 induction j with
 |zero =>
  intro i fu A h hf hA0 hA hAl
  obtain⟨fu,rfl⟩:=ex1 (n:=fu) (by omega)
  obtain⟨g',h1,h2⟩:=sJ7 F d hl hF (n:=A.length) (fun j=>((A.getD j (A.getLastD 0):Nat):Int)) A (by omega) hA0 rfl hAl (isL_gl A)
  have h2':(E F (d+7)).hv 151 [.osl 0 0 A.length,.fn (.func 152) [] [.optr 1 0 0,.optr 2 0 0]] [.arr 3 1 A.length (gl eNat 0 A) true,.box 185 [(.fn (.func 95) [] [])] true,.box 22 [sl eMach 10 l] true]=_:=h2
  simp only[mineR,List.append_nil]
  refine⟨g',h1,?_⟩
  rw[L860x1s,dF (by omega),pF]
  simp only[h2',tkHv_h,tkTup_t,tkNil_n,tkSCons_c,tkArr_a,tkBox_b,Nat.beq_refl,Bool.and_self,beq_self_eq_true,pT,tkCons_c,sameK0,tkRow_r,tkSNil_n]
 |succ j ih =>
  intro i fu A h hf hA0 hA hAl
  obtain⟨fu,rfl⟩:=ex1 (n:=fu) (by omega)
  have hS:=wrS (i:=i) (by omega)
  have q:=s84 F (d+6) hl hF i (by omega) k r hr
  rw[L860x1s]
  simp (disch:=omega) only[dT,decide_true,pT,tnC,q,tkOut_ret,tkBool_b,hS]
  simp only[mineR]
  by_cases hm:(l.el i).kind=k∧r.el i=true
  ·rw[dT hm,pT,if_pos hm]
   obtain⟨g',h1,h2⟩:=ih (i+1) fu (A ++ [i]) (by omega) (by omega) (by simp) (by simp;omega) (fun z hz=>by
    rw[List.mem_append,List.mem_singleton] at hz
    rcases hz with hz | rfl
    ·exact hAl z hz
    ·omega)
   rw[List.append_assoc,List.singleton_append] at h1 h2
   refine⟨g',h1,?_⟩
   rw[← gl_snoc (e:=eNat) (z:=0) (m:=i) (ms:=A) (k:=A.length) rfl rfl,List.length_append,List.length_singleton] at h2
   exact h2
  ·rw[dF hm,pF,if_neg hm]
   exact ih (i+1) fu A (by omega) (by omega) hA0 (by omega) hAl
theorem l860x0 (r:Sl Bool) (hr:r.len=l.len) (k:Int):∀ j i fu,i+j=l.len→j<fu →
 ∃ nl wd g',(0<(mineR l r.el k j i).length→wd=1)∧IsL g' (srt (key0) [] (mineR l r.el k j i))∧L860x0 (E F (d+7)) F l r k fu i=some (.ret (.row nl (mineR l r.el k j i).length wd g')):=by
 have hl2:=hl.2
 intro j
 induction j with
 |zero =>
  intro i fu h hf
  obtain⟨fu,rfl⟩:=ex1 (n:=fu) (by omega)
  have h2:=sJ8 F d hl hF
  simp only[mineR]
  refine⟨true,0,fun _=>[],fun h=>by simp at h,fun j hj=>by simp[srt] at hj,?_⟩
  rw[L860x0s,dF (by omega),pF]
  simp only[h2,tkHv_h,tkTup_t,tkNil_n,tkSCons_c,tkBox_b,Nat.beq_refl,Bool.and_self,beq_self_eq_true,pT,tkCons_c,sameK0,tkRow_r,tkSNil_n]
  rfl
 |succ j ih =>
  intro i fu h hf
  obtain⟨fu,rfl⟩:=ex1 (n:=fu) (by omega)
  have hS:=wrS (i:=i) (by omega)
  have q:=s84 F (d+6) hl hF i (by omega) k r hr
  rw[L860x0s]
  simp (disch:=omega) only[dT,decide_true,pT,tnC,q,tkOut_ret,tkBool_b,hS]
  simp only[mineR]
  by_cases hm:(l.el i).kind=k∧r.el i=true
  ·rw[dT hm,pT,if_pos hm]
   obtain⟨g',h1,h2⟩:=l860x1 F d hl hF r hr k j (i+1) fu [i] (by omega) (by omega) (by simp) (by simp;omega) (fun z hz=>by
    rw[List.mem_singleton] at hz
    omega)
   rw[← gl_one (e:=eNat) (z:=0) (m:=i) rfl,List.length_singleton,List.singleton_append] at h2
   exact⟨false,1,g',fun _=>rfl,h1,h2⟩
  ·rw[dF hm,pF,if_neg hm]
   exact ih (i+1) fu (by omega) (by omega)
theorem s860 (r:Sl Bool) (hr:r.len=l.len) (k:Int):∃ nl wd g',(0<(mine l r.el k).length→wd=1)∧IsL g' (srt (key0) [] (mine l r.el k))∧(E F (d+8)).pf 94 [sl eMach 10 l,.fn (.func 92) [] [.rptr 1 1 (fun _=>[.int .i64 k]) 0 0,.rptr 1 1 (fun _=>[sl eBool 1 r]) 0 0],(.fn (.func 95) [] [])]=some (.ret (.row nl (mine l r.el k).length wd g')):=by
 have hl2:=hl.2
 rw[E_pf,t860]
 exact l860x0 F d hl hF r hr k l.len 0 F (by omega) (by omega)
theorem l861x1 (r:Sl Bool) (hr:r.len=l.len) (k:Int) (x:Int):∀ j i fu (A:List Nat),i+j=l.len→j<fu→0<A.length→A.length+j≤l.len→(∀ z ∈ A,z<l.len) →
 ∃ g',IsL g' (srt (keyE l x) [] (A ++ mineR l r.el k j i))∧L861x1 (E F (d+7)) F l r k x fu A.length i A.length (gl eNat 0 A)=some (.ret (.row false (A ++ mineR l r.el k j i).length 1 g')):=by
 have hl2:=hl.2
 intro j
 induction j with
 |zero =>
  intro i fu A h hf hA0 hA hAl
  obtain⟨fu,rfl⟩:=ex1 (n:=fu) (by omega)
  obtain⟨g',h1,h2⟩:=sK0 F d hl hF (n:=A.length) (fun j=>((A.getD j (A.getLastD 0):Nat):Int)) A x (by omega) hA0 rfl hAl (isL_gl A)
  have h2':(E F (d+7)).hv 151 [.osl 0 0 A.length,.fn (.func 152) [] [.optr 1 0 0,.optr 2 0 0]] [.arr 3 1 A.length (gl eNat 0 A) true,.box 185 [(.fn (.func 96) [] [(.rptr 1 1 (fun _=>[(.fn (.func 93) [] [(.rptr 1 1 (fun _=>[(.int .i64 x)]) 0 0)])]) 0 0)])] true,.box 22 [sl eMach 10 l] true]=_:=h2
  simp only[mineR,List.append_nil]
  refine⟨g',h1,?_⟩
  rw[L861x1s,dF (by omega),pF]
  simp only[h2',tkHv_h,tkTup_t,tkNil_n,tkSCons_c,tkArr_a,tkBox_b,Nat.beq_refl,Bool.and_self,beq_self_eq_true,pT,tkCons_c,sameK1,tkRow_r,tkSNil_n]
 |succ j ih =>
  intro i fu A h hf hA0 hA hAl
  obtain⟨fu,rfl⟩:=ex1 (n:=fu) (by omega)
  have hS:=wrS (i:=i) (by omega)
  have q:=s84 F (d+6) hl hF i (by omega) k r hr
  rw[L861x1s]
  simp (disch:=omega) only[dT,decide_true,pT,tnC,q,tkOut_ret,tkBool_b,hS]
  simp only[mineR]
  by_cases hm:(l.el i).kind=k∧r.el i=true
  ·rw[dT hm,pT,if_pos hm]
   obtain⟨g',h1,h2⟩:=ih (i+1) fu (A ++ [i]) (by omega) (by omega) (by simp) (by simp;omega) (fun z hz=>by
    rw[List.mem_append,List.mem_singleton] at hz
    rcases hz with hz | rfl
    ·exact hAl z hz
    ·omega)
   rw[List.append_assoc,List.singleton_append] at h1 h2
   refine⟨g',h1,?_⟩
   rw[← gl_snoc (e:=eNat) (z:=0) (m:=i) (ms:=A) (k:=A.length) rfl rfl,List.length_append,List.length_singleton] at h2
   exact h2
  ·rw[dF hm,pF,if_neg hm]
   exact ih (i+1) fu A (by omega) (by omega) hA0 (by omega) hAl
theorem l861x0 (r:Sl Bool) (hr:r.len=l.len) (k:Int) (x:Int):∀ j i fu,i+j=l.len→j<fu →
 ∃ nl wd g',(0<(mineR l r.el k j i).length→wd=1)∧IsL g' (srt (keyE l x) [] (mineR l r.el k j i))∧L861x0 (E F (d+7)) F l r k x fu i=some (.ret (.row nl (mineR l r.el k j i).length wd g')):=by
 have hl2:=hl.2
 intro j
 induction j with
 |zero =>
  intro i fu h hf
  obtain⟨fu,rfl⟩:=ex1 (n:=fu) (by omega)
  have h2:=sK1 F d hl hF x
  simp only[mineR]
  refine⟨true,0,fun _=>[],fun h=>by simp at h,fun j hj=>by simp[srt] at hj,?_⟩
  rw[L861x0s,dF (by omega),pF]
  simp only[h2,tkHv_h,tkTup_t,tkNil_n,tkSCons_c,tkBox_b,Nat.beq_refl,Bool.and_self,beq_self_eq_true,pT,tkCons_c,sameK1,tkRow_r,tkSNil_n]
  rfl
 |succ j ih =>
  intro i fu h hf
  obtain⟨fu,rfl⟩:=ex1 (n:=fu) (by omega)
  have hS:=wrS (i:=i) (by omega)
  have q:=s84 F (d+6) hl hF i (by omega) k r hr
  rw[L861x0s]
  simp (disch:=omega) only[dT,decide_true,pT,tnC,q,tkOut_ret,tkBool_b,hS]
  simp only[mineR]
  by_cases hm:(l.el i).kind=k∧r.el i=true
  ·rw[dT hm,pT,if_pos hm]
   obtain⟨g',h1,h2⟩:=l861x1 F d hl hF r hr k x j (i+1) fu [i] (by omega) (by omega) (by simp) (by simp;omega) (fun z hz=>by
    rw[List.mem_singleton] at hz
    omega)
   rw[← gl_one (e:=eNat) (z:=0) (m:=i) rfl,List.length_singleton,List.singleton_append] at h2
   exact⟨false,1,g',fun _=>rfl,h1,h2⟩
  ·rw[dF hm,pF,if_neg hm]
   exact ih (i+1) fu (by omega) (by omega)
theorem s861 (r:Sl Bool) (hr:r.len=l.len) (k:Int) (x:Int):∃ nl wd g',(0<(mine l r.el k).length→wd=1)∧IsL g' (srt (keyE l x) [] (mine l r.el k))∧(E F (d+8)).pf 94 [sl eMach 10 l,.fn (.func 92) [] [.rptr 1 1 (fun _=>[.int .i64 k]) 0 0,.rptr 1 1 (fun _=>[sl eBool 1 r]) 0 0],(.fn (.func 96) [] [(.rptr 1 1 (fun _=>[(.fn (.func 93) [] [(.rptr 1 1 (fun _=>[(.int .i64 x)]) 0 0)])]) 0 0)])]=some (.ret (.row nl (mine l r.el k).length wd g')):=by
 have hl2:=hl.2
 rw[E_pf,t861]
 exact l861x0 F d hl hF r hr k x l.len 0 F (by omega) (by omega)
end
end Go.Sim.Pl

namespace Go.Sim.Pl
open Go.Sim.Le (cfg E E_pf E_hv names look)
open Go.Proofs
structure Shr where
 left:Int
 sh:Nat→Int
 pr:Nat→Int
 es:List Int
def leastF (l:Sl Mach) (x:Int) (s:Shr) (z:Nat):Shr :=
 { s with left:=s.left - min s.left (rowAt (l.el z) x).least,sh:=fun j=>if j=z then min s.left (rowAt (l.el z) x).least else s.sh j }
def moreF (l:Sl Mach) (x k:Int) (s:Shr) (z:Nat):Shr :=
 { left:=s.left - min s.left ((rowAt (l.el z) x).most - s.sh z),sh:=fun j=>if j=z then s.sh z+min s.left ((rowAt (l.el z) x).most - s.sh z) else s.sh j,pr:=if s.sh z+min s.left ((rowAt (l.el z) x).most - s.sh z)>(rowAt (l.el z) x).least then (fun j=>if j=(k - 1).toNat then max (s.pr (k - 1).toNat) (rowAt (l.el z) x).energy else s.pr j) else s.pr,es:=s.es ++ [(rowAt (l.el z) x).energy*max (s.sh z+min s.left ((rowAt (l.el z) x).most - s.sh z)) (rowAt (l.el z) x).least] }
def kindF (l:Sl Mach) (r:Nat→Bool) (f x:Int) (s:Shr) (k:Int):Shr :=
 (mineE l r x k).foldl (moreF l x k) ((mine l r k).foldl (leastF l x) { s with left:=f })
def shK (l:Sl Mach) (r:Nat→Bool) (f x:Int):Nat→Int→Shr→Shr
 |0,_,s=>s
 |j+1,k,s=>shK l r f x j (k+1) (kindF l r f x s k)
def shr0:Shr:=⟨0,fun _=>0,fun _=>0,[]⟩
def shareS (l:Sl Mach) (r:Nat→Bool) (f x:Int):Shr:=shK l r f x 3 1 shr0
structure ShInv (l:Sl Mach) (x:Int) (s:Shr):Prop where
 left:0≤s.left∧s.left≤1000000
 sh:∀ j,j<l.len→0≤s.sh j∧s.sh j≤(rowAt (l.el j) x).most
 pr:∀ j,0≤s.pr j∧s.pr j≤1000
 es:∀ e ∈ s.es,0≤e∧e≤1000000000
theorem least_inv {l:Sl Mach} (hl:PlantOk l) {x:Int} {s:Shr} (h:ShInv l x s) {z:Nat} (hz:z<l.len):ShInv l x (leastF l x s z):=by
 have hr:=row_in (hl.1 z hz) x
 have hs:=h.sh z hz
 have hleft:=h.left
 refine⟨?_,fun j hj=>?_,h.pr,h.es⟩
 ·show 0≤s.left - _∧s.left - _≤1000000
  omega
 ·show 0≤(if j=z then _ else _)∧(if j=z then _ else _)≤_
  by_cases hjz:j=z
  ·rw[if_pos hjz,hjz];omega
  ·rw[if_neg hjz];exact h.sh j hj
theorem mul_in {a b:Int} (h1:0≤a∧a≤1000) (h2:0≤b∧b≤1000000):0≤a*b∧a*b≤1000000000:=by
 refine⟨Int.mul_nonneg h1.1 h2.1,?_⟩
 have h3:a*b≤1000*b:=Int.mul_le_mul_of_nonneg_right h1.2 h2.1
 omega
theorem more_inv {l:Sl Mach} (hl:PlantOk l) {x k:Int} {s:Shr} (h:ShInv l x s) {z:Nat} (hz:z<l.len):ShInv l x (moreF l x k s z):=by
 have hr:=row_in (hl.1 z hz) x
 have hs:=h.sh z hz
 have hleft:=h.left
 refine⟨?_,fun j hj=>?_,fun j=>?_,fun e he=>?_⟩
 ·show 0≤s.left - _∧s.left - _≤1000000
  omega
 ·show 0≤(if j=z then _ else _)∧(if j=z then _ else _)≤_
  by_cases hjz:j=z
  ·rw[if_pos hjz,hjz];omega
  ·rw[if_neg hjz];exact h.sh j hj
 ·have h1:=h.pr j
  have h2:=h.pr (k - 1).toNat
  simp only[moreF]
  split
  ·show 0≤(if j=_ then _ else _)∧(if j=_ then _ else _)≤(1000:Int)
   split<;>omega
  ·exact h1
 ·simp only[moreF,List.mem_append,List.mem_singleton] at he
  rcases he with he | rfl
  ·exact h.es e he
  ·exact mul_in hr.2.2 (by omega)
theorem leasts_inv {l:Sl Mach} (hl:PlantOk l) {x:Int}:∀ (S:List Nat) {s:Shr},ShInv l x s→(∀ z ∈ S,z<l.len)→ShInv l x (S.foldl (leastF l x) s)
 |[],s,h,_=>h
 |z :: S,s,h,hS=>leasts_inv hl S (least_inv hl h (hS z (by simp))) fun y hy=>hS y (by simp[hy])
theorem mores_inv {l:Sl Mach} (hl:PlantOk l) {x k:Int}:∀ (S:List Nat) {s:Shr},ShInv l x s→(∀ z ∈ S,z<l.len)→ShInv l x (S.foldl (moreF l x k) s)
 |[],s,h,_=>h
 |z :: S,s,h,hS=>mores_inv hl S (more_inv hl h (hS z (by simp))) fun y hy=>hS y (by simp[hy])
theorem kind_inv {l:Sl Mach} (hl:PlantOk l) {r:Nat→Bool} {f x k:Int} (hf:FlowOk f) {s:Shr} (h:ShInv l x s):ShInv l x (kindF l r f x s k) :=
 mores_inv hl _ (leasts_inv hl _ ⟨hf,h.sh,h.pr,h.es⟩ fun z hz=>(mine_mem.1 hz).1) fun z hz=>(mineE_mem.1 hz).1
theorem leasts_keep {l:Sl Mach} {x:Int}:∀ (S:List Nat) (s:Shr),(S.foldl (leastF l x) s).pr=s.pr∧(S.foldl (leastF l x) s).es=s.es
 |[],s=>⟨rfl,rfl⟩
 |z :: S,s=>leasts_keep S (leastF l x s z)
theorem mores_es {l:Sl Mach} {x k:Int}:∀ (S:List Nat) (s:Shr),(S.foldl (moreF l x k) s).es.length=s.es.length+S.length
 |[],s=>rfl
 |z :: S,s=>by
  have:=mores_es (l:=l) (x:=x) (k:=k) S (moreF l x k s z)
  simp only[List.foldl_cons,List.length_cons]
  rw[this]
  simp only[moreF,List.length_append,List.length_singleton]
  omega
theorem kind_es {l:Sl Mach} {r:Nat→Bool} {f x k:Int} {s:Shr}:(kindF l r f x s k).es.length=s.es.length+(mine l r k).length:=by
 unfold kindF
 rw[mores_es,(leasts_keep _ _).2,mineE_len]
def sumL (l:List Int):Int:=l.foldr (· + ·) 0
variable (F d:Nat)
section
variable {l:Sl Mach} (hl:PlantOk l) (hF:1000<F)
include hl hF
theorem l55x1 (r:Sl Bool) (f x:Int) (m0 a:Nat) (nl:Bool) (wd:Nat) (g:Nat→List V) (b:Bool) (k:Int) (S:List Nat) (hS:∀ z ∈ S,z<l.len) (hSl:S.length<1000) (hg:IsL g S) (hwd:0<S.length→wd=1) (R:Option Out)
 (s':Shr) (K:∀ nl' wd' g',(0<(mineE l r.el x k).length→wd'=1)→IsL g' (mineE l r.el x k)→L55x2 (E F (d+8)) F l r f x m0 F s'.left .i64 1 .i64 2 .i64 3 a nl' (mineE l r.el x k).length wd' g' ((mineE l r.el x k).length:Nat) (fun j=>eInt (s'.sh j)) .i64 k=R) (hr:r.len=l.len) :
 ∀ j p fu (s:Shr),p+j=S.length→j<fu→ShInv l x s→(S.drop p).foldl (leastF l x) s=s' →
 L55x1 (E F (d+8)) F l r f x m0 fu s.left .i64 1 .i64 2 .i64 3 a nl S.length wd g (S.length:Nat) p b (fun j=>eInt (s.sh j)) .i64 k=R:=by
 have hl2:=hl.2
 intro j
 induction j with
 |zero =>
  intro p fu s h hf hI hs
  obtain⟨fu,rfl⟩:=ex1 (n:=fu) (by omega)
  rw[List.drop_eq_nil_of_le (by omega)] at hs
  subst hs
  obtain⟨nl',wd',g',h1,h2,h3⟩:=s861 F d hl hF r hr k x
  have K':=K nl' wd' g' (fun h=>h1 (by rw[← mineE_len l r.el x k];exact h)) h2
  rw[mineE_len] at K'
  rw[L55x1s,dF (by omega),pF]
  simp only[h3,tkOut_ret,tkRow_r]
  exact K'
 |succ j ih =>
  intro p fu s h hf hI hs
  obtain⟨fu,rfl⟩:=ex1 (n:=fu) (by omega)
  have hp:p<S.length:=by omega
  have hz:=hS S[p] (List.getElem_mem hp)
  rw[List.drop_eq_getElem_cons hp,List.foldl_cons] at hs
  have hI':=least_inv hl hI hz
  have e:=ih (p+1) fu (leastF l x s S[p]) (by omega) (by omega) hI' hs
  have hgp:g p=eInt ((S[p]:Nat):Int):=by rw[hg p hp,List.getD_eq_getElem?_getD,List.getElem?_eq_getElem hp];rfl
  have hS':IntKind.i64.wrap ((p:Int)+1)=((p+1:Nat):Int):=wrS (by omega)
  have q:=s85 F (d+6) hl hF S[p] hz x
  have hr2:=row_in (hl.1 S[p] hz) x
  have hleft:=hI.left
  have hw:=hwd (by omega)
  subst hw
  rw[L55x1s]
  generalize hzz:S[p]=z at *
  simp (disch:=omega) only[dT,decide_true,pT,tnC,hgp,tkCons_c,tkInt_i,q,tkOut_ret,tkAgg_a,tkNil_n,beq_self_eq_true,upd_int,mnE,hS',wr,if_true]
  exact e
theorem l55x3 (r:Sl Bool) (f x:Int) (m0 a:Nat) (ha:a<3) (nl:Bool) (g:Nat→List V) (k:Int) (hk:1≤k∧k≤3) (S:List Nat) (hS:∀ z ∈ S,z<l.len) (hSl:S.length<1000) (hg:IsL g S) (R:Option Out)
 (s':Shr) (K:∀ cap,L55x4 (E F (d+8)) F l r f x m0 s'.es.length .i64 1 .i64 2 .i64 3 ((a+1:Nat):Int) (fun j=>eInt (s'.sh j)) (fun j=>eInt (s'.pr j)) cap (gl eInt 0 s'.es)=R) :
 ∀ j p fu wd cap (s:Shr),p+j=S.length→j<fu→(0<j→wd=1)→ShInv l x s→s.es.length+j<1000→(S.drop p).foldl (moreF l x k) s=s' →
 L55x3 (E F (d+8)) F l r f x m0 fu s.es.length s.left .i64 1 .i64 2 .i64 3 a nl S.length wd g (S.length:Nat) p (fun j=>eInt (s.sh j)) (fun j=>eInt (s.pr j)) cap (gl eInt 0 s.es) .i64 k=R:=by
 have hl2:=hl.2
 intro j
 induction j with
 |zero =>
  intro p fu wd cap s h hf hwd hI hes hs
  obtain⟨fu,rfl⟩:=ex1 (n:=fu) (by omega)
  rw[List.drop_eq_nil_of_le (by omega)] at hs
  subst hs
  have hS':IntKind.i64.wrap ((a:Int)+1)=((a+1:Nat):Int):=wrS (by omega)
  rw[L55x3s,dF (by omega),pF,hS']
  exact K cap
 |succ j ih =>
  intro p fu wd cap s h hf hwd hI hes hs
  obtain⟨fu,rfl⟩:=ex1 (n:=fu) (by omega)
  have hp:p<S.length:=by omega
  have hz:=hS S[p] (List.getElem_mem hp)
  rw[List.drop_eq_getElem_cons hp,List.foldl_cons] at hs
  have hI':=more_inv hl (k:=k) hI hz
  have e:=fun cap=>ih (p+1) fu 1 cap (moreF l x k s S[p]) (by omega) (by omega) (fun _=>rfl) hI' (by simp only[moreF,List.length_append,List.length_singleton];omega) hs
  have hgp:g p=eInt ((S[p]:Nat):Int):=by rw[hg p hp,List.getD_eq_getElem?_getD,List.getElem?_eq_getElem hp];rfl
  have hS':IntKind.i64.wrap ((p:Int)+1)=((p+1:Nat):Int):=wrS (by omega)
  have q:=s85 F (d+6) hl hF S[p] hz x
  have hr2:=row_in (hl.1 S[p] hz) x
  have hsz:=hI.sh S[p] hz
  have hleft:=hI.left
  have hw:=hwd (by omega)
  subst hw
  rw[L55x3s]
  generalize hzz:S[p]=z at *
  have hm:=mul_in hr2.2.2 (b:=max (s.sh z+min s.left ((rowAt (l.el z) x).most - s.sh z)) (rowAt (l.el z) x).least) (by omega)
  simp (disch:=omega) only[dT,decide_true,pT,tnC,hgp,tkCons_c,tkInt_i,q,tkOut_ret,tkAgg_a,tkNil_n,beq_self_eq_true,mnE,mxE,upd_int,hS',wr,if_true]
  have e1:moreF l x k s z = { moreF l x k s z with es:=s.es ++ [(rowAt (l.el z) x).energy*max (s.sh z+min s.left ((rowAt (l.el z) x).most - s.sh z)) (rowAt (l.el z) x).least] }:=rfl
  by_cases hgt:s.sh z+min s.left ((rowAt (l.el z) x).most - s.sh z)>(rowAt (l.el z) x).least
  ·rw[dT hgt,pT]
   have e2:=e (s.es.length+1)
   rw[show moreF l x k s z=⟨s.left - min s.left ((rowAt (l.el z) x).most - s.sh z),fun j=>if j=z then s.sh z+min s.left ((rowAt (l.el z) x).most - s.sh z) else s.sh j,fun j=>if j=(k - 1).toNat then max (s.pr (k - 1).toNat) (rowAt (l.el z) x).energy else s.pr j,s.es ++ [(rowAt (l.el z) x).energy*max (s.sh z+min s.left ((rowAt (l.el z) x).most - s.sh z)) (rowAt (l.el z) x).least]⟩ from by unfold moreF;rw[if_pos hgt]] at e2
   simp only[] at e2
   rw[← gl_snoc (e:=eInt) (z:=0) (k:=s.es.length) rfl rfl,List.length_append,List.length_singleton] at e2
   exact e2
  ·rw[dF hgt,pF]
   have e2:=e (s.es.length+1)
   rw[show moreF l x k s z=⟨s.left - min s.left ((rowAt (l.el z) x).most - s.sh z),fun j=>if j=z then s.sh z+min s.left ((rowAt (l.el z) x).most - s.sh z) else s.sh j,s.pr,s.es ++ [(rowAt (l.el z) x).energy*max (s.sh z+min s.left ((rowAt (l.el z) x).most - s.sh z)) (rowAt (l.el z) x).least]⟩ from by unfold moreF;rw[if_neg hgt]] at e2
   simp only[] at e2
   rw[← gl_snoc (e:=eInt) (z:=0) (k:=s.es.length) rfl rfl,List.length_append,List.length_singleton] at e2
   exact e2
theorem l55x2 (r:Sl Bool) (f x:Int) (m0 a:Nat) (ha:a<3) (nl:Bool) (g:Nat→List V) (k:Int) (hk:1≤k∧k≤3) (S:List Nat) (hS:∀ z ∈ S,z<l.len) (hSl:S.length<1000) (hg:IsL g S) (R:Option Out)
 (s s':Shr) (hes:s.es=[]) (hpr:s.pr=fun _=>0) (K0:S=[]→L55x0 (E F (d+8)) F l r f x m0 .i64 1 .i64 2 .i64 3 ((a+1:Nat):Int) false false (fun j=>eInt (s.sh j))=R)
 (K:S ≠ []→∀ cap,L55x4 (E F (d+8)) F l r f x m0 s'.es.length .i64 1 .i64 2 .i64 3 ((a+1:Nat):Int) (fun j=>eInt (s'.sh j)) (fun j=>eInt (s'.pr j)) cap (gl eInt 0 s'.es)=R) (wd:Nat) (hwd:0<S.length→wd=1) (hI:ShInv l x s) (hs:S.foldl (moreF l x k) s=s') :
 ∀ fu,S.length<fu→
 L55x2 (E F (d+8)) F l r f x m0 fu s.left .i64 1 .i64 2 .i64 3 a nl S.length wd g (S.length:Nat) (fun j=>eInt (s.sh j)) .i64 k=R:=by
 have hl2:=hl.2
 intro fu hf
 obtain⟨fu,rfl⟩:=ex1 (n:=fu) (by omega)
 match S,hS,hSl,hg,K0,K,hwd,hs,hf with
 |[],_,_,_,K0,_,_,_,_ =>
  have hS':IntKind.i64.wrap ((a:Int)+1)=((a+1:Nat):Int):=wrS (by omega)
  rw[L55x2s,show ((([]:List Nat).length:Nat):Int)=0 from rfl,dF (by omega),pF,hS']
  exact K0 rfl
 |z :: S,hS,hSl,hg,_,K,hwd,hs,hf =>
  have hz:=hS z (by simp)
  rw[List.foldl_cons] at hs
  have hI':=more_inv hl (k:=k) hI hz
  have hesl:(moreF l x k s z).es.length=1:=by simp only[moreF,hes];rfl
  have hsl1:(z :: S).length=S.length+1:=rfl
  have e:=fun cap=>l55x3 F d hl hF r f x m0 a ha nl g k hk (z :: S) hS hSl hg R s' (K (by simp)) S.length 1 fu 1 cap (moreF l x k s z) (by simp;omega) (by simp at hf;omega) (fun _=>rfl) hI' (by rw[hesl];omega) (by simpa using hs)
  rw[hesl] at e
  have hgp:g 0=eInt ((z:Nat):Int):=by rw[hg 0 (by simp)];rfl
  have hS':IntKind.i64.wrap ((0:Int)+1)=((1:Nat):Int):=by rw[wr (by omega)];rfl
  have q:=s85 F (d+6) hl hF z hz x
  have hr2:=row_in (hl.1 z hz) x
  have hsz:=hI.sh z hz
  have hleft:=hI.left
  have hw:=hwd (by simp)
  subst hw
  rw[L55x2s,hsl1] at *
  have hm:=mul_in hr2.2.2 (b:=max (s.sh z+min s.left ((rowAt (l.el z) x).most - s.sh z)) (rowAt (l.el z) x).least) (by omega)
  simp (disch:=omega) only[dT,decide_true,pT,tnC,hgp,tkCons_c,tkInt_i,q,tkOut_ret,tkAgg_a,tkNil_n,beq_self_eq_true,mnE,mxE,upd_int,hS',wr,if_true]
  by_cases hgt:s.sh z+min s.left ((rowAt (l.el z) x).most - s.sh z)>(rowAt (l.el z) x).least
  ·rw[dT hgt,pT]
   have e2:=e 1
   rw[show moreF l x k s z=⟨s.left - min s.left ((rowAt (l.el z) x).most - s.sh z),fun j=>if j=z then s.sh z+min s.left ((rowAt (l.el z) x).most - s.sh z) else s.sh j,fun j=>if j=(k - 1).toNat then max 0 (rowAt (l.el z) x).energy else 0,[(rowAt (l.el z) x).energy*max (s.sh z+min s.left ((rowAt (l.el z) x).most - s.sh z)) (rowAt (l.el z) x).least]⟩ from by unfold moreF;rw[if_pos hgt,hes,hpr];rfl] at e2
   simp only[] at e2
   rw[← gl_one (e:=eInt) (z:=0) rfl] at e2
   exact e2
  ·rw[dF hgt,pF]
   have e2:=e 1
   rw[show moreF l x k s z=⟨s.left - min s.left ((rowAt (l.el z) x).most - s.sh z),fun j=>if j=z then s.sh z+min s.left ((rowAt (l.el z) x).most - s.sh z) else s.sh j,fun _=>0,[(rowAt (l.el z) x).energy*max (s.sh z+min s.left ((rowAt (l.el z) x).most - s.sh z)) (rowAt (l.el z) x).least]⟩ from by unfold moreF;rw[if_neg hgt,hes,hpr];rfl] at e2
   simp only[] at e2
   rw[← gl_one (e:=eInt) (z:=0) rfl] at e2
   exact e2
theorem l55x5 (r:Sl Bool) (f x:Int) (m0 a cap:Nat) (E0:List Int) (nl:Bool) (wd:Nat) (g:Nat→List V) (k:Int) (S:List Nat) (hS:∀ z ∈ S,z<l.len) (hSl:S.length<1000) (hg:IsL g S) (hwd:0<S.length→wd=1) (R:Option Out)
 (s':Shr) (K:∀ nl' wd' g',(0<(mineE l r.el x k).length→wd'=1)→IsL g' (mineE l r.el x k)→L55x3 (E F (d+8)) F l r f x m0 F E0.length s'.left .i64 1 .i64 2 .i64 3 a nl' (mineE l r.el x k).length wd' g' ((mineE l r.el x k).length:Nat) 0 (fun j=>eInt (s'.sh j)) (fun j=>eInt (s'.pr j)) cap (gl eInt 0 E0) .i64 k=R) (hr:r.len=l.len) :
 ∀ j p fu (s:Shr),p+j=S.length→j<fu→ShInv l x s→(S.drop p).foldl (leastF l x) s=s' →
 L55x5 (E F (d+8)) F l r f x m0 fu E0.length s.left .i64 1 .i64 2 .i64 3 a nl S.length wd g (S.length:Nat) p (fun j=>eInt (s.sh j)) (fun j=>eInt (s.pr j)) cap (gl eInt 0 E0) .i64 k=R:=by
 have hl2:=hl.2
 intro j
 induction j with
 |zero =>
  intro p fu s h hf hI hs
  obtain⟨fu,rfl⟩:=ex1 (n:=fu) (by omega)
  rw[List.drop_eq_nil_of_le (by omega)] at hs
  subst hs
  obtain⟨nl',wd',g',h1,h2,h3⟩:=s861 F d hl hF r hr k x
  have K':=K nl' wd' g' (fun h=>h1 (by rw[← mineE_len l r.el x k];exact h)) h2
  rw[mineE_len] at K'
  rw[L55x5s,dF (by omega),pF]
  simp only[h3,tkOut_ret,tkRow_r]
  exact K'
 |succ j ih =>
  intro p fu s h hf hI hs
  obtain⟨fu,rfl⟩:=ex1 (n:=fu) (by omega)
  have hp:p<S.length:=by omega
  have hz:=hS S[p] (List.getElem_mem hp)
  rw[List.drop_eq_getElem_cons hp,List.foldl_cons] at hs
  have hI':=least_inv hl hI hz
  have e:=ih (p+1) fu (leastF l x s S[p]) (by omega) (by omega) hI' hs
  have hgp:g p=eInt ((S[p]:Nat):Int):=by rw[hg p hp,List.getD_eq_getElem?_getD,List.getElem?_eq_getElem hp];rfl
  have hS':IntKind.i64.wrap ((p:Int)+1)=((p+1:Nat):Int):=wrS (by omega)
  have q:=s85 F (d+6) hl hF S[p] hz x
  have hr2:=row_in (hl.1 S[p] hz) x
  have hleft:=hI.left
  have hw:=hwd (by omega)
  subst hw
  rw[L55x5s]
  generalize hzz:S[p]=z at *
  simp (disch:=omega) only[dT,decide_true,pT,tnC,hgp,tkCons_c,tkInt_i,q,tkOut_ret,tkAgg_a,tkNil_n,beq_self_eq_true,upd_int,mnE,hS',wr,if_true]
  exact e
theorem sumL_in:∀ (L:List Int),(∀ e ∈ L,0≤e∧e≤1000000000)→0≤sumL L∧sumL L≤1000000000*L.length
 |[],_=>by simp[sumL]
 |e :: L,h=>by
  have h1:=h e (by simp)
  have h2:=sumL_in L fun e he=>h e (by simp[he])
  have:sumL (e :: L)=e+sumL L:=rfl
  rw[List.length_cons]
  omega
omit hl in
theorem l89 (L:List Int) (hL:L.length<1000) (hb:∀ e ∈ L,0≤e∧e≤1000000000):∀ j p fu (n:Int),p+j=L.length→j<fu→0≤n→n≤1000000000*p →
 L89x0 (E F d) F ⟨false,L.length,fun j=>L.getD j (L.getLastD 0)⟩ fu n p=some (.ret (.int .i64 (n+sumL (L.drop p)))):=by
 intro j
 induction j with
 |zero =>
  intro p fu n h hf h0 h1
  obtain⟨fu,rfl⟩:=ex1 (n:=fu) (by omega)
  rw[L89x0s,dF (by show ¬ (p:Int)<((L.length:Nat):Int);omega),pF,List.drop_eq_nil_of_le (by omega)]
  simp[sumL]
 |succ j ih =>
  intro p fu n h hf h0 h1
  obtain⟨fu,rfl⟩:=ex1 (n:=fu) (by omega)
  have hp:p<L.length:=by omega
  have hbp:=hb L[p] (List.getElem_mem hp)
  have hS':IntKind.i64.wrap ((p:Int)+1)=((p+1:Nat):Int):=wrS (by omega)
  have hg:L.getD p (L.getLastD 0)=L[p]:=by rw[List.getD_eq_getElem?_getD,List.getElem?_eq_getElem hp];rfl
  have e:=ih (p+1) fu (n+L[p]) (by omega) (by omega) (by omega) (by omega)
  rw[List.drop_eq_getElem_cons hp]
  have e3:n+sumL (L[p] :: L.drop (p+1))=n+L[p]+sumL (L.drop (p+1)):=by
   show n+(L[p]+sumL (L.drop (p+1)))=_
   omega
  rw[L89x0s,dT (by show (p:Int)<((L.length:Nat):Int);omega),pT,dT (by omega),pT,pT]
  simp (disch:=omega) only[tnC,hg,hS',wr]
  rw[e3]
  exact e
omit hl in
theorem s89 (L:List Int) (hL:L.length<1000) (hb:∀ e ∈ L,0≤e∧e≤1000000000):(E F (d+1)).pf 97 [.row false L.length 1 (gl eInt 0 L)]=some (.ret (.int .i64 (sumL L))):=by
 have e:=l89 F d hF L hL hb L.length 0 F 0 (by omega) (by omega) (by omega) (by omega)
 have e2:(E F (d+1)).pf 97 [sl eInt 1 ⟨false,L.length,fun j=>L.getD j (L.getLastD 0)⟩]=some (.ret (.int .i64 (sumL L))):=by
  rw[E_pf,t89]
  rw[Int.natCast_zero,Int.zero_add,List.drop_zero] at e
  exact e
 exact e2
theorem shK_inv {r:Nat→Bool} {f x:Int} (hf:FlowOk f):∀ (j:Nat) (k:Int) (s:Shr),ShInv l x s→ShInv l x (shK l r f x j k s)
 |0,_,_,h=>h
 |j+1,k,s,h=>shK_inv hf j (k+1) _ (kind_inv hl hf h)
end
section
variable {l:Sl Mach} (hl:PlantOk l) (hF:1000<F) (r:Sl Bool) (hr:r.len=l.len) (f x:Int) (hf:FlowOk f)
include hl hF hr hf
theorem mine_len6 (k:Int):(mine l r.el k).length≤6:=by
 have:=mineR_len l r.el k l.len 0
 have:=hl.2
 unfold mine
 omega
theorem l55x4:∀ (j a fu:Nat) (s:Shr) cap,a+j=3→j<fu→ShInv l x s→s.es.length+6*j<100 →
 L55x4 (E F (d+8)) F l r f x fu s.es.length .i64 1 .i64 2 .i64 3 a (fun j=>eInt (s.sh j)) (fun j=>eInt (s.pr j)) cap (gl eInt 0 s.es)=some (.ret (.tup [.row false l.len 1 (fun i=>eInt ((shK l r.el f x j ((a:Int)+1) s).sh i)),.row false 3 1 (fun i=>eInt ((shK l r.el f x j ((a:Int)+1) s).pr i)),.int .i64 (sumL (shK l r.el f x j ((a:Int)+1) s).es)])):=by
 have hl2:=hl.2
 intro j
 induction j with
 |zero =>
  intro a fu s cap h hfu hI hes
  obtain⟨fu,rfl⟩:=ex1 (n:=fu) (by omega)
  have q:=s89 F (d+7) hF s.es (by omega) hI.es
  rw[L55x4s,dF (by omega),pF]
  simp only[q,tkOut_ret,tkInt_i,tnC]
  rfl
 |succ j ih =>
  intro a fu s cap h hfu hI hes
  obtain⟨fu,rfl⟩:=ex1 (n:=fu) (by omega)
  have ha:a<3:=by omega
  have hm6:=mine_len6 F hl hF r hr f hf ((a:Int)+1)
  have hkes:=kind_es (l:=l) (r:=r.el) (f:=f) (x:=x) (k:=(a:Int)+1) (s:=s)
  obtain⟨nl,wd,g,h1,h2,h3⟩:=s860 F d hl hF r hr ((a:Int)+1)
  rw[srt_0,List.nil_append] at h2
  have hI0:ShInv l x { s with left:=f }:=⟨hf,hI.sh,hI.pr,hI.es⟩
  have e:=fun cap=>ih (a+1) fu (kindF l r.el f x s ((a:Int)+1)) cap (by omega) (by omega) (kind_inv hl hf hI) (by omega)
  rw[show (((a+1:Nat):Int)+1)=(a:Int)+1+1 by omega] at e
  rw[L55x4s]
  simp (disch:=omega) only[dT,decide_true,pT,tnC,kind_at,tkCons_c,tkInt_i,h3,tkOut_ret,tkRow_r]
  refine l55x5 F d hl hF r f x fu a cap s.es nl wd g ((a:Int)+1) (mine l r.el ((a:Int)+1)) (fun z hz=>(mine_mem.1 hz).1) (by omega) h2 h1 _ ((mine l r.el ((a:Int)+1)).foldl (leastF l x) { s with left:=f }) ?_ hr (mine l r.el ((a:Int)+1)).length 0 F { s with left:=f } (by omega) (by omega) hI0 rfl
  intro nl' wd' g' h1' h2'
  have hk2:=leasts_keep (l:=l) (x:=x) (mine l r.el ((a:Int)+1)) { s with left:=f }
  have hIm:=leasts_inv hl (x:=x) (mine l r.el ((a:Int)+1)) hI0 (fun z hz=>(mine_mem.1 hz).1)
  have hml:=mineE_len l r.el x ((a:Int)+1)
  have e5:=l55x3 F d hl hF r f x fu a ha nl' g' ((a:Int)+1) (by omega) (mineE l r.el x ((a:Int)+1)) (fun z hz=>(mineE_mem.1 hz).1) (by omega) h2' _ (kindF l r.el f x s ((a:Int)+1)) e (mineE l r.el x ((a:Int)+1)).length 0 F wd' cap ((mine l r.el ((a:Int)+1)).foldl (leastF l x) { s with left:=f }) (by omega) (by omega) h1' hIm (by rw[hk2.2];show s.es.length+_<_;omega) rfl
  rw[hk2.2] at e5
  exact e5
theorem l55x0:∀ (j a fu:Nat) (s:Shr) b b',a+j=3→j<fu→ShInv l x s→s.es=[]→s.pr=(fun _=>0) →
 L55x0 (E F (d+8)) F l r f x fu .i64 1 .i64 2 .i64 3 a b b' (fun j=>eInt (s.sh j))=some (.ret (.tup [.row false l.len 1 (fun i=>eInt ((shK l r.el f x j ((a:Int)+1) s).sh i)),.row false 3 1 (fun i=>eInt ((shK l r.el f x j ((a:Int)+1) s).pr i)),.int .i64 (sumL (shK l r.el f x j ((a:Int)+1) s).es)])):=by
 have hl2:=hl.2
 intro j
 induction j with
 |zero =>
  intro a fu s b b' h hfu hI hes hpr
  obtain⟨fu,rfl⟩:=ex1 (n:=fu) (by omega)
  have q:(E F (d+8)).pf 97 [nL]=some (.ret (.int .i64 0)):=by
   rw[E_pf,t890]
   obtain⟨F',hF'⟩:∃ k,F=k+1:=⟨F - 1,by omega⟩
   subst hF'
   rw[L890x0s]
  rw[L55x0s,dF (by omega),pF]
  simp only[q,tkOut_ret,tkInt_i,tnC,shK,hes,hpr]
  rfl
 |succ j ih =>
  intro a fu s b b' h hfu hI hes hpr
  obtain⟨fu,rfl⟩:=ex1 (n:=fu) (by omega)
  have ha:a<3:=by omega
  have hm6:=mine_len6 F hl hF r hr f hf ((a:Int)+1)
  have hkes:=kind_es (l:=l) (r:=r.el) (f:=f) (x:=x) (k:=(a:Int)+1) (s:=s)
  obtain⟨nl,wd,g,h1,h2,h3⟩:=s860 F d hl hF r hr ((a:Int)+1)
  rw[srt_0,List.nil_append] at h2
  have hI0:ShInv l x { s with left:=f }:=⟨hf,hI.sh,hI.pr,hI.es⟩
  have hel0:s.es.length=0:=by rw[hes];rfl
  rw[L55x0s]
  simp (disch:=omega) only[dT,decide_true,pT,tnC,kind_at,tkCons_c,tkInt_i,h3,tkOut_ret,tkRow_r]
  refine l55x1 F d hl hF r f x fu a nl wd g b' ((a:Int)+1) (mine l r.el ((a:Int)+1)) (fun z hz=>(mine_mem.1 hz).1) (by omega) h2 h1 _ ((mine l r.el ((a:Int)+1)).foldl (leastF l x) { s with left:=f }) ?_ hr (mine l r.el ((a:Int)+1)).length 0 F { s with left:=f } (by omega) (by omega) hI0 rfl
  intro nl' wd' g' h1' h2'
  have hk2:=leasts_keep (l:=l) (x:=x) (mine l r.el ((a:Int)+1)) { s with left:=f }
  have hIm:=leasts_inv hl (x:=x) (mine l r.el ((a:Int)+1)) hI0 (fun z hz=>(mine_mem.1 hz).1)
  have hml:=mineE_len l r.el x ((a:Int)+1)
  refine l55x2 F d hl hF r f x fu a ha nl' g' ((a:Int)+1) (by omega) (mineE l r.el x ((a:Int)+1)) (fun z hz=>(mineE_mem.1 hz).1) (by omega) h2' _ ((mine l r.el ((a:Int)+1)).foldl (leastF l x) { s with left:=f }) (kindF l r.el f x s ((a:Int)+1)) (by rw[hk2.2];exact hes) (by rw[hk2.1];exact hpr) ?_ ?_ wd' h1' hIm rfl F (by omega)
  ·intro hS
   have hk0:kindF l r.el f x s ((a:Int)+1)=(mine l r.el ((a:Int)+1)).foldl (leastF l x) { s with left:=f }:=by
    unfold kindF
    rw[hS];rfl
   have e:=ih (a+1) fu (kindF l r.el f x s ((a:Int)+1)) false false (by omega) (by omega) (kind_inv hl hf hI) (by rw[hk0,hk2.2];exact hes) (by rw[hk0,hk2.1];exact hpr)
   rw[show (((a+1:Nat):Int)+1)=(a:Int)+1+1 by omega] at e
   rw[← hk0]
   exact e
  ·intro hS cap
   have e:=l55x4 F d hl hF r hr f x hf j (a+1) fu (kindF l r.el f x s ((a:Int)+1)) cap (by omega) (by omega) (kind_inv hl hf hI) (by omega)
   rw[show (((a+1:Nat):Int)+1)=(a:Int)+1+1 by omega] at e
   exact e
theorem shr0xinv:ShInv l x shr0:=by
 refine⟨by decide,fun j hj=>?_,fun j=>by show (0:Int)≤0∧(0:Int)≤1000;omega,fun e he=>by cases he⟩
 have:=row_in (hl.1 j hj) x
 show (0:Int)≤0∧(0:Int)≤_
 omega
theorem s55:(E F (d+9)).pf 41 [sl eMach 10 l,sl eBool 1 r,.int .i64 f,.int .i64 x]=some (.ret (.tup [.row false l.len 1 (fun i=>eInt ((shareS l r.el f x).sh i)),.row false 3 1 (fun i=>eInt ((shareS l r.el f x).pr i)),.int .i64 (sumL (shareS l r.el f x).es)])):=by
 have hl2:=hl.2
 have q:(E F (d+8)).pf 90 []=some (.ret (.agg [.int .i64 1,.int .i64 2,.int .i64 3])):=by rw[E_pf,t83]
 have e:=l55x0 F d hl hF r hr f x hf 3 0 F shr0 true true (by omega) (by omega) (shr0xinv F hl hF r hr f x hf) rfl rfl
 rw[E_pf,t55]
 simp (disch:=omega) only[dT,decide_true,pT,q,tkOut_ret,tkAgg_a,tkCons_c,tkInt_i,tkNil_n]
 exact e
end
end Go.Sim.Pl

namespace Go.Sim.Pl
open Go.Sim.Le (cfg E E_pf E_hv names look)
open Go.Proofs
variable (F d:Nat)
section
variable {l:Sl Mach} (hl:PlantOk l) (hF:2000<F) (r:Sl Bool) (hr:r.len=l.len) (f x:Int) (hf:FlowOk f)
include hl hF hr
end
def sumP (p:Nat→Prop) [DecidablePred p] (g:Nat→Int):Nat→Int
 |0=>0
 |n+1=>sumP p g n+(if p n then g n else 0)
def maxP (p:Nat→Prop) [DecidablePred p] (g:Nat→Int):Nat→Int
 |0=>0
 |n+1=>if p n then max (maxP p g n) (g n) else maxP p g n
section
variable {l:Sl Mach} (hl:PlantOk l) (hF:1000<F) (r:Sl Bool) (hr:r.len=l.len) (w:Sl Int) (hw:w.len=l.len) (x:Int)
include hl hF hr hw
abbrev enT (l:Sl Mach) (w:Nat→Int) (x:Int):Nat→Int:=fun i=>(rowAt (l.el i) x).energy*max (w i) (rowAt (l.el i) x).least
end
end Go.Sim.Pl

namespace Go.Sim.Pl
open Go.Sim.Le (cfg E E_pf E_hv names look)
open Go.Proofs
theorem sumP_congr {p q:Nat→Prop} [DecidablePred p] [DecidablePred q] {g g':Nat→Int}:∀ {n:Nat},(∀ i,i<n→(p i↔q i))→(∀ i,i<n→p i→g i=g' i)→sumP p g n=sumP q g' n
 |0,_,_=>rfl
 |n+1,h,hg=>by
  have ih:=sumP_congr (n:=n) (fun i hi=>h i (by omega)) (fun i hi=>hg i (by omega))
  have hn:=h n (by omega)
  simp only[sumP,ih]
  by_cases hp:p n
  ·rw[if_pos hp,if_pos (hn.1 hp),hg n (by omega) hp]
  ·rw[if_neg hp,if_neg (fun h=>hp (hn.2 h))]
theorem sumP_no {p:Nat→Prop} [DecidablePred p] {g:Nat→Int}:∀ {n:Nat},(∀ i,i<n→¬ p i)→sumP p g n=0
 |0,_=>rfl
 |n+1,h=>by
  simp only[sumP]
  rw[sumP_no (fun i hi=>h i (by omega)),if_neg (h n (by omega))];rfl
theorem sumP_or {p q:Nat→Prop} [DecidablePred p] [DecidablePred q] {g:Nat→Int}:∀ {n:Nat},(∀ i,i<n→¬ (p i∧q i))→sumP (fun i=>p i∨q i) g n=sumP p g n+sumP q g n
 |0,_=>rfl
 |n+1,h=>by
  have ih:=sumP_or (p:=p) (q:=q) (g:=g) (n:=n) (fun i hi=>h i (by omega))
  have hn:=h n (by omega)
  simp only[sumP,ih]
  by_cases hp:p n
  ·rw[if_pos (.inl hp),if_pos hp,if_neg (fun hq=>hn ⟨hp,hq⟩)];omega
  ·by_cases hq:q n
   ·rw[if_pos (.inr hq),if_neg hp,if_pos hq];omega
   ·rw[if_neg (fun h=>h.elim hp hq),if_neg hp,if_neg hq];omega
theorem sumP_one {g:Nat→Int} {z:Nat}:∀ {n:Nat},z<n→sumP (fun i=>i=z) g n=g z
 |0,h=>by omega
 |n+1,h=>by
  simp only[sumP]
  by_cases hz:n=z
  ·subst hz
   rw[if_pos rfl,sumP_no (fun i hi=>by omega)];omega
  ·rw[if_neg hz,sumP_one (by omega)];omega
theorem sum_list {g:Nat→Int} {n:Nat}:∀ (S:List Nat),S.Pairwise (· ≠ ·)→(∀ z ∈ S,z<n)→sumL (S.map g)=sumP (fun i=>i ∈ S) g n
 |[],_,_=>(sumP_no (fun i _=>by simp)).symm
 |z :: S,h,hS=>by
  rw[List.pairwise_cons] at h
  have ih:=sum_list (g:=g) (n:=n) S h.2 (fun y hy=>hS y (by simp[hy]))
  have e:sumP (fun i=>i ∈ z :: S) g n=sumP (fun i=>i=z∨i ∈ S) g n:=sumP_congr (fun i _=>by rw[List.mem_cons]) (fun _ _ _=>rfl)
  rw[e,sumP_or (fun i _ hh=>(h.1 i hh.2) hh.1.symm),sumP_one (hS z (by simp)),← ih]
  rfl
theorem maxP_0 {p:Nat→Prop} [DecidablePred p] {g:Nat→Int}:∀ {n:Nat},0≤maxP p g n
 |0=>by simp[maxP]
 |n+1=>by
  have:=maxP_0 (p:=p) (g:=g) (n:=n)
  simp only[maxP]
  split<;>omega
theorem leasts_sh {l:Sl Mach} {x:Int} {z:Nat}:∀ (S:List Nat) (s:Shr),z ∉ S→(S.foldl (leastF l x) s).sh z=s.sh z
 |[],s,_=>rfl
 |y :: S,s,h=>by
  rw[List.mem_cons,not_or] at h
  rw[List.foldl_cons,leasts_sh S _ h.2]
  show (if z=y then _ else s.sh z)=_
  rw[if_neg h.1]
theorem mores_sh {l:Sl Mach} {x k:Int} {z:Nat}:∀ (S:List Nat) (s:Shr),z ∉ S→(S.foldl (moreF l x k) s).sh z=s.sh z
 |[],s,_=>rfl
 |y :: S,s,h=>by
  rw[List.mem_cons,not_or] at h
  rw[List.foldl_cons,mores_sh S _ h.2]
  show (if z=y then _ else s.sh z)=_
  rw[if_neg h.1]
theorem mores_map {l:Sl Mach} {x k:Int}:∀ (S:List Nat) (s:Shr),S.Pairwise (· ≠ ·)→(S.foldl (moreF l x k) s).es=s.es ++ S.map (enT l (S.foldl (moreF l x k) s).sh x)
 |[],s,_=>by simp
 |y :: S,s,h=>by
  rw[List.pairwise_cons] at h
  have hy:y ∉ S:=fun hh=>h.1 y hh rfl
  rw[List.foldl_cons,mores_map S _ h.2,List.map_cons]
  have e:enT l (S.foldl (moreF l x k) (moreF l x k s y)).sh x y=(rowAt (l.el y) x).energy*max (s.sh y+min s.left ((rowAt (l.el y) x).most - s.sh y)) (rowAt (l.el y) x).least:=by
   show _*max ((S.foldl (moreF l x k) (moreF l x k s y)).sh y) _=_
   rw[mores_sh S _ hy]
   show _*max (if y=y then _ else _) _=_
   rw[if_pos rfl]
  rw[e]
  show (s.es ++ [_]) ++ _=_
  rw[List.append_assoc];rfl
theorem mineE_ne (l:Sl Mach) (r:Nat→Bool) (x k:Int):(mineE l r x k).Pairwise (· ≠ ·) :=
 (mineE_ord l r x k).imp fun {a b} h hab=>by subst hab;exact bef_self h
section
variable {l:Sl Mach} {r:Nat→Bool} {f x k:Int}
theorem kind_sh {s:Shr} {z:Nat} (h:¬ ((l.el z).kind=k∧r z=true)):(kindF l r f x s k).sh z=s.sh z:=by
 unfold kindF
 rw[mores_sh _ _ (fun hh=>h (mineE_mem.1 hh).2),leasts_sh _ _ (fun hh=>h (mine_mem.1 hh).2)]
theorem kind_map {s:Shr}:(kindF l r f x s k).es=s.es ++ (mineE l r x k).map (enT l (kindF l r f x s k).sh x):=by
 have h:=mores_map (l:=l) (x:=x) (k:=k) (mineE l r x k) ((mine l r k).foldl (leastF l x) { s with left:=f }) (mineE_ne l r x k)
 rw[(leasts_keep _ _).2] at h
 exact h
end
def shr1 (l:Sl Mach) (r:Nat→Bool) (f x:Int):Shr:=kindF l r f x shr0 1
def shr2 (l:Sl Mach) (r:Nat→Bool) (f x:Int):Shr:=kindF l r f x (shr1 l r f x) 2
theorem shareS_eq (l:Sl Mach) (r:Nat→Bool) (f x:Int):shareS l r f x=kindF l r f x (shr2 l r f x) 3:=rfl
section
variable {l:Sl Mach} (hl:PlantOk l) (r:Nat→Bool) (f x:Int)
theorem sh_1 {z:Nat} (h:(l.el z).kind=1):(shareS l r f x).sh z=(shr1 l r f x).sh z:=by
 rw[shareS_eq,kind_sh (fun hh=>by omega)]
 exact kind_sh (fun hh=>by omega)
theorem sh_2 {z:Nat} (h:(l.el z).kind=2):(shareS l r f x).sh z=(shr2 l r f x).sh z:=by
 rw[shareS_eq,kind_sh (fun hh=>by omega)]
theorem es_all:(shareS l r f x).es=(mineE l r x 1).map (enT l (shareS l r f x).sh x) ++ ((mineE l r x 2).map (enT l (shareS l r f x).sh x) ++ (mineE l r x 3).map (enT l (shareS l r f x).sh x)):=by
 have e1:(mineE l r x 1).map (enT l (shr1 l r f x).sh x)=(mineE l r x 1).map (enT l (shareS l r f x).sh x):=List.map_congr_left fun z hz=>by
  show _*max _ _=_*max _ _
  rw[sh_1 r f x (mineE_mem.1 hz).2.1]
 have e2:(mineE l r x 2).map (enT l (shr2 l r f x).sh x)=(mineE l r x 2).map (enT l (shareS l r f x).sh x):=List.map_congr_left fun z hz=>by
  show _*max _ _=_*max _ _
  rw[sh_2 r f x (mineE_mem.1 hz).2.1]
 rw[← e1,← e2,shareS_eq,kind_map,show (shr2 l r f x).es=_ from kind_map,show (shr1 l r f x).es=_ from kind_map]
 show (([] ++ _) ++ _) ++ _=_
 rw[List.nil_append,List.append_assoc]
 rfl
theorem sumL_app:∀ (a b:List Int),sumL (a ++ b)=sumL a+sumL b
 |[],b=>by simp[sumL]
 |x :: a,b=>by
  have:=sumL_app a b
  show x+sumL (a ++ b)=x+sumL a+sumL b
  omega
include hl
theorem energy_eq:sumL (shareS l r f x).es=sumP (fun i=>r i=true) (enT l (shareS l r f x).sh x) l.len:=by
 have hk:∀ k,sumL ((mineE l r x k).map (enT l (shareS l r f x).sh x))=sumP (fun i=>(l.el i).kind=k∧r i=true) (enT l (shareS l r f x).sh x) l.len:=fun k=>by
  rw[sum_list (n:=l.len) _ (mineE_ne l r x k) (fun z hz=>(mineE_mem.1 hz).1)]
  exact sumP_congr (fun i hi=>by rw[mineE_mem];exact⟨fun h=>h.2,fun h=>⟨hi,h⟩⟩) (fun _ _ _=>rfl)
 rw[es_all,sumL_app,sumL_app,hk,hk,hk,← sumP_or (fun i hi hh=>by omega),← sumP_or (fun i hi hh=>by omega)]
 refine sumP_congr (fun i hi=>?_) (fun _ _ _=>rfl)
 have:=(hl.1 i hi).2.1
 constructor
 ·rintro (h | h | h)<;>exact h.2
 ·intro h
  have h3:(l.el i).kind=1∨(l.el i).kind=2∨(l.el i).kind=3:=by omega
  rcases h3 with h3 | h3 | h3
  ·exact .inl ⟨h3,h⟩
  ·exact .inr (.inl ⟨h3,h⟩)
  ·exact .inr (.inr ⟨h3,h⟩)
end
end Go.Sim.Pl

namespace Go.Sim.Pl
open Go.Sim.Le (cfg E E_pf E_hv names look)
open Go.Proofs
abbrev RunOk (l:Sl Mach) (r:Sl Bool) (f:Int):Prop:=PlantOk l∧r.len=l.len∧FlowOk f
instance decRun (l : Sl Mach) (r : Sl Bool) (f : Int) : Decidable (RunOk l r f) := inferInstance
variable (F d:Nat)
theorem e53 (x:Int):(E F (d+1)).pf 39 [.agg [.int .i64 x,.int .i64 x]]=some (.ret (.bool (decide (1000≤x∧x≤5000)))):=by
 have e:=s53 F d ⟨x,x⟩
 simp only[eSpan] at e
 rw[e]
 refine b3 (b2 ?_)
 simp only[decide_eq_true_iff]
 constructor
 ·rintro⟨h1,h2,h3⟩;exact⟨h1,h3⟩
 ·rintro⟨h1,h2⟩;exact⟨h1,Int.le_refl _,h2⟩
section
variable {l:Sl Mach} {r:Sl Bool} {f x:Int} (h:RunOk l r f) (hF:2000<F)
include h hF
theorem s17xok (hx:1000≤x∧x≤5000) (hk:lacks l r.el f x=0):(E F (d+10)).pf 13 [sl eMach 10 l,sl eBool 1 r,.int .i64 f,.int .i64 x]=some (.ret (.tup [.row false l.len 1 (fun i=>eInt ((shareS l r.el f x).sh i)),.row false 3 1 (fun i=>eInt ((shareS l r.el f x).pr i)),.int .i64 (sumL (shareS l r.el f x).es),.int .i64 0])):=by
 have hl2:=h.1.2
 have q1:=s51 F (d+1) l r (lenB (by omega)) (by omega) (rowsB F h.1 (by omega))
 have q2:=s52 F (d+8) f 0 1000000
 have q3:=e53 F (d+8) x
 have q4:=s54 F (d+7) h.1 (by omega) r h.2.1 f x
 have q5:=s55 F d h.1 (by omega) r h.2.1 f x h.2.2
 rw[E_pf,t17]
 simp only[q1,tkOut_ret,tkBool_b]
 rw[dT ⟨h.1,h.2.1⟩,Bool.not_true,pF]
 simp only[q2,tkOut_ret,tkBool_b]
 rw[dT h.2.2,Bool.not_true,pF]
 simp only[q3,tkOut_ret,tkBool_b]
 rw[dT hx,Bool.not_true,pF]
 simp only[q4,tkOut_ret,tkInt_i,decide_true,pT]
 rw[show (lacks l r.el f x != 0)=false by simp[hk],pF]
 simp only[q5,tkOut_ret,tkTup_t,tkCons_c,tkRow_r,tkInt_i,tkNil_n]
end
section
variable {l:Sl Mach} (hl:PlantOk l) (hF:1000<F) {s:Span} (hs:RatioOk s) (r:Sl Bool) (hr:r.len=l.len) (hn:r.nl=false) (f:Int)
include hl hF hs hr hn
end
end Go.Sim.Pl

namespace Go.Sim.Pl
open Go.Sim.Le (cfg E E_pf E_hv names look)
open Go.Proofs
def sta0:Sta:=⟨false,0,0,0,false⟩
def beginS (m:Mach):Sta:=⟨m.runs,m.since,m.left,0,false⟩
def afterS (s:Sta) (m:Mach) (x:Int):Sta :=
 { runs:=x==1,since:=bif (x==1)==s.runs then s.since+1 else 1,left:=bif x==2 && s.served+1==m.service then m.life else bif x==1 then s.left - 1 else s.left,served:=bif x==2 then s.served+1 else 0,complete:=x==2 && s.served+1==m.service }
def rowT {α:Type} (z:α) (f:Nat→α) (n:Nat):Sl α:=⟨false,n,fun j=>(tabL f n).getD j ((tabL f n).getLastD z)⟩
theorem rowT_el {α:Type} {z:α} {f:Nat→α} {n j:Nat} (h:j<n):(rowT z f n).el j=f j:=tabL_get f h _
theorem rowT_congr {α:Type} {z:α} {f g:Nat→α} {n:Nat} (h:∀ j,j<n→f j=g j):rowT z f n=rowT z g n:=by
 have e:tabL f n=tabL g n:=List.map_congr_left fun j hj=>h j (List.mem_range.1 hj)
 unfold rowT
 rw[e]
abbrev rowS (f:Nat→Sta) (n:Nat):Sl Sta:=rowT sta0 f n
abbrev rowB (f:Nat→Bool) (n:Nat):Sl Bool:=rowT false f n
abbrev runsS (w:Sl Int):Sl Bool:=rowB (fun i=>w.el i==1) w.len
abbrev HV (l:Sl Mach) (st:Sl Sta) (w:Sl Int) (h:Hour):V:=.rptr 1 6 (fun _=>[sl eMach 10 l,sl eSta 5 st,sl eInt 1 w,.int .i64 h.flow,.int .i64 h.ratio.lo,.int .i64 h.ratio.hi]) 0 0
def firstP (p:Nat→Bool):Nat→Nat→Option Nat
 |0,_=>none
 |j+1,i=>bif p i then some i else firstP p j (i+1)
def fO:Option Nat→List V
 |some i=>[.int .i64 i,.bool true]
 |none=>[.int .i64 0,.bool false]
def upB (m:Mach) (s:Sta) (x:Int):Bool:=s.runs && (x != 1 && decide (s.since<m.up))
def downB (m:Mach) (s:Sta) (x:Int):Bool:=!s.runs && (x==1 && decide (s.since<m.down))
def cutB (_:Mach) (s:Sta) (x:Int):Bool:=bif x==2 then s.complete else decide (s.served>0) && !s.complete
def wornB (_:Mach) (s:Sta) (x:Int):Bool:=x==1 && decide (s.left≤0)
def busyB (w:Nat→Int):Nat→Bool
 |0=>false
 |i+1=>busyB w i || w i==2
def crewB (w:Nat→Int) (i:Nat):Bool:=busyB w i && w i==2
def faultS (l:Sl Mach) (st:Nat→Sta) (w:Sl Int) (h:Hour):Int × Int :=
 match firstP (fun i=>upB (l.el i) (st i) (w.el i)) l.len 0 with
 |some i=>(2,(i:Int))
 |none=>match firstP (fun i=>downB (l.el i) (st i) (w.el i)) l.len 0 with
  |some i=>(3,(i:Int))
  |none=>match firstP (fun i=>cutB (l.el i) (st i) (w.el i)) l.len 0 with
   |some i=>(4,(i:Int))
   |none=>match firstP (crewB w.el) l.len 0 with
    |some i=>(5,(i:Int))
    |none=>match firstP (fun i=>wornB (l.el i) (st i) (w.el i)) l.len 0 with
     |some i=>(6,(i:Int))
     |none=>if shortest l (runsS w).el h.flow h.ratio ≠ 0 then (7,shortest l (runsS w).el h.flow h.ratio) else (1,0)
variable (F d:Nat)
theorem s105 (m:Mach):(E F (d+1)).pf 117 [.agg (eMach m)]=some (.ret (.agg (eSta (beginS m)))):=by rw[E_pf,t105];rfl
abbrev StaOk (s:Sta):Prop:=(0≤s.since∧s.since≤1000000)∧(-1000000≤s.left∧s.left≤1000000)∧0≤s.served∧s.served≤1000000
theorem s103 (s:Sta) (m:Mach) (x:Int) (hs:StaOk s):(E F (d+1)).pf 126 [.agg (eSta s),.agg (eMach m),.int .i64 x]=some (.ret (.agg (eSta (afterS s m x)))):=by
 rw[E_pf,t103]
 simp (disch:=omega) only[wr]
 unfold afterS
 by_cases h1:x=1
 ·have h2:(x==2)=false:=by simp;omega
  rw[h2,show (x==1)=true by simp[h1]]
  cases hr:s.runs<;>rfl
 ·rw[show (x==1)=false by simp[h1]]
  cases (x==2)<;>cases (s.served+1==m.service)<;>cases hr:s.runs<;>rfl
theorem l76 (l:Sl Mach) (hl2:l.len≤1000):∀ j i fu,i+j=l.len→j<fu→0<i →
 L76x1 (E F (d+1)) F l fu i i i (gl eSta sta0 (tabL (fun i=>beginS (l.el i)) i))=some (.ret (sl eSta 5 (rowS (fun i=>beginS (l.el i)) l.len))):=by
 intro j
 induction j with
 |zero =>
  intro i fu h hf h0
  obtain⟨fu,rfl⟩:=ex1 (n:=fu) (by omega)
  have hi:i=l.len:=by omega
  subst hi
  rw[L76x1s,dF (by omega),pF]
  rfl
 |succ j ih =>
  intro i fu h hf h0
  obtain⟨fu,rfl⟩:=ex1 (n:=fu) (by omega)
  have hS':IntKind.i64.wrap ((i:Int)+1)=((i+1:Nat):Int):=wrS (by omega)
  have q:=s105 F d (l.el i)
  have e:=ih (i+1) fu (by omega) (by omega) (by omega)
  rw[tabL_S,← gl_snoc (e:=eSta) (z:=sta0) (k:=i) (tabL_len _ _) rfl] at e
  rw[L76x1s]
  simp (disch:=omega) only[dT,pT,tnC,hS',q,tkOut_ret,tkAgg_a,tkCons_c,tkInt_i,tkBool_b,tkNil_n]
  exact e
theorem s76 (l:Sl Mach) (hl2:l.len≤1000) (hF:1000<F) (h0:0<l.len):(E F (d+2)).pf 64 [sl eMach 10 l]=some (.ret (sl eSta 5 (rowS (fun i=>beginS (l.el i)) l.len))):=by
 obtain⟨F,rfl⟩:=ex1 (n:=F) (by omega)
 have q:=s105 (F+1) d (l.el 0)
 have e:=l76 (F+1) d l hl2 (l.len - 1) 1 F (by omega) (by omega) (by omega)
 rw[show tabL (fun i=>beginS (l.el i)) 1=[beginS (l.el 0)] from rfl,← gl_one (e:=eSta) (z:=sta0) rfl] at e
 rw[E_pf,t76,L76x0s]
 rw[show IntKind.i64.wrap ((0:Int)+1)=((1:Nat):Int) by rw[wr (by omega)];rfl]
 simp (disch:=omega) only[dT,pT,q,tkOut_ret,tkAgg_a,tkCons_c,tkInt_i,tkBool_b,tkNil_n]
 exact e
section
variable {l:Sl Mach} {st:Sl Sta} {w:Sl Int} {h:Hour} (hl2:l.len≤1000) (hF:1000<F) (hst:st.len=l.len) (hw:w.len=l.len)
include hl2 hF hst hw
theorem l74 (hsto:∀ i,i<l.len→StaOk (st.el i)):∀ j i fu,i+j=l.len→j<fu→0<i →
 L74x1 (E F (d+1)) F l st w h fu i i i (gl eSta sta0 (tabL (fun i=>afterS (st.el i) (l.el i) (w.el i)) i))=some (.ret (sl eSta 5 (rowS (fun i=>afterS (st.el i) (l.el i) (w.el i)) l.len))):=by
 intro j
 induction j with
 |zero =>
  intro i fu h hf h0
  obtain⟨fu,rfl⟩:=ex1 (n:=fu) (by omega)
  have hi:i=l.len:=by omega
  subst hi
  rw[L74x1s,dF (by omega),pF]
  rfl
 |succ j ih =>
  intro i fu h hf h0
  obtain⟨fu,rfl⟩:=ex1 (n:=fu) (by omega)
  have hS':IntKind.i64.wrap ((i:Int)+1)=((i+1:Nat):Int):=wrS (by omega)
  have q:=s103 F d (st.el i) (l.el i) (w.el i) (hsto i (by omega))
  have e:=ih (i+1) fu (by omega) (by omega) (by omega)
  rw[tabL_S,← gl_snoc (e:=eSta) (z:=sta0) (k:=i) (tabL_len _ _) rfl] at e
  rw[L74x1s]
  simp (disch:=omega) only[dT,pT,tnC,hS',q,tkOut_ret,tkAgg_a,tkCons_c,tkInt_i,tkBool_b,tkNil_n]
  exact e
theorem s74 (hsto:∀ i,i<l.len→StaOk (st.el i)) (h0:0<l.len):(E F (d+2)).pf 67 [HV l st w h]=some (.ret (sl eSta 5 (rowS (fun i=>afterS (st.el i) (l.el i) (w.el i)) l.len))):=by
 obtain⟨F,rfl⟩:=ex1 (n:=F) (by omega)
 have q:=s103 (F+1) d (st.el 0) (l.el 0) (w.el 0) (hsto 0 (by omega))
 have e:=l74 (F+1) d (h:=h) hl2 hF hst hw hsto (l.len - 1) 1 F (by omega) (by omega) (by omega)
 rw[show tabL (fun i=>afterS (st.el i) (l.el i) (w.el i)) 1=[afterS (st.el 0) (l.el 0) (w.el 0)] from rfl,← gl_one (e:=eSta) (z:=sta0) rfl] at e
 rw[E_pf,t74,L74x0s]
 rw[show IntKind.i64.wrap ((0:Int)+1)=((1:Nat):Int) by rw[wr (by omega)];rfl]
 simp (disch:=omega) only[dT,pT,q,tkOut_ret,tkAgg_a,tkCons_c,tkInt_i,tkBool_b,tkNil_n]
 exact e
theorem l104:∀ j i fu,i+j=w.len→j<fu→0<i →
 L104x1 (E F d) F l st w h fu i i i (gl eBool false (tabL (fun i=>w.el i==1) i))=some (.ret (sl eBool 1 (runsS w))):=by
 intro j
 induction j with
 |zero =>
  intro i fu h hf h0
  obtain⟨fu,rfl⟩:=ex1 (n:=fu) (by omega)
  have hi:i=w.len:=by omega
  subst hi
  rw[L104x1s,dF (by omega),pF]
  rfl
 |succ j ih =>
  intro i fu h hf h0
  obtain⟨fu,rfl⟩:=ex1 (n:=fu) (by omega)
  have hS':IntKind.i64.wrap ((i:Int)+1)=((i+1:Nat):Int):=wrS (by omega)
  have e:=ih (i+1) fu (by omega) (by omega) (by omega)
  rw[tabL_S,← gl_snoc (e:=eBool) (z:=false) (k:=i) (tabL_len _ _) rfl] at e
  rw[L104x1s]
  simp (disch:=omega) only[dT,pT,tnC,hS']
  exact e
theorem s104 (h0:0<l.len):(E F (d+1)).pf 124 [HV l st w h]=some (.ret (sl eBool 1 (runsS w))):=by
 obtain⟨F,rfl⟩:=ex1 (n:=F) (by omega)
 have e:=l104 (F+1) d (h:=h) hl2 hF hst hw (w.len - 1) 1 F (by omega) (by omega) (by omega)
 rw[show tabL (fun i=>w.el i==1) 1=[w.el 0==1] from rfl,← gl_one (e:=eBool) (z:=false) rfl] at e
 rw[E_pf,t104,L104x0s]
 rw[show IntKind.i64.wrap ((0:Int)+1)=((1:Nat):Int) by rw[wr (by omega)];rfl]
 simp (disch:=omega) only[dT,pT]
 exact e
theorem lE4:∀ j i fu,i+j=l.len→j<fu→LE4x0 (E F (d+1)) F l st w h fu i=some (.ret (.tup (fO (firstP (fun i=>upB (l.el i) (st.el i) (w.el i)) j i))),[]):=by
 intro j
 induction j with
 |zero =>
  intro i fu h hf
  obtain⟨fu,rfl⟩:=ex1 (n:=fu) (by omega)
  rw[LE4x0s,dF (by omega),pF]
  rfl
 |succ j ih =>
  intro i fu h hf
  obtain⟨fu,rfl⟩:=ex1 (n:=fu) (by omega)
  have hS':IntKind.i64.wrap ((i:Int)+1)=((i+1:Nat):Int):=wrS (by omega)
  have e:=ih (i+1) fu (by omega) (by omega)
  have q:(E F (d+1)).pf 168 [.agg (eMach (l.el i)),.agg (eSta (st.el i)),.int .i64 (w.el i)]=some (.ret (.bool (upB (l.el i) (st.el i) (w.el i)))):=by
   rw[E_pf,t115]
   unfold upB
   cases (st.el i).runs<;>cases (w.el i != 1)<;>rfl
  rw[LE4x0s]
  simp (disch:=omega) only[dT,pT,tnC,hS',q,tkOut_ret,tkBool_b]
  simp only[firstP]
  cases hp:upB (l.el i) (st.el i) (w.el i) with
  |true=>rw[pT,pT];rfl
  |false=>rw[pF,pF];exact e
theorem s97:(E F (d+3)).pf 118 [HV l st w h]=some (.ret (.tup (fO (firstP (fun i=>upB (l.el i) (st.el i) (w.el i)) l.len 0)))):=by
 have q:(E F (d+2)).hv 167 [HV l st w h,.fn (.func 168) [] []] []=some (.ret (.tup (fO (firstP (fun i=>upB (l.el i) (st.el i) (w.el i)) l.len 0))),[]):=by
  rw[E_hv,tE4]
  exact lE4 F d (h:=h) hl2 hF hst hw l.len 0 F (by omega) (by omega)
 rw[E_pf,t97]
 simp only[q,tkHv_h,tkTup_t]
 cases firstP (fun i=>upB (l.el i) (st.el i) (w.el i)) l.len 0 with
 |none=>rfl
 |some i=>rfl
theorem lE5:∀ j i fu,i+j=l.len→j<fu→LE5x0 (E F (d+1)) F l st w h fu i=some (.ret (.tup (fO (firstP (fun i=>downB (l.el i) (st.el i) (w.el i)) j i))),[]):=by
 intro j
 induction j with
 |zero =>
  intro i fu h hf
  obtain⟨fu,rfl⟩:=ex1 (n:=fu) (by omega)
  rw[LE5x0s,dF (by omega),pF]
  rfl
 |succ j ih =>
  intro i fu h hf
  obtain⟨fu,rfl⟩:=ex1 (n:=fu) (by omega)
  have hS':IntKind.i64.wrap ((i:Int)+1)=((i+1:Nat):Int):=wrS (by omega)
  have e:=ih (i+1) fu (by omega) (by omega)
  have q:(E F (d+1)).pf 169 [.agg (eMach (l.el i)),.agg (eSta (st.el i)),.int .i64 (w.el i)]=some (.ret (.bool (downB (l.el i) (st.el i) (w.el i)))):=by
   rw[E_pf,t116]
   unfold downB
   cases (st.el i).runs<;>cases (w.el i==1)<;>rfl
  rw[LE5x0s]
  simp (disch:=omega) only[dT,pT,tnC,hS',q,tkOut_ret,tkBool_b]
  simp only[firstP]
  cases hp:downB (l.el i) (st.el i) (w.el i) with
  |true=>rw[pT,pT];rfl
  |false=>rw[pF,pF];exact e
theorem s98:(E F (d+3)).pf 119 [HV l st w h]=some (.ret (.tup (fO (firstP (fun i=>downB (l.el i) (st.el i) (w.el i)) l.len 0)))):=by
 have q:(E F (d+2)).hv 167 [HV l st w h,.fn (.func 169) [] []] []=some (.ret (.tup (fO (firstP (fun i=>downB (l.el i) (st.el i) (w.el i)) l.len 0))),[]):=by
  rw[E_hv,tE5]
  exact lE5 F d (h:=h) hl2 hF hst hw l.len 0 F (by omega) (by omega)
 rw[E_pf,t98]
 simp only[q,tkHv_h,tkTup_t]
 cases firstP (fun i=>downB (l.el i) (st.el i) (w.el i)) l.len 0 with
 |none=>rfl
 |some i=>rfl
theorem lE6:∀ j i fu,i+j=l.len→j<fu→LE6x0 (E F (d+1)) F l st w h fu i=some (.ret (.tup (fO (firstP (fun i=>cutB (l.el i) (st.el i) (w.el i)) j i))),[]):=by
 intro j
 induction j with
 |zero =>
  intro i fu h hf
  obtain⟨fu,rfl⟩:=ex1 (n:=fu) (by omega)
  rw[LE6x0s,dF (by omega),pF]
  rfl
 |succ j ih =>
  intro i fu h hf
  obtain⟨fu,rfl⟩:=ex1 (n:=fu) (by omega)
  have hS':IntKind.i64.wrap ((i:Int)+1)=((i+1:Nat):Int):=wrS (by omega)
  have e:=ih (i+1) fu (by omega) (by omega)
  have q:(E F (d+1)).pf 170 [.agg (eMach (l.el i)),.agg (eSta (st.el i)),.int .i64 (w.el i)]=some (.ret (.bool (cutB (l.el i) (st.el i) (w.el i)))):=by
   rw[E_pf,t117]
   unfold cutB
   cases (w.el i==2)<;>cases decide ((st.el i).served>0)<;>rfl
  rw[LE6x0s]
  simp (disch:=omega) only[dT,pT,tnC,hS',q,tkOut_ret,tkBool_b]
  simp only[firstP]
  cases hp:cutB (l.el i) (st.el i) (w.el i) with
  |true=>rw[pT,pT];rfl
  |false=>rw[pF,pF];exact e
theorem s99:(E F (d+3)).pf 120 [HV l st w h]=some (.ret (.tup (fO (firstP (fun i=>cutB (l.el i) (st.el i) (w.el i)) l.len 0)))):=by
 have q:(E F (d+2)).hv 167 [HV l st w h,.fn (.func 170) [] []] []=some (.ret (.tup (fO (firstP (fun i=>cutB (l.el i) (st.el i) (w.el i)) l.len 0))),[]):=by
  rw[E_hv,tE6]
  exact lE6 F d (h:=h) hl2 hF hst hw l.len 0 F (by omega) (by omega)
 rw[E_pf,t99]
 simp only[q,tkHv_h,tkTup_t]
 cases firstP (fun i=>cutB (l.el i) (st.el i) (w.el i)) l.len 0 with
 |none=>rfl
 |some i=>rfl
theorem lE7:∀ j i fu,i+j=l.len→j<fu→LE7x0 (E F (d+1)) F l st w h fu i=some (.ret (.tup (fO (firstP (fun i=>wornB (l.el i) (st.el i) (w.el i)) j i))),[]):=by
 intro j
 induction j with
 |zero =>
  intro i fu h hf
  obtain⟨fu,rfl⟩:=ex1 (n:=fu) (by omega)
  rw[LE7x0s,dF (by omega),pF]
  rfl
 |succ j ih =>
  intro i fu h hf
  obtain⟨fu,rfl⟩:=ex1 (n:=fu) (by omega)
  have hS':IntKind.i64.wrap ((i:Int)+1)=((i+1:Nat):Int):=wrS (by omega)
  have e:=ih (i+1) fu (by omega) (by omega)
  have q:(E F (d+1)).pf 172 [.agg (eMach (l.el i)),.agg (eSta (st.el i)),.int .i64 (w.el i)]=some (.ret (.bool (wornB (l.el i) (st.el i) (w.el i)))):=by
   rw[E_pf,t119]
   unfold wornB
   cases (w.el i==1)<;>rfl
  rw[LE7x0s]
  simp (disch:=omega) only[dT,pT,tnC,hS',q,tkOut_ret,tkBool_b]
  simp only[firstP]
  cases hp:wornB (l.el i) (st.el i) (w.el i) with
  |true=>rw[pT,pT];rfl
  |false=>rw[pF,pF];exact e
theorem s101:(E F (d+3)).pf 122 [HV l st w h]=some (.ret (.tup (fO (firstP (fun i=>wornB (l.el i) (st.el i) (w.el i)) l.len 0)))):=by
 have q:(E F (d+2)).hv 167 [HV l st w h,.fn (.func 172) [] []] []=some (.ret (.tup (fO (firstP (fun i=>wornB (l.el i) (st.el i) (w.el i)) l.len 0))),[]):=by
  rw[E_hv,tE7]
  exact lE7 F d (h:=h) hl2 hF hst hw l.len 0 F (by omega) (by omega)
 rw[E_pf,t101]
 simp only[q,tkHv_h,tkTup_t]
 cases firstP (fun i=>wornB (l.el i) (st.el i) (w.el i)) l.len 0 with
 |none=>rfl
 |some i=>rfl
theorem lE8:∀ j i fu,i+j=l.len→j<fu→∃ b,LE8x0 (E F (d+1)) F l st w h false fu i (busyB w.el i)=some (.ret (.tup (fO (firstP (crewB w.el) j i))),[.box 4 [.bool b] true]):=by
 intro j
 induction j with
 |zero =>
  intro i fu h hf
  obtain⟨fu,rfl⟩:=ex1 (n:=fu) (by omega)
  refine⟨busyB w.el i,?_⟩
  rw[LE8x0s,dF (by omega),pF]
  rfl
 |succ j ih =>
  intro i fu h hf
  obtain⟨fu,rfl⟩:=ex1 (n:=fu) (by omega)
  have hS':IntKind.i64.wrap ((i:Int)+1)=((i+1:Nat):Int):=wrS (by omega)
  have e:=ih (i+1) fu (by omega) (by omega)
  have q:(E F (d+1)).hv 171 [.agg (eMach (l.el i)),.agg (eSta (st.el i)),.int .i64 (w.el i),.optr 0 0 0] [.box 4 [.bool (busyB w.el i)] true]=some (.ret (.bool (crewB w.el i)),[.box 4 [.bool (busyB w.el (i+1))] true]):=by
   rw[E_hv,t118]
   simp only[busyB,crewB]
   cases busyB w.el i<;>cases (w.el i==2)<;>rfl
  rw[LE8x0s]
  simp (disch:=omega) only[dT,pT,tnC,hS',q,tkHv_h,tkBool_b,tkSCons_c,tkBox_b,Nat.beq_refl,beq_self_eq_true,Bool.and_self,tkCons_c,tkNil_n,tkSNil_n]
  simp only[firstP]
  cases hp:crewB w.el i with
  |true=>exact⟨_,rfl⟩
  |false=>rw[pF,pF];exact e
theorem s100:(E F (d+3)).pf 121 [HV l st w h]=some (.ret (.tup (fO (firstP (crewB w.el) l.len 0)))):=by
 obtain⟨b,e⟩:=lE8 F d (h:=h) hl2 hF hst hw l.len 0 F (by omega) (by omega)
 have q:(E F (d+2)).hv 167 [HV l st w h,.fn (.func 171) [] [.optr 0 0 0]] [.box 4 [.bool false] true]=some (.ret (.tup (fO (firstP (crewB w.el) l.len 0))),[.box 4 [.bool b] true]):=by
  rw[E_hv,tE8]
  exact e
 rw[E_pf,t100]
 simp only[q,tkHv_h,tkTup_t]
 cases firstP (crewB w.el) l.len 0 with
 |none=>rfl
 |some i=>rfl
end
section
variable {l:Sl Mach} (hl:PlantOk l) {st:Sl Sta} {w:Sl Int} {h:Hour} (hF:1000<F) (hst:st.len=l.len) (hw:w.len=l.len) (hh:HourOk h)
include hl hF hst hw hh
theorem s102:(E F (d+4)).pf 123 [HV l st w h]=some (.ret (.tup [.int .i64 (shortest l (runsS w).el h.flow h.ratio),.bool (shortest l (runsS w).el h.flow h.ratio != 0)])):=by
 have hl2:=hl.2
 have q1:=s104 F (d+2) (st:=st) (h:=h) (by omega) hF hst hw (by omega)
 have q2:=s57 F d hl hF hh.2 (runsS w) (by show w.len=l.len;exact hw) h.flow
 rw[E_pf,t102]
 simp only[q1,q2,tkOut_ret,tkRow_r,tkInt_i,decide_true,pT]
theorem s73:(E F (d+5)).pf 65 [HV l st w h]=some (.ret (.tup [.int .i64 (faultS l st.el w h).1,.int .i64 (faultS l st.el w h).2])):=by
 have hl2:=hl.2
 have q1:=s97 F (d+1) (st:=st) (h:=h) (by omega) hF hst hw
 have q2:=s98 F (d+1) (st:=st) (h:=h) (by omega) hF hst hw
 have q3:=s99 F (d+1) (st:=st) (h:=h) (by omega) hF hst hw
 have q4:=s100 F (d+1) (st:=st) (h:=h) (by omega) hF hst hw
 have q5:=s101 F (d+1) (st:=st) (h:=h) (by omega) hF hst hw
 have q6:=s102 F d (h:=h) hl hF hst hw hh
 rw[E_pf,t73]
 unfold faultS
 simp (disch:=omega) only[q1,tkOut_ret,tkTup_t,wr]
 cases firstP (fun i=>upB (l.el i) (st.el i) (w.el i)) l.len 0 with
 |some i=>rfl
 |none =>
  simp only[fO,tkCons_c,tkInt_i,tkBool_b,tkNil_n,pF,q2,tkOut_ret,tkTup_t]
  cases firstP (fun i=>downB (l.el i) (st.el i) (w.el i)) l.len 0 with
  |some i=>rfl
  |none =>
   simp only[fO,tkCons_c,tkInt_i,tkBool_b,tkNil_n,pF,q3,tkOut_ret,tkTup_t]
   cases firstP (fun i=>cutB (l.el i) (st.el i) (w.el i)) l.len 0 with
   |some i=>rfl
   |none =>
    simp only[fO,tkCons_c,tkInt_i,tkBool_b,tkNil_n,pF,q4,tkOut_ret,tkTup_t]
    cases firstP (crewB w.el) l.len 0 with
    |some i=>rfl
    |none =>
     simp only[fO,tkCons_c,tkInt_i,tkBool_b,tkNil_n,pF,q5,tkOut_ret,tkTup_t]
     cases firstP (fun i=>wornB (l.el i) (st.el i) (w.el i)) l.len 0 with
     |some i=>rfl
     |none =>
      simp only[fO,tkCons_c,tkInt_i,tkBool_b,tkNil_n,pF,q6,tkOut_ret,tkTup_t]
      by_cases hk:shortest l (runsS w).el h.flow h.ratio=0
      ·rw[hk];rfl
      ·rw[show (shortest l (runsS w).el h.flow h.ratio != 0)=true by simp[hk],pT,if_pos hk];rfl
end
end Go.Sim.Pl

namespace Go.Sim.Pl
open Go.Sim.Le (cfg E E_pf E_hv)
open Go.Proofs
variable (F d:Nat)
def sumW (f:Nat→Int):Nat→Int
 |0=>0
 |i+1=>sumW f i+f i
theorem sumW_in {f:Nat→Int} {B:Int} (hB:0≤B):∀ n,(∀ k,k<n→-B≤f k∧f k≤B)→-(B*n)≤sumW f n∧sumW f n≤B*n
 |0,_=>by simp[sumW]
 |n+1,h=>by
  have ih:=sumW_in hB n (fun k hk=>h k (by omega))
  have:=h n (by omega)
  simp only[sumW]
  rw[show B*((n+1:Nat):Int)=B*n+B by rw[Int.natCast_add,Int.mul_add];simp]
  omega
theorem lC0 (e:Env) {l:Sl Int} (h8:l.len≤8) (hl:∀ k,k<l.len→-1000000000≤l.el k∧l.el k≤1000000000):∀ (j i fu:Nat),i+j=l.len→j<fu→LC0x0 e F l fu (sumW l.el i) i=some (.ret (.int .i64 (sumW l.el l.len))):=by
 intro j
 induction j with
 |zero =>
  intro i fu hij hf
  obtain⟨fu,rfl⟩:=ex1 (n:=fu) (by omega)
  obtain rfl:i=l.len:=by omega
  rw[LC0x0s,dF (by omega),pF]
 |succ j ih =>
  intro i fu hij hf
  obtain⟨fu,rfl⟩:=ex1 (n:=fu) (by omega)
  have hS:=wrS (i:=i) (by omega)
  have b:=sumW_in (B:=1000000000) (by omega) i (fun k hk=>hl k (by omega))
  have h1:=hl i (by omega)
  have h2:(1000000000:Int)*i≤8000000000:=by omega
  rw[LC0x0s]
  simp (disch:=omega) only[dT,pT,tnC,hS,wr]
  exact ih (i+1) fu (by omega) (by omega)
theorem sC0 (hF:100<F) {l:Sl Int} (h8:l.len≤8) (hl:∀ k,k<l.len→-1000000000≤l.el k∧l.el k≤1000000000):(E F (d+1)).pf 144 [sl eInt 1 l]=some (.ret (.int .i64 (sumW l.el l.len))):=by
 rw[E_pf,tC0]
 exact lC0 F _ h8 hl l.len 0 F (by omega) (by omega)
def pos (n:Int):Int:=if 0<n then n else 0
theorem lB3x1 (e:Env) {l:Sl Int} (h8:l.len≤8) (hl:∀ k,k<l.len→-1000000000≤l.el k∧l.el k≤1000000000):∀ (j i fu:Nat),0<i→i+j=l.len→j<fu→LB3x1 e F l fu i i i i (gl eInt 0 (tabL (fun k=>pos (l.el k)) i)) i (gl eInt 0 (tabL (fun k=>pos (-l.el k)) i))=some (.ret (.tup [sl eInt 1 (rowT 0 (fun k=>pos (l.el k)) l.len),sl eInt 1 (rowT 0 (fun k=>pos (-l.el k)) l.len)])):=by
 intro j
 induction j with
 |zero =>
  intro i fu h0 hij hf
  obtain⟨fu,rfl⟩:=ex1 (n:=fu) (by omega)
  obtain rfl:i=l.len:=by omega
  rw[LB3x1s,dF (by omega),pF]
  rfl
 |succ j ih =>
  intro i fu h0 hij hf
  obtain⟨fu,rfl⟩:=ex1 (n:=fu) (by omega)
  have hS:=wrS (i:=i) (by omega)
  have h1:=hl i (by omega)
  have e1:appGet i (gl eInt 0 (tabL (fun k=>pos (l.el k)) i)) (fun _=>[.int .i64 (if (0:Int)<l.el i then l.el i else 0)])=gl eInt 0 (tabL (fun k=>pos (l.el k)) (i+1)):=by
   rw[tabL_S];exact gl_snoc (tabL_len _ _) rfl
  have e2:appGet i (gl eInt 0 (tabL (fun k=>pos (-l.el k)) i)) (fun _=>[.int .i64 (if (0:Int)<0 - l.el i then 0 - l.el i else 0)])=gl eInt 0 (tabL (fun k=>pos (-l.el k)) (i+1)):=by
   rw[tabL_S];exact gl_snoc (tabL_len _ _) (by simp[pos])
  rw[LB3x1s]
  simp (disch:=omega) only[dT,pT,tnC,hS]
  rw[wr (n:=0 - l.el i) (by omega),e1,e2]
  exact ih (i+1) fu (by omega) (by omega) (by omega)
end Go.Sim.Pl

namespace Go.Sim.Pl
open Go.Sim.Le (cfg E E_pf E_hv)
open Go.Proofs
def shF (x W:Int) (f:Nat→Int) (k:Nat):Int:=if 0<W then x*sumW f (k+1) / W - x*sumW f k / W else 0
theorem sumW_nn {f:Nat→Int}:∀ n,(∀ k,k<n→0≤f k)→0≤sumW f n
 |0,_=>by simp[sumW]
 |n+1,h=>by
  have:=sumW_nn n (fun k hk=>h k (by omega))
  have:=h n (by omega)
  simp only[sumW];omega
theorem sumW_mono {f:Nat→Int} {n:Nat} (h:∀ k,k<n→0≤f k):∀ i,i≤n→sumW f i≤sumW f n:=by
 induction n with
 |zero =>
  intro i hi;have:i=0:=by omega
  subst this;exact Int.le_refl _
 |succ n ih =>
  intro i hi
  rcases Nat.lt_or_eq_of_le hi with h1 | h1
  ·have:=ih (fun k hk=>h k (by omega)) i (by omega)
   have:=h n (by omega)
   simp only[sumW];omega
  ·rw[h1];exact Int.le_refl _
theorem shF_nn {x W:Int} {f:Nat→Int} {k:Nat} (hx:0≤x) (hf:0≤f k):0≤shF x W f k:=by
 unfold shF
 split
 ·rename_i hW
  have h1:x*sumW f k≤x*sumW f (k+1):=Int.mul_le_mul_of_nonneg_left (by simp only[sumW];omega) hx
  have:=Int.ediv_le_ediv hW h1
  omega
 ·omega
theorem shF_sum {x W:Int} {f:Nat→Int}:∀ n,sumW (shF x W f) n=if 0<W then x*sumW f n / W else 0
 |0=>by simp[sumW]
 |n+1=>by
  have ih:=shF_sum (x:=x) (W:=W) (f:=f) n
  simp only[sumW]
  rw[ih]
  unfold shF
  split
  ·simp only[sumW];omega
  ·rfl
theorem shF_all {x:Int} {f:Nat→Int} {n:Nat} (hx:0≤x):sumW (shF x (sumW f n) f) n≤x:=by
 rw[shF_sum]
 split
 ·rename_i h
  rw[Int.mul_ediv_cancel _ (by omega)]
  exact Int.le_refl _
 ·exact hx
end Go.Sim.Pl

namespace Go.Sim.Pl
open Go.Sim.Le (cfg E E_pf E_hv)
open Go.Proofs
variable (F d:Nat)
section
variable {x:Int} {l:Sl Int} (e:Env) {f:Nat→Int} (h8:l.len≤8) (hf:∀ k,k<l.len→0≤f k) (hWs:sumW f l.len≤800000000) (hx:0≤x∧x≤800000000) (hq:∀ k,k<l.len→e.pf 145 [.int .i64 (l.el k)]=some (.ret (.int .i64 (f k))))
include h8 hf hWs hx hq
theorem lA5x1 (R:Option (Out × List Slot)) (K:∀ fu,LA5x1 e F x l (fu+1) (sumW f l.len) (sumW f l.len) (if 0<sumW f l.len then x*sumW f l.len / sumW f l.len else 0) l.len (fun k=>eInt (if k<l.len then shF x (sumW f l.len) f k else 0))=R):∀ (j i fu:Nat),i+j=l.len→j<fu →
 LA5x1 e F x l fu (sumW f l.len) (sumW f i) (if 0<sumW f l.len then x*sumW f i / sumW f l.len else 0) i (fun k=>eInt (if k<i then shF x (sumW f l.len) f k else 0))=R:=by
 have hfn:=hf
 have hW0:=sumW_nn l.len hfn
 intro j
 induction j with
 |zero =>
  intro i fu hij hlt
  obtain⟨fu,rfl⟩:=ex1 (n:=fu) (by omega)
  obtain rfl:i=l.len:=by omega
  exact K fu
 |succ j ih =>
  intro i fu hij hlt
  obtain⟨fu,rfl⟩:=ex1 (n:=fu) (by omega)
  have hi:i<l.len:=by omega
  have hS:=wrS (i:=i) (by omega)
  have m0:=sumW_nn i (fun k hk=>hfn k (by omega))
  have m1:=sumW_mono hfn (i+1) (by omega)
  have m2:=hfn i hi
  have e1:=ih (i+1) fu (by omega) (by omega)
  have hs:sumW f (i+1)=sumW f i+f i:=rfl
  have m3:0≤sumW f (i+1):=sumW_nn (i+1) (fun k hk=>hfn k (by omega))
  have hup:∀ v:Int,v=shF x (sumW f l.len) f i→updGet (fun k=>eInt (if k<i then shF x (sumW f l.len) f k else 0)) i 0 [.int .i64 v]=fun k=>eInt (if k<i+1 then shF x (sumW f l.len) f k else 0):=by
   intro v hv
   subst hv
   rw[show ([V.int .i64 (shF x (sumW f l.len) f i)]:List V)=eInt (shF x (sumW f l.len) f i) from rfl,upd_int]
   funext k
   by_cases hk:k=i
   ·subst hk;rw[if_pos rfl,if_pos (by omega)]
   ·rw[if_neg hk]
    by_cases hk2:k<i
    ·rw[if_pos hk2,if_pos (by omega)]
    ·rw[if_neg hk2,if_neg (by omega)]
  rw[LA5x1s]
  simp (disch:=omega) only[dT,pT,tnC,hq i hi,tkOut_ret,tkInt_i,decide_true]
  by_cases hp:0<sumW f l.len
  ·have p0:0≤x*sumW f (i+1):=Int.mul_nonneg hx.1 (by omega)
   have p1:x*sumW f (i+1)≤800000000*800000000:=Int.mul_le_mul hx.2 (by omega) (by omega) (by omega)
   have p2:x*sumW f i≤x*sumW f (i+1):=Int.mul_le_mul_of_nonneg_left (by omega) hx.1
   have p3:0≤x*sumW f i:=Int.mul_nonneg hx.1 m0
   have d1:=Int.ediv_le_self (sumW f l.len) p0
   have d2:=Int.ediv_nonneg p0 hW0
   have d3:=Int.ediv_le_ediv hp p2
   have d4:=Int.ediv_nonneg p3 hW0
   have hv:shF x (sumW f l.len) f i=x*sumW f (i+1) / sumW f l.len - x*sumW f i / sumW f l.len:=by unfold shF;rw[if_pos hp]
   rw[dT hp,pT,dF (by omega),pF,if_pos hp,← hs]
   rw[if_pos hp] at e1
   rw[wr (n:=sumW f (i+1)) (by omega),wr (n:=x*sumW f (i+1)) (by omega),Int.tdiv_eq_ediv_of_nonneg p0,wr (n:=x*sumW f (i+1) / sumW f l.len) (by omega),wr (n:=x*sumW f (i+1) / sumW f l.len - x*sumW f i / sumW f l.len) (by omega),hup _ hv.symm]
   simp only[]
   rw[show eInt (if i<i+1 then shF x (sumW f l.len) f i else 0)=[.int .i64 (shF x (sumW f l.len) f i)] by rw[if_pos (by omega)]]
   simp only[tkCons_c,tkInt_i,decide_true,pT,hS]
   rw[hv,wr (by omega),show x*sumW f i / sumW f l.len+(x*sumW f (i+1) / sumW f l.len - x*sumW f i / sumW f l.len)=x*sumW f (i+1) / sumW f l.len by omega]
   exact e1
  ·rw[dF (by omega),pF,hS,wr (n:=sumW f i+f i) (by omega)]
   rw[if_neg hp] at e1 ⊢
   have hz:∀ k,shF x (sumW f l.len) f k=0:=fun k=>by unfold shF;rw[if_neg hp]
   rw[hs] at e1
   have hfe:(fun k=>eInt (if k<i+1 then shF x (sumW f l.len) f k else 0))=fun k=>eInt (if k<i then shF x (sumW f l.len) f k else 0):=by
    funext k;rw[hz];simp
   rw[hfe] at e1
   exact e1
end
section
variable {s:Sto} {l:Sl Int} {x:Int} {kk:Nat} {gg:Nat→List V} (e:Env) (hg:∀ k,k<kk→gg k=[.int .i64 k]) {f:Nat→Int} (h8:kk≤8) (hf:∀ k,k<kk→0≤f k) (hWs:sumW f kk≤800000000) (hx:0≤x∧x≤800000000) (hq:∀ k,k<kk→e.pf 192 [.int .i64 k,.rptr 1 6 (fun _=>(eSto s)) 0 0,.rptr 1 1 (fun _=>[sl eInt 1 l]) 0 0]=some (.ret (.int .i64 (f k))))
include h8 hf hWs hx hq hg
theorem lA6x1 (R:Option (Out × List Slot)) (K:∀ fu,LA6x1 e F s l x kk gg (fu+1) (sumW f kk) (sumW f kk) (if 0<sumW f kk then x*sumW f kk / sumW f kk else 0) kk (fun k=>eInt (if k<kk then shF x (sumW f kk) f k else 0))=R):∀ (j i fu:Nat),i+j=kk→j<fu →
 LA6x1 e F s l x kk gg fu (sumW f kk) (sumW f i) (if 0<sumW f kk then x*sumW f i / sumW f kk else 0) i (fun k=>eInt (if k<i then shF x (sumW f kk) f k else 0))=R:=by
 have hfn:=hf
 have hW0:=sumW_nn kk hfn
 intro j
 induction j with
 |zero =>
  intro i fu hij hlt
  obtain⟨fu,rfl⟩:=ex1 (n:=fu) (by omega)
  obtain rfl:i=kk:=by omega
  exact K fu
 |succ j ih =>
  intro i fu hij hlt
  obtain⟨fu,rfl⟩:=ex1 (n:=fu) (by omega)
  have hi:i<kk:=by omega
  have hS:=wrS (i:=i) (by omega)
  have m0:=sumW_nn i (fun k hk=>hfn k (by omega))
  have m1:=sumW_mono hfn (i+1) (by omega)
  have m2:=hfn i hi
  have e1:=ih (i+1) fu (by omega) (by omega)
  have hs:sumW f (i+1)=sumW f i+f i:=rfl
  have m3:0≤sumW f (i+1):=sumW_nn (i+1) (fun k hk=>hfn k (by omega))
  have hup:∀ v:Int,v=shF x (sumW f kk) f i→updGet (fun k=>eInt (if k<i then shF x (sumW f kk) f k else 0)) i 0 [.int .i64 v]=fun k=>eInt (if k<i+1 then shF x (sumW f kk) f k else 0):=by
   intro v hv
   subst hv
   rw[show ([V.int .i64 (shF x (sumW f kk) f i)]:List V)=eInt (shF x (sumW f kk) f i) from rfl,upd_int]
   funext k
   by_cases hk:k=i
   ·subst hk;rw[if_pos rfl,if_pos (by omega)]
   ·rw[if_neg hk]
    by_cases hk2:k<i
    ·rw[if_pos hk2,if_pos (by omega)]
    ·rw[if_neg hk2,if_neg (by omega)]
  rw[LA6x1s]
  simp (disch:=omega) only[dT,pT,tnC,tkCons_c,tkInt_i,hg i (by omega),hq i hi,tkOut_ret,tkInt_i,decide_true]
  by_cases hp:0<sumW f kk
  ·have p0:0≤x*sumW f (i+1):=Int.mul_nonneg hx.1 (by omega)
   have p1:x*sumW f (i+1)≤800000000*800000000:=Int.mul_le_mul hx.2 (by omega) (by omega) (by omega)
   have p2:x*sumW f i≤x*sumW f (i+1):=Int.mul_le_mul_of_nonneg_left (by omega) hx.1
   have p3:0≤x*sumW f i:=Int.mul_nonneg hx.1 m0
   have d1:=Int.ediv_le_self (sumW f kk) p0
   have d2:=Int.ediv_nonneg p0 hW0
   have d3:=Int.ediv_le_ediv hp p2
   have d4:=Int.ediv_nonneg p3 hW0
   have hv:shF x (sumW f kk) f i=x*sumW f (i+1) / sumW f kk - x*sumW f i / sumW f kk:=by unfold shF;rw[if_pos hp]
   rw[dT hp,pT,dF (by omega),pF,if_pos hp,← hs]
   rw[if_pos hp] at e1
   rw[wr (n:=sumW f (i+1)) (by omega),wr (n:=x*sumW f (i+1)) (by omega),Int.tdiv_eq_ediv_of_nonneg p0,wr (n:=x*sumW f (i+1) / sumW f kk) (by omega),wr (n:=x*sumW f (i+1) / sumW f kk - x*sumW f i / sumW f kk) (by omega),hup _ hv.symm]
   simp only[]
   rw[show eInt (if i<i+1 then shF x (sumW f kk) f i else 0)=[.int .i64 (shF x (sumW f kk) f i)] by rw[if_pos (by omega)]]
   simp only[tkCons_c,tkInt_i,decide_true,pT,hS]
   rw[hv,wr (by omega),show x*sumW f i / sumW f kk+(x*sumW f (i+1) / sumW f kk - x*sumW f i / sumW f kk)=x*sumW f (i+1) / sumW f kk by omega]
   exact e1
  ·rw[dF (by omega),pF,hS,wr (n:=sumW f i+f i) (by omega)]
   rw[if_neg hp] at e1 ⊢
   have hz:∀ k,shF x (sumW f kk) f k=0:=fun k=>by unfold shF;rw[if_neg hp]
   rw[hs] at e1
   have hfe:(fun k=>eInt (if k<i+1 then shF x (sumW f kk) f k else 0))=fun k=>eInt (if k<i then shF x (sumW f kk) f k else 0):=by
    funext k;rw[hz];simp
   rw[hfe] at e1
   exact e1
end
section
variable {s:Sto} {l:Sl Int} {x:Int} {kk:Nat} {gg:Nat→List V} (e:Env) (hg:∀ k,k<kk→gg k=[.int .i64 k]) {f:Nat→Int} (h8:kk≤8) (hf:∀ k,k<kk→0≤f k) (hWs:sumW f kk≤800000000) (hx:0≤x∧x≤800000000) (hq:∀ k,k<kk→e.pf 193 [.int .i64 k,.rptr 1 1 (fun _=>[sl eInt 1 l]) 0 0,.rptr 1 1 (fun _=>[.fn (.func 192) [] [.rptr 1 6 (fun _=>(eSto s)) 0 0,.rptr 1 1 (fun _=>[sl eInt 1 l]) 0 0]]) 0 0]=some (.ret (.int .i64 (f k))))
include h8 hf hWs hx hq hg
theorem lA7x1 (R:Option (Out × List Slot)) (K:∀ fu,LA7x1 e F s l x kk gg (fu+1) (sumW f kk) (sumW f kk) (if 0<sumW f kk then x*sumW f kk / sumW f kk else 0) kk (fun k=>eInt (if k<kk then shF x (sumW f kk) f k else 0))=R):∀ (j i fu:Nat),i+j=kk→j<fu →
 LA7x1 e F s l x kk gg fu (sumW f kk) (sumW f i) (if 0<sumW f kk then x*sumW f i / sumW f kk else 0) i (fun k=>eInt (if k<i then shF x (sumW f kk) f k else 0))=R:=by
 have hfn:=hf
 have hW0:=sumW_nn kk hfn
 intro j
 induction j with
 |zero =>
  intro i fu hij hlt
  obtain⟨fu,rfl⟩:=ex1 (n:=fu) (by omega)
  obtain rfl:i=kk:=by omega
  exact K fu
 |succ j ih =>
  intro i fu hij hlt
  obtain⟨fu,rfl⟩:=ex1 (n:=fu) (by omega)
  have hi:i<kk:=by omega
  have hS:=wrS (i:=i) (by omega)
  have m0:=sumW_nn i (fun k hk=>hfn k (by omega))
  have m1:=sumW_mono hfn (i+1) (by omega)
  have m2:=hfn i hi
  have e1:=ih (i+1) fu (by omega) (by omega)
  have hs:sumW f (i+1)=sumW f i+f i:=rfl
  have m3:0≤sumW f (i+1):=sumW_nn (i+1) (fun k hk=>hfn k (by omega))
  have hup:∀ v:Int,v=shF x (sumW f kk) f i→updGet (fun k=>eInt (if k<i then shF x (sumW f kk) f k else 0)) i 0 [.int .i64 v]=fun k=>eInt (if k<i+1 then shF x (sumW f kk) f k else 0):=by
   intro v hv
   subst hv
   rw[show ([V.int .i64 (shF x (sumW f kk) f i)]:List V)=eInt (shF x (sumW f kk) f i) from rfl,upd_int]
   funext k
   by_cases hk:k=i
   ·subst hk;rw[if_pos rfl,if_pos (by omega)]
   ·rw[if_neg hk]
    by_cases hk2:k<i
    ·rw[if_pos hk2,if_pos (by omega)]
    ·rw[if_neg hk2,if_neg (by omega)]
  rw[LA7x1s]
  simp (disch:=omega) only[dT,pT,tnC,tkCons_c,tkInt_i,hg i (by omega),hq i hi,tkOut_ret,tkInt_i,decide_true]
  by_cases hp:0<sumW f kk
  ·have p0:0≤x*sumW f (i+1):=Int.mul_nonneg hx.1 (by omega)
   have p1:x*sumW f (i+1)≤800000000*800000000:=Int.mul_le_mul hx.2 (by omega) (by omega) (by omega)
   have p2:x*sumW f i≤x*sumW f (i+1):=Int.mul_le_mul_of_nonneg_left (by omega) hx.1
   have p3:0≤x*sumW f i:=Int.mul_nonneg hx.1 m0
   have d1:=Int.ediv_le_self (sumW f kk) p0
   have d2:=Int.ediv_nonneg p0 hW0
   have d3:=Int.ediv_le_ediv hp p2
   have d4:=Int.ediv_nonneg p3 hW0
   have hv:shF x (sumW f kk) f i=x*sumW f (i+1) / sumW f kk - x*sumW f i / sumW f kk:=by unfold shF;rw[if_pos hp]
   rw[dT hp,pT,dF (by omega),pF,if_pos hp,← hs]
   rw[if_pos hp] at e1
   rw[wr (n:=sumW f (i+1)) (by omega),wr (n:=x*sumW f (i+1)) (by omega),Int.tdiv_eq_ediv_of_nonneg p0,wr (n:=x*sumW f (i+1) / sumW f kk) (by omega),wr (n:=x*sumW f (i+1) / sumW f kk - x*sumW f i / sumW f kk) (by omega),hup _ hv.symm]
   simp only[]
   rw[show eInt (if i<i+1 then shF x (sumW f kk) f i else 0)=[.int .i64 (shF x (sumW f kk) f i)] by rw[if_pos (by omega)]]
   simp only[tkCons_c,tkInt_i,decide_true,pT,hS]
   rw[hv,wr (by omega),show x*sumW f i / sumW f kk+(x*sumW f (i+1) / sumW f kk - x*sumW f i / sumW f kk)=x*sumW f (i+1) / sumW f kk by omega]
   exact e1
  ·rw[dF (by omega),pF,hS,wr (n:=sumW f i+f i) (by omega)]
   rw[if_neg hp] at e1 ⊢
   have hz:∀ k,shF x (sumW f kk) f k=0:=fun k=>by unfold shF;rw[if_neg hp]
   rw[hs] at e1
   have hfe:(fun k=>eInt (if k<i+1 then shF x (sumW f kk) f k else 0))=fun k=>eInt (if k<i then shF x (sumW f kk) f k else 0):=by
    funext k;rw[hz];simp
   rw[hfe] at e1
   exact e1
end
end Go.Sim.Pl

namespace Go.Sim.Pl
open Go.Sim.Le (cfg E E_pf E_hv)
open Go.Proofs
variable (F d:Nat)
def shR (x:Int) (f:Nat→Int) (n:Nat):Nat→List V:=fun k=>eInt (if k<n then shF x (sumW f n) f k else 0)
section
variable {x:Int} {l:Sl Int} (hF:100<F) {f:Nat→Int} (h8:l.len≤8) (hf:∀ k,k<l.len→0≤f k) (hWs:sumW f l.len≤800000000) (hx:0≤x∧x≤800000000) (hq:∀ k,k<l.len→(E F d).pf 145 [.int .i64 (l.el k)]=some (.ret (.int .i64 (f k))))
include hF h8 hf hWs hx hq
theorem lA5x0:∀ (j i fu:Nat),i+j=l.len→j<fu→LA5x0 (E F d) F x l fu (sumW f i) i=some ((.ret (.osl 0 0 (Int.toNat (((Sl.len l):Nat):Int)))),[(.arr 3 1 (Int.toNat (((Sl.len l):Nat):Int)) (shR x f l.len) true)]):=by
 have hfn:=hf
 intro j
 induction j with
 |zero =>
  intro i fu hij hlt
  obtain⟨fu,rfl⟩:=ex1 (n:=fu) (by omega)
  obtain rfl:l.len=i:=by omega
  have e1:=lA5x1 F (E F d) h8 hf hWs hx hq (some ((.ret (.osl 0 0 (Int.toNat (((Sl.len l):Nat):Int)))),[(.arr 3 1 (Int.toNat (((Sl.len l):Nat):Int)) (shR x f l.len) true)])) (fun fu=>by
   rw[LA5x1s,dF (by omega),pF]
   rfl) l.len 0 F (by omega) (by omega)
  rw[LA5x0s,dF (by omega),pF,dT (by omega),pT,dT (by omega),pT,dT (by omega),pT,dT (by omega),pT,← e1]
  have z:(if 0<sumW f l.len then x*sumW f 0 / sumW f l.len else 0)=0:=by simp[sumW]
  rw[z]
  rfl
 |succ j ih =>
  intro i fu hij hlt
  obtain⟨fu,rfl⟩:=ex1 (n:=fu) (by omega)
  have hi:i<l.len:=by omega
  have hS:=wrS (i:=i) (by omega)
  have m1:=sumW_mono hfn (i+1) (by omega)
  have m3:0≤sumW f (i+1):=sumW_nn (i+1) (fun k hk=>hfn k (by omega))
  have hs:sumW f (i+1)=sumW f i+f i:=rfl
  have e1:=ih (i+1) fu (by omega) (by omega)
  rw[LA5x0s]
  simp (disch:=omega) only[dT,pT,tnC,hq i hi,tkOut_ret,tkInt_i,decide_true]
  rw[hS,← hs,wr (by omega)]
  exact e1
theorem sA5:(E F (d+1)).hv 147 [(.int .i64 x),(sl eInt 1 l),(.fn (.func 145) [] [])] []=some ((.ret (.osl 0 0 (Int.toNat (((Sl.len l):Nat):Int)))),[(.arr 3 1 (Int.toNat (((Sl.len l):Nat):Int)) (shR x f l.len) true)]):=by
 rw[E_hv,tA5]
 exact lA5x0 F d hF h8 hf hWs hx hq l.len 0 F (by omega) (by omega)
end
section
variable {s:Sto} {l:Sl Int} {x:Int} {kk:Nat} {gg:Nat→List V} (hF:100<F) (hg:∀ k,k<kk→gg k=[.int .i64 k]) {f:Nat→Int} (h8:kk≤8) (hf:∀ k,k<kk→0≤f k) (hWs:sumW f kk≤800000000) (hx:0≤x∧x≤800000000) (hq:∀ k,k<kk→(E F d).pf 192 [.int .i64 k,.rptr 1 6 (fun _=>(eSto s)) 0 0,.rptr 1 1 (fun _=>[sl eInt 1 l]) 0 0]=some (.ret (.int .i64 (f k))))
include hF h8 hf hWs hx hq hg
theorem lA6x0:∀ (j i fu:Nat),i+j=kk→j<fu→LA6x0 (E F d) F s l x kk gg fu (sumW f i) i=some ((.ret (.osl 3 0 (Int.toNat ((kk:Nat):Int)))),[(.arr 3 1 kk gg true),(.box 28 (eSto s) true),(.box 25 [(sl eInt 1 l)] true),(.arr 3 1 (Int.toNat ((kk:Nat):Int)) (shR x f kk) true)]):=by
 have hfn:=hf
 intro j
 induction j with
 |zero =>
  intro i fu hij hlt
  obtain⟨fu,rfl⟩:=ex1 (n:=fu) (by omega)
  obtain rfl:kk=i:=by omega
  have e1:=lA6x1 F (E F d) hg h8 hf hWs hx hq (some ((.ret (.osl 3 0 (Int.toNat ((kk:Nat):Int)))),[(.arr 3 1 kk gg true),(.box 28 (eSto s) true),(.box 25 [(sl eInt 1 l)] true),(.arr 3 1 (Int.toNat ((kk:Nat):Int)) (shR x f kk) true)])) (fun fu=>by
   rw[LA6x1s,dF (by omega),pF]
   rfl) kk 0 F (by omega) (by omega)
  rw[LA6x0s,dF (by omega),pF,dT (by omega),pT,dT (by omega),pT,dT (by omega),pT,dT (by omega),pT,← e1]
  have z:(if 0<sumW f kk then x*sumW f 0 / sumW f kk else 0)=0:=by simp[sumW]
  rw[z]
  rfl
 |succ j ih =>
  intro i fu hij hlt
  obtain⟨fu,rfl⟩:=ex1 (n:=fu) (by omega)
  have hi:i<kk:=by omega
  have hS:=wrS (i:=i) (by omega)
  have m1:=sumW_mono hfn (i+1) (by omega)
  have m3:0≤sumW f (i+1):=sumW_nn (i+1) (fun k hk=>hfn k (by omega))
  have hs:sumW f (i+1)=sumW f i+f i:=rfl
  have e1:=ih (i+1) fu (by omega) (by omega)
  rw[LA6x0s]
  simp (disch:=omega) only[dT,pT,tnC,tkCons_c,tkInt_i,hg i (by omega),hq i hi,tkOut_ret,tkInt_i,decide_true]
  rw[hS,← hs,wr (by omega)]
  exact e1
theorem sA6:(E F (d+1)).hv 147 [(.int .i64 x),(.osl 0 0 kk),(.fn (.func 192) [] [(.optr 1 0 0),(.optr 2 0 0)])] [(.arr 3 1 kk gg true),(.box 28 (eSto s) true),(.box 25 [(sl eInt 1 l)] true)]=some ((.ret (.osl 3 0 (Int.toNat ((kk:Nat):Int)))),[(.arr 3 1 kk gg true),(.box 28 (eSto s) true),(.box 25 [(sl eInt 1 l)] true),(.arr 3 1 (Int.toNat ((kk:Nat):Int)) (shR x f kk) true)]):=by
 rw[E_hv,tA6]
 exact lA6x0 F d hF hg h8 hf hWs hx hq kk 0 F (by omega) (by omega)
end
section
variable {s:Sto} {l:Sl Int} {x:Int} {kk:Nat} {gg:Nat→List V} (hF:100<F) (hg:∀ k,k<kk→gg k=[.int .i64 k]) {f:Nat→Int} (h8:kk≤8) (hf:∀ k,k<kk→0≤f k) (hWs:sumW f kk≤800000000) (hx:0≤x∧x≤800000000) (hq:∀ k,k<kk→(E F d).pf 193 [.int .i64 k,.rptr 1 1 (fun _=>[sl eInt 1 l]) 0 0,.rptr 1 1 (fun _=>[.fn (.func 192) [] [.rptr 1 6 (fun _=>(eSto s)) 0 0,.rptr 1 1 (fun _=>[sl eInt 1 l]) 0 0]]) 0 0]=some (.ret (.int .i64 (f k))))
include hF h8 hf hWs hx hq hg
theorem lA7x0:∀ (j i fu:Nat),i+j=kk→j<fu→LA7x0 (E F d) F s l x kk gg fu (sumW f i) i=some ((.ret (.osl 4 0 (Int.toNat ((kk:Nat):Int)))),[(.arr 3 1 kk gg true),(.box 25 [(sl eInt 1 l)] true),(.box 223 [(.fn (.func 192) [] [(.optr 3 0 0),(.optr 1 0 0)])] true),(.box 28 (eSto s) true),(.arr 3 1 (Int.toNat ((kk:Nat):Int)) (shR x f kk) true)]):=by
 have hfn:=hf
 intro j
 induction j with
 |zero =>
  intro i fu hij hlt
  obtain⟨fu,rfl⟩:=ex1 (n:=fu) (by omega)
  obtain rfl:kk=i:=by omega
  have e1:=lA7x1 F (E F d) hg h8 hf hWs hx hq (some ((.ret (.osl 4 0 (Int.toNat ((kk:Nat):Int)))),[(.arr 3 1 kk gg true),(.box 25 [(sl eInt 1 l)] true),(.box 223 [(.fn (.func 192) [] [(.optr 3 0 0),(.optr 1 0 0)])] true),(.box 28 (eSto s) true),(.arr 3 1 (Int.toNat ((kk:Nat):Int)) (shR x f kk) true)])) (fun fu=>by
   rw[LA7x1s,dF (by omega),pF]
   rfl) kk 0 F (by omega) (by omega)
  rw[LA7x0s,dF (by omega),pF,dT (by omega),pT,dT (by omega),pT,dT (by omega),pT,dT (by omega),pT,← e1]
  have z:(if 0<sumW f kk then x*sumW f 0 / sumW f kk else 0)=0:=by simp[sumW]
  rw[z]
  rfl
 |succ j ih =>
  intro i fu hij hlt
  obtain⟨fu,rfl⟩:=ex1 (n:=fu) (by omega)
  have hi:i<kk:=by omega
  have hS:=wrS (i:=i) (by omega)
  have m1:=sumW_mono hfn (i+1) (by omega)
  have m3:0≤sumW f (i+1):=sumW_nn (i+1) (fun k hk=>hfn k (by omega))
  have hs:sumW f (i+1)=sumW f i+f i:=rfl
  have e1:=ih (i+1) fu (by omega) (by omega)
  rw[LA7x0s]
  simp (disch:=omega) only[dT,pT,tnC,tkCons_c,tkInt_i,hg i (by omega),hq i hi,tkOut_ret,tkInt_i,decide_true]
  rw[hS,← hs,wr (by omega)]
  exact e1
theorem sA7:(E F (d+1)).hv 147 [(.int .i64 x),(.osl 0 0 kk),(.fn (.func 193) [] [(.optr 1 0 0),(.optr 2 0 0)])] [(.arr 3 1 kk gg true),(.box 25 [(sl eInt 1 l)] true),(.box 223 [(.fn (.func 192) [] [(.optr 3 0 0),(.optr 1 0 0)])] true),(.box 28 (eSto s) true)]=some ((.ret (.osl 4 0 (Int.toNat ((kk:Nat):Int)))),[(.arr 3 1 kk gg true),(.box 25 [(sl eInt 1 l)] true),(.box 223 [(.fn (.func 192) [] [(.optr 3 0 0),(.optr 1 0 0)])] true),(.box 28 (eSto s) true),(.arr 3 1 (Int.toNat ((kk:Nat):Int)) (shR x f kk) true)]):=by
 rw[E_hv,tA7]
 exact lA7x0 F d hF hg h8 hf hWs hx hq kk 0 F (by omega) (by omega)
end
end Go.Sim.Pl

namespace Go.Sim.Pl
open Go.Sim.Le (cfg E E_pf E_hv)
open Go.Proofs
variable (F d:Nat)
def eI (f:Nat→Int):Nat→List V:=fun k=>[.int .i64 (f k)]
theorem eI_at (f:Nat→Int) (k:Nat):eI f k=[.int .i64 (f k)]:=rfl
def upd (f:Nat→Int) (i:Nat) (v:Int):Nat→Int:=fun k=>if k=i then v else f k
theorem upd_eI (f:Nat→Int) (i:Nat) (v:Int):updGet (eI f) i 0 [.int .i64 v]=eI (upd f i v):=by
 funext k
 unfold updGet eI upd
 by_cases h:k=i
 ·rw[if_pos h,if_pos h];rfl
 ·rw[if_neg h,if_neg h]
theorem upd_same (f:Nat→Int) (i:Nat) (v:Int):upd f i v i=v:=if_pos rfl
theorem upd_else {f:Nat→Int} {i k:Nat} {v:Int} (h:k ≠ i):upd f i v k=f k:=if_neg h
theorem upd_in {f:Nat→Int} {i:Nat} {v lo hi:Int} (h:∀ k,lo≤f k∧f k≤hi) (hv:lo≤v∧v≤hi):∀ k,lo≤upd f i v k∧upd f i v k≤hi:=by
 intro k
 unfold upd
 split
 ·exact hv
 ·exact h k
theorem sumW_congr {f g:Nat→Int}:∀ n,(∀ k,k<n→f k=g k)→sumW f n=sumW g n
 |0,_=>rfl
 |n+1,h=>by
  simp only[sumW]
  rw[sumW_congr n (fun k hk=>h k (by omega)),h n (by omega)]
theorem sumW_add (f g:Nat→Int):∀ n,sumW (fun k=>f k+g k) n=sumW f n+sumW g n
 |0=>rfl
 |n+1=>by simp only[sumW];rw[sumW_add f g n];omega
section
variable {s:Sto} {l:Sl Int} (hn:l.len=s.cons.len)
def fiW (s:Sto) (l:Sl Int) (k:Nat):Int:=bif (s.cons.el k).firm then l.el k else 0
def otW (s:Sto) (l:Sl Int) (k:Nat):Int:=l.el k - fiW s l k
include hn
theorem sG0 {k:Nat} (hk:k<l.len):(E F (d+1)).pf 192 [.int .i64 k,.rptr 1 6 (fun _=>(eSto s)) 0 0,.rptr 1 1 (fun _=>[sl eInt 1 l]) 0 0]=some (.ret (.int .i64 (fiW s l k))):=by
 rw[E_pf,tG0]
 simp (disch:=omega) only[dT,pT,tnC]
 unfold fiW
 cases (s.cons.el k).firm<;>rfl
theorem sK2 {k:Nat} (hk:k<l.len) (hv:∀ k,k<l.len→0≤l.el k∧l.el k≤100000000):(E F (d+2)).pf 193 [.int .i64 k,.rptr 1 1 (fun _=>[sl eInt 1 l]) 0 0,.rptr 1 1 (fun _=>[.fn (.func 192) [] [.rptr 1 6 (fun _=>(eSto s)) 0 0,.rptr 1 1 (fun _=>[sl eInt 1 l]) 0 0]]) 0 0]=some (.ret (.int .i64 (otW s l k))):=by
 have q:=sG0 F d hn hk
 rw[E_pf,tK2]
 simp (disch:=omega) only[dT,pT,tnC,q,tkOut_ret,tkInt_i,decide_true]
 have h1:=hv k hk
 rw[wr (by unfold fiW;cases (s.cons.el k).firm<;>simp only[cond_true,cond_false]<;>omega)]
 rfl
end
end Go.Sim.Pl

namespace Go.Sim.Pl
open Go.Sim.Le (cfg E E_pf E_hv)
open Go.Proofs
variable (F d:Nat)
theorem tkSame_s {R:Type} (a:Slot) (f k:R):tkSame a a f k=k:=by unfold tkSame;exact if_pos rfl
theorem nbr (n:Nat):Nat.beq n n=true:=Nat.beq_refl n
theorem ttt:(true && true)=true:=rfl
theorem bqr (n:Nat):(n==n)=true:=beq_self_eq_true n
theorem bqt:(true==true)=true:=rfl
theorem sam_fn {a b:Nat}:sameV 8 (.fn (.func 192) [] [.optr a 0 0,.optr b 0 0]) (.fn (.func 192) [] [.optr a 0 0,.optr b 0 0])=true:=by simp[sameV]
section
variable {s:Sto} {l:Sl Int} (hn:l.len=s.cons.len) (h8:l.len≤8) (hF:1000<F) (hv:∀ k,k<l.len→0≤l.el k∧l.el k≤100000000)
include hn h8 hF hv
theorem fiW_in {k:Nat} (hk:k<l.len):0≤fiW s l k∧fiW s l k≤100000000:=by
 have h:=hv k hk
 unfold fiW;cases (s.cons.el k).firm<;>simp only[cond_true,cond_false]<;>omega
theorem otW_in {k:Nat} (hk:k<l.len):0≤otW s l k∧otW s l k≤100000000:=by
 have h:=hv k hk
 unfold otW fiW;cases (s.cons.el k).firm<;>simp only[cond_true,cond_false]<;>omega
omit hn hF hv in
theorem lA3x1 (e:Env) (x:Int):∀ (j i fu:Nat) (g:Nat→List V),i+j=l.len→j<fu→(∀ k,k<i→g k=[.int .i64 k])→∃ g',(∀ k,k<l.len→g' k=[.int .i64 k])∧LA3x1 e F s l x fu i i i g=LA3x3 e F s l x F l.len 0 0 l.len g':=by
 intro j
 induction j with
 |zero =>
  intro i fu g hij hlt hg
  obtain⟨fu,rfl⟩:=ex1 (n:=fu) (by omega)
  obtain rfl:l.len=i:=by omega
  exact⟨g,hg,by rw[LA3x1s,dF (by omega),pF]⟩
 |succ j ih =>
  intro i fu g hij hlt hg
  obtain⟨fu,rfl⟩:=ex1 (n:=fu) (by omega)
  have hS:=wrS (i:=i) (by omega)
  obtain⟨g',h1,h2⟩:=ih (i+1) fu (appGet i g (fun _=>[.int .i64 i])) (by omega) (by omega) (fun k hk=>by
   unfold appGet
   by_cases h:k<i
   ·rw[if_pos h];exact hg k h
   ·rw[if_neg h];obtain rfl:k=i:=by omega
    rfl)
  refine⟨g',h1,?_⟩
  rw[LA3x1s,dT (by omega),pT,dT (by omega),pT,hS]
  exact h2
theorem lA3x3 (x:Int) (g:Nat→List V):∀ (j i fu:Nat),i+j=l.len→j<fu→∃ fu',LA3x3 (E F (d+1)) F s l x fu l.len (sumW (fiW s l) i) i l.len g=LA3x3 (E F (d+1)) F s l x (fu'+1) l.len (sumW (fiW s l) l.len) l.len l.len g:=by
 intro j
 induction j with
 |zero =>
  intro i fu hij hlt
  obtain⟨fu,rfl⟩:=ex1 (n:=fu) (by omega)
  obtain rfl:l.len=i:=by omega
  exact⟨fu,rfl⟩
 |succ j ih =>
  intro i fu hij hlt
  obtain⟨fu,rfl⟩:=ex1 (n:=fu) (by omega)
  have hS:=wrS (i:=i) (by omega)
  have q:=sG0 F d hn (show i<l.len by omega)
  have b:=sumW_in (f:=fiW s l) (B:=100000000) (by omega) i (fun k hk=>by have:=fiW_in F hn h8 hF hv (show k<l.len by omega);omega)
  have b1:=fiW_in F hn h8 hF hv (show i<l.len by omega)
  obtain⟨fu',h⟩:=ih (i+1) fu (by omega) (by omega)
  refine⟨fu',?_⟩
  rw[LA3x3s,dT (by omega),pT,q]
  simp only[tkOut_ret,tkInt_i,decide_true,pT,hS]
  rw[wr (by omega)]
  exact h
theorem lA3x5 (x:Int) (sh:Nat→Int) (hsh:∀ k,k<l.len→0≤sh k∧sh k≤800000000):∀ (j i fu:Nat) (h:Nat→Int),i+j=l.len→j<fu→(∀ k,k<i→h k=sh k+fiW s l k)→(∀ k,i≤k→h k=sh k)→∃ h',(∀ k,k<l.len→h' k=sh k+fiW s l k)∧LA3x5 (E F (d+1)) F s l x fu l.len l.len i l.len (eI h)=some (.ret (.row false l.len 1 (eI h'))):=by
 intro j
 induction j with
 |zero =>
  intro i fu h hij hlt ha hb
  obtain⟨fu,rfl⟩:=ex1 (n:=fu) (by omega)
  obtain rfl:l.len=i:=by omega
  exact⟨h,ha,by rw[LA3x5s,dF (by omega),pF]⟩
 |succ j ih =>
  intro i fu h hij hlt ha hb
  obtain⟨fu,rfl⟩:=ex1 (n:=fu) (by omega)
  have hS:=wrS (i:=i) (by omega)
  have q:=sG0 F d hn (show i<l.len by omega)
  have b1:=fiW_in F hn h8 hF hv (show i<l.len by omega)
  have b2:=hsh i (by omega)
  have b3:=hb i (Nat.le_refl _)
  obtain⟨h',h1,h2⟩:=ih (i+1) fu (upd h i (sh i+fiW s l i)) (by omega) (by omega) (fun k hk=>by
   by_cases e:k=i
   ·subst e;rw[upd_same]
   ·rw[upd_else e];exact ha k (by omega)) (fun k hk=>by rw[upd_else (by omega)];exact hb k (by omega))
  refine⟨h',h1,?_⟩
  rw[LA3x5s]
  simp (disch:=omega) only[dT,pT,tnC,eI_at,tkCons_c,tkInt_i,q,tkOut_ret,decide_true,hS]
  rw[b3,wr (by omega),upd_eI]
  exact h2
theorem sA3 (h0:0<l.len) (hnl:l.nl=false) {x:Int} (hx:0≤x∧x≤800000000):∃ r:Sl Int,r.nl=false∧r.len=l.len∧(∀ k,k<l.len→0≤r.el k)∧sumW r.el l.len≤x∧(E F (d+5)).pf 178 [.agg (eSto s),sl eInt 1 l,.int .i64 x]=some (.ret (sl eInt 1 r)):=by
 have q1:=sC0 F (d+3) (by omega) (l:=l) h8 (fun k hk=>by have:=hv k hk;omega)
 by_cases hsum:sumW l.el l.len≤x
 ·refine⟨⟨false,l.len,l.el⟩,rfl,rfl,fun k hk=>(hv k hk).1,hsum,?_⟩
  rw[E_pf,tA3,q1]
  simp only[tkOut_ret,tkInt_i,decide_true,pT]
  rw[dT hsum,pT,E_hv,tK6,hnl]
  simp only[pF]
  rw[show (l.len==0)=false by simp;omega,pF,dT (by omega),pT]
  simp only[tkHv_h,tkSl_o,nbr,ttt,pT,tkSCons_c,tkSNil_n,tkArr_a,bqt,Nat.zero_add]
  rfl
 ·have hfn:∀ k,k<l.len→0≤fiW s l k:=fun k hk=>(fiW_in F hn h8 hF hv hk).1
  have hon:∀ k,k<l.len→0≤otW s l k:=fun k hk=>(otW_in F hn h8 hF hv hk).1
  have hW0:=sumW_nn l.len hfn
  have hW1:=sumW_in (f:=fiW s l) (B:=100000000) (by omega) l.len (fun k hk=>by have:=fiW_in F hn h8 hF hv hk;omega)
  obtain⟨F',rfl⟩:∃ k,F=k+1:=⟨F - 1,by omega⟩
  have hg0:∀ k:Nat,k<1→(fun _:Nat=>[V.int .i64 0]) k=[.int .i64 (k:Int)]:=fun k hk=>by
   have h:k=0:=by omega
   subst h
   rfl
  obtain⟨g,hg,e1⟩:=lA3x1 (F'+1) (s:=s) h8 (E (F'+1) (d+4)) x (l.len - 1) 1 F' (fun _=>[.int .i64 0]) (by omega) (by omega) hg0
  obtain⟨fu,e2⟩:=lA3x3 (F'+1) (d+3) hn h8 hF hv x g l.len 0 (F'+1) (by omega) (by omega)
  have z1:IntKind.i64.wrap ((0:Int)+1)=((1:Nat):Int):=wr (by omega)
  have a1:(E (F'+1) (d+5)).pf 178 [.agg (eSto s),sl eInt 1 l,.int .i64 x]=LA3x3 (E (F'+1) (d+4)) (F'+1) s l x (fu+1) l.len (sumW (fiW s l) l.len) l.len l.len g:=by
   rw[E_pf,tA3,q1]
   simp only[tkOut_ret,tkInt_i,decide_true,pT]
   rw[dF hsum,pF,LA3x0s,dT (by omega),pT,z1,e1]
   exact e2
  rw[a1,LA3x3s,dF (by omega),pF]
  by_cases hbig:sumW (fiW s l) l.len>x
  ·have q2:=sA6 (F'+1) (d+3) (by omega) hg h8 hfn (by omega) hx (fun k hk=>sG0 (F'+1) (d+2) hn hk)
   refine⟨⟨false,l.len,fun k=>if k<l.len then shF x (sumW (fiW s l) l.len) (fiW s l) k else 0⟩,rfl,rfl,fun k hk=>?_,?_,?_⟩
   ·dsimp only;rw[if_pos hk];exact shF_nn hx.1 (hfn k hk)
   ·dsimp only;rw[sumW_congr l.len (g:=shF x (sumW (fiW s l) l.len) (fiW s l)) (fun k hk=>if_pos hk)]
    exact shF_all hx.1
   ·rw[dT hbig,pT,q2]
    simp only[tkHv_h,tkSl_o,nbr,ttt,pT,tkSCons_c,tkSNil_n,tkArr_a,tkBox_b,tkCons_c,tkInt_i,tkRow_r,tkNil_n,bqt,tkSame_s]
    rw[tnC]
    rfl
  ·have hx':0≤x - sumW (fiW s l) l.len∧x - sumW (fiW s l) l.len≤800000000:=by omega
   have hO1:=sumW_in (f:=otW s l) (B:=100000000) (by omega) l.len (fun k hk=>by have:=otW_in (F'+1) hn h8 hF hv hk;omega)
   have q2:=sA7 (F'+1) (d+3) (by omega) hg h8 hon (by omega) hx' (fun k hk=>sK2 (F'+1) (d+1) hn hk hv)
   have hs0:∀ k,k<l.len→0≤shF (x - sumW (fiW s l) l.len) (sumW (otW s l) l.len) (otW s l) k:=fun k hk=>shF_nn hx'.1 (hon k hk)
   have hsall:=shF_all (x:=x - sumW (fiW s l) l.len) (f:=otW s l) (n:=l.len) hx'.1
   have hsle:∀ k,k<l.len→shF (x - sumW (fiW s l) l.len) (sumW (otW s l) l.len) (otW s l) k≤800000000:=fun k hk=>by
    have m:=sumW_mono hs0 (k+1) (by omega)
    have m0:=sumW_nn (f:=shF (x - sumW (fiW s l) l.len) (sumW (otW s l) l.len) (otW s l)) k (fun j hj=>hs0 j (by omega))
    simp only[sumW] at m
    omega
   obtain⟨h',e3,e4⟩:=lA3x5 (F'+1) (d+3) hn h8 hF hv x (fun k=>if k<l.len then shF (x - sumW (fiW s l) l.len) (sumW (otW s l) l.len) (otW s l) k else 0) (fun k hk=>by
    show 0≤(if k<l.len then _ else (0:Int))∧(if k<l.len then _ else (0:Int))≤800000000
    rw[if_pos hk];exact⟨hs0 k hk,hsle k hk⟩) l.len 0 (F'+1) (fun k=>if k<l.len then shF (x - sumW (fiW s l) l.len) (sumW (otW s l) l.len) (otW s l) k else 0) (by omega) (by omega) (fun k hk=>absurd hk (by omega)) (fun k _=>rfl)
   have hh:∀ k,k<l.len→h' k=shF (x - sumW (fiW s l) l.len) (sumW (otW s l) l.len) (otW s l) k+fiW s l k:=fun k hk=>by rw[e3 k hk,if_pos hk]
   refine⟨⟨false,l.len,h'⟩,rfl,rfl,fun k hk=>?_,?_,?_⟩
   ·show 0≤h' k
    rw[hh k hk]
    have:=hs0 k hk;have:=hfn k hk;omega
   ·show sumW h' l.len≤x
    rw[sumW_congr l.len (g:=fun k=>shF (x - sumW (fiW s l) l.len) (sumW (otW s l) l.len) (otW s l) k+fiW s l k) hh,sumW_add]
    omega
   ·rw[dF hbig,pF,wr (by omega),q2]
    simp only[tkHv_h,tkSl_o,nbr,ttt,pT,tkSCons_c,tkSNil_n,tkArr_a,tkBox_b,tkCons_c,tkInt_i,tkRow_r,tkNil_n,bqt,tkSame_s,sam_fn]
    rw[tnC]
    exact e4
end
end Go.Sim.Pl

namespace Go.Sim.Pl
open Go.Sim.Le (cfg E E_pf E_hv)
open Go.Proofs
variable (F d:Nat)
theorem app_eI (n:Nat) (f:Nat→Int) (v:Int):appGet n (eI f) (fun _=>[.int .i64 v])=eI (fun k=>if k<n then f k else v):=by
 funext k
 unfold appGet eI
 by_cases h:k<n
 ·simp only[if_pos h]
 ·simp only[if_neg h]
theorem pos_nn (n:Int):0≤pos n:=by unfold pos;split<;>omega
theorem pos_le {n B:Int} (h:n≤B) (hB:0≤B):pos n≤B:=by unfold pos;split<;>omega
theorem sumW_le {f g:Nat→Int}:∀ n,(∀ k,k<n→f k≤g k)→sumW f n≤sumW g n
 |0,_=>Int.le_refl _
 |n+1,h=>by
  have:=sumW_le n (fun k hk=>h k (by omega))
  have:=h n (by omega)
  simp only[sumW];omega
theorem sumW_one {f:Nat→Int} {n k:Nat} (h:∀ k,k<n→0≤f k) (hk:k<n):f k≤sumW f n:=by
 have m:=sumW_mono h (k+1) (by omega)
 have m0:=sumW_nn (f:=f) k (fun j hj=>h j (by omega))
 simp only[sumW] at m
 omega
section
variable (hF:100<F)
include hF
theorem sB3 {l:Sl Int} (h0:0<l.len) (h8:l.len≤8) (hl:∀ k,k<l.len→-1000000000≤l.el k∧l.el k≤1000000000):(E F (d+1)).pf 143 [sl eInt 1 l]=some (.ret (.tup [sl eInt 1 (rowT 0 (fun k=>pos (l.el k)) l.len),sl eInt 1 (rowT 0 (fun k=>pos (-l.el k)) l.len)])):=by
 obtain⟨F',rfl⟩:∃ k,F=k+1:=⟨F - 1,by omega⟩
 have b:=hl 0 h0
 have e1:=lB3x1 (F'+1) (E (F'+1) d) h8 hl (l.len - 1) 1 F' (by omega) (by omega) (by omega)
 have g1:(fun _:Nat=>[V.int .i64 (if (0:Int)<l.el 0 then l.el 0 else 0)])=gl eInt 0 (tabL (fun k=>pos (l.el k)) 1):=gl_one (m:=pos (l.el 0)) rfl
 have g2:(fun _:Nat=>[V.int .i64 (if (0:Int)<0 - l.el 0 then 0 - l.el 0 else 0)])=gl eInt 0 (tabL (fun k=>pos (-l.el k)) 1):=gl_one (m:=pos (-l.el 0)) (by simp[pos])
 have z1:IntKind.i64.wrap ((0:Int)+1)=((1:Nat):Int):=wr (by omega)
 rw[E_pf,tB3,LB3x0s]
 simp (disch:=omega) only[dT,pT,z1,wr]
 rw[g1,g2]
 exact e1
theorem lB4 (e:Env) {a b:Sl Int} (hab:a.len=b.len) (h8:a.len≤8) (ha:∀ k,k<a.len→0≤a.el k∧a.el k≤800000000) (hb:∀ k,k<a.len→0≤b.el k∧b.el k≤800000000):∀ (j i fu:Nat) (h:Nat→Int),i+j=a.len→j<fu→(∀ k,k<i→h k=a.el k - b.el k)→∃ h',(∀ k,k<a.len→h' k=a.el k - b.el k)∧LB4x1 e F a b fu i i i (eI h)=some (.ret (.row false a.len 1 (eI h'))):=by
 intro j
 induction j with
 |zero =>
  intro i fu h hij hlt hh
  obtain⟨fu,rfl⟩:=ex1 (n:=fu) (by omega)
  obtain rfl:a.len=i:=by omega
  exact⟨h,hh,by rw[LB4x1s,dF (by omega),pF]⟩
 |succ j ih =>
  intro i fu h hij hlt hh
  obtain⟨fu,rfl⟩:=ex1 (n:=fu) (by omega)
  have hS:=wrS (i:=i) (by omega)
  have b1:=ha i (by omega)
  have b2:=hb i (by omega)
  obtain⟨h',h1,h2⟩:=ih (i+1) fu (fun k=>if k<i then h k else a.el i - b.el i) (by omega) (by omega) (fun k hk=>by
   by_cases e:k<i
   ·rw[if_pos e];exact hh k e
   ·rw[if_neg e];obtain rfl:k=i:=by omega
    rfl)
  refine⟨h',h1,?_⟩
  rw[LB4x1s]
  simp (disch:=omega) only[dT,pT,tnC,hS]
  rw[wr (n:=a.el i - b.el i) (by omega),app_eI]
  exact h2
theorem sB4 {a b:Sl Int} (h0:0<a.len) (hab:a.len=b.len) (h8:a.len≤8) (ha:∀ k,k<a.len→0≤a.el k∧a.el k≤800000000) (hb:∀ k,k<a.len→0≤b.el k∧b.el k≤800000000):∃ h',(∀ k,k<a.len→h' k=a.el k - b.el k)∧(E F (d+1)).pf 146 [sl eInt 1 a,sl eInt 1 b]=some (.ret (.row false a.len 1 (eI h'))):=by
 obtain⟨F',rfl⟩:∃ k,F=k+1:=⟨F - 1,by omega⟩
 have b1:=ha 0 (by omega)
 have b2:=hb 0 (by omega)
 obtain⟨h',h1,h2⟩:=lB4 (F'+1) hF (E (F'+1) d) hab h8 ha hb (a.len - 1) 1 F' (fun _=>a.el 0 - b.el 0) (by omega) (by omega) (fun k hk=>by
  have h:k=0:=by omega
  subst h;rfl)
 have z1:IntKind.i64.wrap ((0:Int)+1)=((1:Nat):Int):=wr (by omega)
 refine⟨h',h1,?_⟩
 rw[E_pf,tB4,LB4x0s]
 simp (disch:=omega) only[dT,pT,z1,wr]
 exact h2
end
theorem sH3 (hF:1000<F) {s:Sto} {l:Sl Int} (hn:l.len=s.cons.len) (h0:0<l.len) (h8:l.len≤8) (hv:∀ k,k<l.len→-100000000≤l.el k∧l.el k≤100000000) {x y:Int} (hx:0≤x∧x≤800000000) (hy:0≤y∧y≤800000000) :
 ∃ h:Nat→Int,(∀ k,k<l.len→-800000000≤h k∧h k≤800000000)∧sumW (fun k=>pos (h k)) l.len≤x∧sumW (fun k=>pos (-h k)) l.len≤y∧(E F (d+6)).pf 142 [.agg (eSto s),sl eInt 1 l,.int .i64 x,.int .i64 y]=some (.ret (.row false l.len 1 (eI h))):=by
 have q1:=sB3 F (d+4) (by omega) h0 h8 (l:=l) (fun k hk=>by have:=hv k hk;omega)
 obtain⟨ra,ra1,ra2,ra3,ra4,ra5⟩:=sA3 F d (s:=s) (l:=rowT 0 (fun k=>pos (l.el k)) l.len) hn h8 hF (fun k hk=>by
  have hk:k<l.len:=hk
  rw[rowT_el hk];exact⟨pos_nn _,pos_le (hv k hk).2 (by omega)⟩) h0 rfl hx
 obtain⟨rb,rb1,rb2,rb3,rb4,rb5⟩:=sA3 F d (s:=s) (l:=rowT 0 (fun k=>pos (-l.el k)) l.len) hn h8 hF (fun k hk=>by
  have hk:k<l.len:=hk
  rw[rowT_el hk];exact⟨pos_nn _,pos_le (by have:=hv k hk;omega) (by omega)⟩) h0 rfl hy
 have ra2':ra.len=l.len:=ra2
 have rb2':rb.len=l.len:=rb2
 have ra3':∀ k,k<l.len→0≤ra.el k:=ra3
 have rb3':∀ k,k<l.len→0≤rb.el k:=rb3
 have ra4':sumW ra.el l.len≤x:=ra4
 have rb4':sumW rb.el l.len≤y:=rb4
 have ca:∀ k,k<l.len→0≤ra.el k∧ra.el k≤800000000:=fun k hk=>⟨ra3' k hk,by have:=sumW_one ra3' hk;omega⟩
 have cb:∀ k,k<l.len→0≤rb.el k∧rb.el k≤800000000:=fun k hk=>⟨rb3' k hk,by have:=sumW_one rb3' hk;omega⟩
 obtain⟨h,h1,h2⟩:=sB4 F (d+4) (by omega) (a:=ra) (b:=rb) (by omega) (by omega) (by omega) (fun k hk=>ca k (by omega)) (fun k hk=>cb k (by omega))
 rw[ra2'] at h1 h2
 refine⟨h,fun k hk=>?_,?_,?_,?_⟩
 ·rw[h1 k hk];have:=ca k hk;have:=cb k hk;omega
 ·refine Int.le_trans (sumW_le l.len (g:=ra.el) fun k hk=>?_) ra4'
  rw[h1 k hk];have:=ca k hk;have:=cb k hk
  exact pos_le (by omega) (by omega)
 ·refine Int.le_trans (sumW_le l.len (g:=rb.el) fun k hk=>?_) rb4'
  rw[h1 k hk];have:=ca k hk;have:=cb k hk
  exact pos_le (by omega) (by omega)
 ·rw[E_pf,tH3,q1]
  simp only[tkOut_ret,tkTup_t,tkCons_c,tkRow_r,tkNil_n]
  rw[show (V.row (rowT 0 (fun k=>pos (l.el k)) l.len).nl (rowT 0 (fun k=>pos (l.el k)) l.len).len 1 (fun k=>eInt ((rowT 0 (fun k=>pos (l.el k)) l.len).el k)))=sl eInt 1 (rowT 0 (fun k=>pos (l.el k)) l.len) from rfl,ra5]
  simp only[tkOut_ret,tkRow_r]
  rw[show (V.row (rowT 0 (fun k=>pos (-l.el k)) l.len).nl (rowT 0 (fun k=>pos (-l.el k)) l.len).len 1 (fun k=>eInt ((rowT 0 (fun k=>pos (-l.el k)) l.len).el k)))=sl eInt 1 (rowT 0 (fun k=>pos (-l.el k)) l.len) from rfl,rb5]
  simp only[tkOut_ret,tkRow_r]
  rw[show (V.row ra.nl ra.len 1 fun k=>eInt (ra.el k))=sl eInt 1 ra from rfl,show (V.row rb.nl rb.len 1 fun k=>eInt (rb.el k))=sl eInt 1 rb from rfl,h2]
  simp only[tkOut_ret,tkRow_r]
end Go.Sim.Pl

namespace Go.Sim.Pl
open Go.Sim.Le (cfg E E_pf E_hv)
open Go.Proofs
variable (F d:Nat)
theorem sC1 {s:Sto} {dy:Dy} {h:Int} {ow:Int} {fl:Int} {bA:Bool} {nA:Nat} {gA:Nat→List V} {bB:Bool} {nB:Nat} {wB:Nat} {gB:Nat→List V} {bC:Bool} {nC:Nat} {wC:Nat} {gC:Nat→List V} {bD:Bool} {nD:Nat} {wD:Nat} {gD:Nat→List V} {bU:Bool} {nU:Nat} {wU:Nat} {gU:Nat→List V} {bX:Bool} {nX:Nat} {wX:Nat} {gX:Nat→List V} {bY:Bool} {nY:Nat} {wY:Nat} {gY:Nat→List V} {i:Int} {v:Int} (hi:0≤i∧i<s.cons.len) (hA:i<nA) (hg:gA i.toNat=[.int .i64 v]):(E F (d+1)).pf 137 [(.rptr 1 19 (fun u36=>(sd s dy h [(.row bA nA 1 gA),(.int .i64 ow),(.int .i64 fl),(.row bB nB wB gB),(.row bC nC wC gC),(.row bD nD wD gD),(.row bU nU wU gU),(.row bX nX wX gX),(.row bY nY wY gY)])) 0 0),(.int .i64 i)]=some (.ret (.int .i64 (IntKind.i64.wrap ((s.cons.el i.toNat).space - v)))):=by
 rw[E_pf,tC1]
 simp (disch:=omega) only[dT,pT,hg,tkCons_c,tkInt_i,decide_true,beq_self_eq_true]
theorem sG1 {s:Sto} {dy:Dy} {h:Int} {ow:Int} {fl:Int} {bA:Bool} {nA:Nat} {wA:Nat} {gA:Nat→List V} {bB:Bool} {nB:Nat} {wB:Nat} {gB:Nat→List V} {bC:Bool} {nC:Nat} {wC:Nat} {gC:Nat→List V} {bD:Bool} {nD:Nat} {wD:Nat} {gD:Nat→List V} {bU:Bool} {nU:Nat} {wU:Nat} {gU:Nat→List V} {bX:Bool} {nX:Nat} {wX:Nat} {gX:Nat→List V} {bY:Bool} {nY:Nat} {wY:Nat} {gY:Nat→List V} (hi:0≤h∧h<dy.hours.len):(E F (d+1)).pf 141 [(.rptr 1 19 (fun u35=>(sd s dy h [(.row bA nA wA gA),(.int .i64 ow),(.int .i64 fl),(.row bB nB wB gB),(.row bC nC wC gC),(.row bD nD wD gD),(.row bU nU wU gU),(.row bX nX wX gX),(.row bY nY wY gY)])) 0 0)]=some (.ret (.agg (eHr (dy.hours.el h.toNat)))):=by
 rw[E_pf,tG1]
 simp (disch:=omega) only[dT,pT]
theorem lB6 (e:Env) (s:Sto) {l:Sl Nom} (h8:l.len≤200) (k h:Int):∀ (j i fu:Nat) (b:Int),i+j=l.len→j<fu→(-1≤b∧b<l.len)→∃ c:Int,(-1≤c∧c<l.len)∧LB6x0 e F s l k h fu b i=some (.ret (.int .i64 c)):=by
 intro j
 induction j with
 |zero =>
  intro i fu b hij hlt hb
  obtain⟨fu,rfl⟩:=ex1 (n:=fu) (by omega)
  exact⟨b,hb,by rw[LB6x0s,dF (by omega),pF]⟩
 |succ j ih =>
  intro i fu b hij hlt hb
  obtain⟨fu,rfl⟩:=ex1 (n:=fu) (by omega)
  have hS:=wrS (i:=i) (by omega)
  have ih1:=ih (i+1) fu b (by omega) (by omega) hb
  have ih2:=ih (i+1) fu i (by omega) (by omega) (by omega)
  rw[LB6x0s]
  simp (disch:=omega) only[dT,pT,tnC,hS]
  cases (l.el i).con==k
  ·rw[pF];exact ih1
  ·rw[pT]
   cases (l.el i).hour==h
   ·rw[pF];exact ih1
   ·rw[pT]
    cases decide (IntKind.i64.wrap ((l.el i).sent+s.lead)≤h)
    ·rw[pF];exact ih1
    ·rw[pT]
     by_cases hb0:b<0
     ·rw[dT hb0,pT];exact ih2
     ·rw[dF hb0,pF]
      rw[dT (show (0:Int)≤b by omega),pT]
      cases decide ((l.el i).sent≥(l.el b.toNat).sent)
      ·rw[pF];exact ih1
      ·rw[pT];exact ih2
theorem sB6 (hF:1000<F) (s:Sto) {l:Sl Nom} (h8:l.len≤200) (k h:Int):∃ c:Int,(-1≤c∧c<l.len)∧(E F (d+1)).pf 139 [.agg (eSto s),sl eNom 4 l,.int .i64 k,.int .i64 h]=some (.ret (.int .i64 c)):=by
 obtain⟨c,h1,h2⟩:=lB6 F (E F d) s h8 k h l.len 0 F (-1) (by omega) (by omega) (by omega)
 exact⟨c,h1,by rw[E_pf,tB6];exact h2⟩
theorem lC8 (e:Env) {c:Con} (hc:ConOk c) (g:Int):∀ (j i fu:Nat) (x y z:Int),i+j=c.rates.len→j<fu→∃ x' y' z',LC8x0 e F c g fu i x y z=some (.ret (.agg [.int .i64 x',.int .i64 y',.int .i64 z'])):=by
 have h6:=hc.len
 have hs:=hc.space
 intro j
 induction j with
 |zero =>
  intro i fu x y z hij hlt
  obtain⟨fu,rfl⟩:=ex1 (n:=fu) (by omega)
  exact⟨x,y,z,by rw[LC8x0s,dF (by omega),pF]⟩
 |succ j ih =>
  intro i fu x y z hij hlt
  obtain⟨fu,rfl⟩:=ex1 (n:=fu) (by omega)
  have hS:=wrS (i:=i) (by omega)
  rw[LC8x0s]
  simp (disch:=omega) only[dT,pT,tnC,hS]
  rw[dF (show ¬c.space=0 by omega),pF]
  cases decide ((c.rates.el i).fill≤IntKind.i64.wrap ((IntKind.i64.wrap (1000*g)).tdiv c.space))
  ·rw[pF];exact ih (i+1) fu _ _ _ (by omega) (by omega)
  ·rw[pT];exact ih (i+1) fu _ _ _ (by omega) (by omega)
theorem sC8 (hF:1000<F) {c:Con} (hc:ConOk c) (g:Int):∃ x' y' z',(E F (d+1)).pf 140 [.agg (eCon c),.int .i64 g]=some (.ret (.agg [.int .i64 x',.int .i64 y',.int .i64 z'])):=by
 have h6:=hc.len
 obtain⟨x,y,z,h⟩:=lC8 F (E F d) hc g c.rates.len 0 F (c.rates.el 0).fill (c.rates.el 0).inn (c.rates.el 0).out (by omega) (by omega)
 exact⟨x,y,z,by rw[E_pf,tC8,dT (by omega),pT];exact h⟩
theorem part_in {m q r:Int} (hm:m≤100000000):0≤(if (if r<(if q<m then q else m) then r else (if q<m then q else m))<0 then 0 else (if r<(if q<m then q else m) then r else (if q<m then q else m)))∧(if (if r<(if q<m then q else m) then r else (if q<m then q else m))<0 then 0 else (if r<(if q<m then q else m) then r else (if q<m then q else m)))≤100000000:=by
 rw[mnE,mnE,mxE]
 omega
section
variable {s:Sto} {dy:Dy} {h ow fl:Int} (f g:Nat→Int) (bC:Bool) (nC wC:Nat) (gC:Nat→List V) (bD:Bool) (nD wD:Nat) (gD:Nat→List V)
variable (hF:1000<F) (hs:StoOk s) (hd:DyOk s.cons.len dy)
include hF hs hd
theorem lD0:∀ (j i fu:Nat) (w:Nat→Int),i+j=s.cons.len→j<fu→(∀ k,-100000000≤w k∧w k≤100000000)→∃ w',(∀ k,-100000000≤w' k∧w' k≤100000000) ∧
 LD0x0 (E F (d+2)) F s dy h ow fl s.cons.len (eI f) (eI g) bC nC wC gC bD nD wD gD fu i (eI w)=some (.ret (.tup []),[.box 175 (sd s dy h [.osl 1 0 s.cons.len,.int .i64 ow,.int .i64 fl,.osl 2 0 s.cons.len,.row bC nC wC gC,.osl 3 0 s.cons.len,nL,nL,.row bD nD wD gD]) true,.arr 3 1 s.cons.len (eI f) true,.arr 3 1 s.cons.len (eI g) true,.arr 3 1 s.cons.len (eI w') true]):=by
 have h8:=hs.len
 intro j
 induction j with
 |zero =>
  intro i fu w hij hlt hw
  obtain⟨fu,rfl⟩:=ex1 (n:=fu) (by omega)
  exact⟨w,hw,by rw[LD0x0s,dF (by omega),pF];rfl⟩
 |succ j ih =>
  intro i fu w hij hlt hw
  obtain⟨fu,rfl⟩:=ex1 (n:=fu) (by omega)
  have hi:i<s.cons.len:=by omega
  have hS:=wrS (i:=i) (by omega)
  have q1:=sG9 F d (s.cons.el i) h
  obtain⟨c,hc,q2⟩:=sB6 F (d+1) hF s (l:=dy.noms) hd.len.2.1 i h
  obtain⟨x,y,z,q3⟩:=sC8 F (d+1) hF (hs.cons i hi) (f i)
  rw[LD0x0s]
  simp (disch:=omega) only[dT,pT,tnC,hS,q1,tkOut_ret,tkBool_b]
  cases decide (h≥(s.cons.el i).h0∧h≤(s.cons.el i).h1)
  ·rw[pF];exact ih (i+1) fu w (by omega) (by omega) hw
  ·rw[pT,q2]
   simp only[tkOut_ret,tkInt_i,decide_true,pT]
   by_cases hc0:c<0
   ·rw[dT hc0,pT];exact ih (i+1) fu w (by omega) (by omega) hw
   ·rw[dF hc0,pF]
    have hm:=(hd.noms c.toNat (by omega)).2.2.2
    simp (disch:=omega) only[dT,pT,tnC,eI_at,tkCons_c,tkInt_i,q3,tkOut_ret,tkAgg_a,tkNil_n]
    rw[sC1 F (d+1) (v:=f i) ⟨by omega,by omega⟩ (by omega) (by rw[tnC])]
    simp (disch:=omega) only[dT,pT,tnC,tkInt_i,tkOut_ret]
    rw[upd_eI]
    refine ih (i+1) fu _ (by omega) (by omega) (upd_in hw ?_)
    have p1:=part_in (q:=y) (r:=IntKind.i64.wrap ((s.cons.el i).space - f i)) (show (dy.noms.el c.toNat).amount≤100000000 by omega)
    rw[wr (n:=0 - (dy.noms.el c.toNat).amount) (by omega)]
    have p2:=part_in (q:=z) (r:=f i) (show 0 - (dy.noms.el c.toNat).amount≤100000000 by omega)
    rw[wr (by omega)]
    omega
theorem b84:∃ w,(∀ k,-100000000≤w k∧w k≤100000000)∧(E F (d+3)).hv 84 [.optr 0 0 0] [.box 175 (sd s dy h [.osl 1 0 s.cons.len,.int .i64 ow,.int .i64 fl,.osl 2 0 s.cons.len,.row bC nC wC gC,nL,nL,nL,.row bD nD wD gD]) true,.arr 3 1 s.cons.len (eI f) true,.arr 3 1 s.cons.len (eI g) true]=some (.ret (.tup []),[.box 175 (sd s dy h [.osl 1 0 s.cons.len,.int .i64 ow,.int .i64 fl,.osl 2 0 s.cons.len,.row bC nC wC gC,.osl 3 0 s.cons.len,nL,nL,.row bD nD wD gD]) true,.arr 3 1 s.cons.len (eI f) true,.arr 3 1 s.cons.len (eI g) true,.arr 3 1 s.cons.len (eI w) true]):=by
 have h8:=hs.len
 obtain⟨w,hw,q⟩:=lD0 F d f g bC nC wC gC bD nD wD gD hF hs hd (h:=h) (ow:=ow) (fl:=fl) s.cons.len 0 F (fun _=>0) (by omega) (by omega) (fun _=>by omega)
 refine⟨w,hw,?_⟩
 rw[E_hv,tD0,dT (by omega),pT,dT (by omega),pT,dT (by omega),pT,dT (by omega),pT]
 exact q
end
end Go.Sim.Pl

namespace Go.Sim.Pl
open Go.Sim.Le (cfg E E_pf E_hv)
open Go.Proofs
variable (F d:Nat)
theorem sH4 (n:Int):(E F (d+1)).pf 145 [.int .i64 n]=some (.ret (.int .i64 n)):=by rw[E_pf,tH4]
section
variable {s:Sto} {dy:Dy} {h ow fl:Int} (f g:Nat→Int) (bC:Bool) (nC wC:Nat) (gC:Nat→List V) (bD:Bool) (nD wD:Nat) (gD:Nat→List V)
variable (hF:1000<F) (hs:StoOk s) (hd:DyOk s.cons.len dy) (h0:0<s.cons.len) (hh:0≤h∧h<dy.hours.len)
include hF hs hd h0 hh
theorem b85 {w:Nat→Int} (hw:∀ k,-100000000≤w k∧w k≤100000000):∃ a:Nat→Int,(∀ k,k<s.cons.len→-800000000≤a k∧a k≤800000000)∧sumW (fun k=>pos (a k)) s.cons.len≤(dy.hours.el h.toNat).inn∧sumW (fun k=>pos (-a k)) s.cons.len≤(dy.hours.el h.toNat).out ∧
 (E F (d+7)).hv 85 [.optr 0 0 0] [.box 175 (sd s dy h [.osl 1 0 s.cons.len,.int .i64 ow,.int .i64 fl,.osl 2 0 s.cons.len,.row bC nC wC gC,.osl 3 0 s.cons.len,nL,nL,.row bD nD wD gD]) true,.arr 3 1 s.cons.len (eI f) true,.arr 3 1 s.cons.len (eI g) true,.arr 3 1 s.cons.len (eI w) true]=some (.ret (.tup []),[.box 175 (sd s dy h [.osl 1 0 s.cons.len,.int .i64 ow,.int .i64 fl,.osl 2 0 s.cons.len,.row bC nC wC gC,.row false s.cons.len 1 (eI w),.row false s.cons.len 1 (eI a),nL,.row bD nD wD gD]) true,.arr 3 1 s.cons.len (eI f) true,.arr 3 1 s.cons.len (eI g) true,.dead]):=by
 have hr:=hd.hours h.toNat (by omega)
 obtain⟨a,a1,a2,a3,a4⟩:=sH3 F d hF (s:=s) (l:=⟨false,s.cons.len,w⟩) rfl h0 hs.len (fun k _=>hw k) hr.1 hr.2.1
 refine⟨a,a1,a2,a3,?_⟩
 have a5:(E F (d+6)).pf 142 [.agg (eSto s),.row false s.cons.len 1 (fun u=>eI w u),.int .i64 (dy.hours.el h.toNat).inn,.int .i64 (dy.hours.el h.toNat).out]=some (.ret (.row false s.cons.len 1 (eI a))):=a4
 rw[E_hv,tK9,sG1 F (d+5) hh]
 simp only[tkOut_ret,tkAgg_a,tkCons_c,tkInt_i,tkNil_n,a5,tkRow_r]
theorem b86 {a:Nat→Int} (bU:Bool) (nU wU:Nat) (gU:Nat→List V) (ha:∀ k,k<s.cons.len→-800000000≤a k∧a k≤800000000) (ha1:sumW (fun k=>pos (a k)) s.cons.len≤(dy.hours.el h.toNat).inn) (ha2:sumW (fun k=>pos (-a k)) s.cons.len≤(dy.hours.el h.toNat).out) :
 ∃ (p:Nat→Int) (ow':Int),(∀ k,k<s.cons.len→-800000000≤p k∧p k≤800000000)∧sumW (fun k=>pos (p k)) s.cons.len≤(dy.hours.el h.toNat).inn∧sumW (fun k=>pos (p k)) s.cons.len≤(dy.hours.el h.toNat).fin ∧
 (E F (d+7)).hv 86 [.optr 0 0 0] [.box 175 (sd s dy h [.osl 1 0 s.cons.len,.int .i64 ow,.int .i64 fl,.osl 2 0 s.cons.len,.row bC nC wC gC,.row bU nU wU gU,.row false s.cons.len 1 (eI a),nL,.row bD nD wD gD]) true,.arr 3 1 s.cons.len (eI f) true,.arr 3 1 s.cons.len (eI g) true]=some (.ret (.tup []),[.box 175 (sd s dy h [.osl 1 0 s.cons.len,.int .i64 ow',.int .i64 fl,.osl 2 0 s.cons.len,.row bC nC wC gC,.row bU nU wU gU,.row false s.cons.len 1 (eI a),.row false s.cons.len 1 (eI p),.row bD nD wD gD]) true,.arr 3 1 s.cons.len (eI f) true,.arr 3 1 s.cons.len (eI g) true]):=by
 have h8:=hs.len
 obtain⟨i1,i2,i3,i4⟩:=hd.hours h.toNat (by omega)
 have q1:=sB3 F (d+5) (by omega) (l:=⟨false,s.cons.len,a⟩) h0 h8 (fun k hk=>by have:=ha k hk;show -1000000000≤a k∧a k≤1000000000;omega)
 have n1:∀ k,k<s.cons.len→0≤pos (a k):=fun k _=>pos_nn _
 have n2:∀ k,k<s.cons.len→0≤pos (-a k):=fun k _=>pos_nn _
 have r1:∀ k,k<s.cons.len→(rowT 0 (fun k=>pos (a k)) s.cons.len).el k=pos (a k):=fun k hk=>rowT_el hk
 have r2:∀ k,k<s.cons.len→(rowT 0 (fun k=>pos (-a k)) s.cons.len).el k=pos (-a k):=fun k hk=>rowT_el hk
 have s1:=sumW_congr s.cons.len r1
 have s2:=sumW_congr s.cons.len r2
 have t1:=sumW_nn s.cons.len n1
 have t2:=sumW_nn s.cons.len n2
 have q2:=sC0 F (d+5) (by omega) (l:=rowT 0 (fun k=>pos (a k)) s.cons.len) h8 (fun k hk=>by
  have hk:k<s.cons.len:=hk
  rw[r1 k hk];have:=ha k hk;have:=pos_nn (a k);have:=pos_le (n:=a k) (B:=800000000) (by omega) (by omega);omega)
 have q3:=sC0 F (d+5) (by omega) (l:=rowT 0 (fun k=>pos (-a k)) s.cons.len) h8 (fun k hk=>by
  have hk:k<s.cons.len:=hk
  rw[r2 k hk];have:=ha k hk;have:=pos_nn (-a k);have:=pos_le (n:=-a k) (B:=800000000) (by omega) (by omega);omega)
 have e1:sumW (rowT 0 (fun k=>pos (a k)) s.cons.len).el (rowT 0 (fun k=>pos (a k)) s.cons.len).len=sumW (fun k=>pos (a k)) s.cons.len:=s1
 have e2:sumW (rowT 0 (fun k=>pos (-a k)) s.cons.len).el (rowT 0 (fun k=>pos (-a k)) s.cons.len).len=sumW (fun k=>pos (-a k)) s.cons.len:=s2
 rw[e1] at q2
 rw[e2] at q3
 generalize hx:(if sumW (fun k=>pos (a k)) s.cons.len<(dy.hours.el h.toNat).fin then sumW (fun k=>pos (a k)) s.cons.len else (dy.hours.el h.toNat).fin)=x
 generalize hy:(if sumW (fun k=>pos (-a k)) s.cons.len<(dy.hours.el h.toNat).fout then sumW (fun k=>pos (-a k)) s.cons.len else (dy.hours.el h.toNat).fout)=y
 have mx:=hx
 have my:=hy
 rw[mnE] at mx my
 have q4:=sA5 F (d+5) (x:=x) (l:=rowT 0 (fun k=>pos (a k)) s.cons.len) (by omega) (f:=(rowT 0 (fun k=>pos (a k)) s.cons.len).el) h8 (fun k hk=>by rw[r1 k hk];exact pos_nn _) (by rw[e1];omega) (by omega) (fun k _=>sH4 F (d+4) _)
 have q5:=sA5 F (d+5) (x:=y) (l:=rowT 0 (fun k=>pos (-a k)) s.cons.len) (by omega) (f:=(rowT 0 (fun k=>pos (-a k)) s.cons.len).el) h8 (fun k hk=>by rw[r2 k hk];exact pos_nn _) (by rw[e2];omega) (by omega) (fun k _=>sH4 F (d+4) _)
 have f1:∀ k,k<s.cons.len→0≤shF x (sumW (rowT 0 (fun k=>pos (a k)) s.cons.len).el s.cons.len) (rowT 0 (fun k=>pos (a k)) s.cons.len).el k:=fun k hk=>shF_nn (by omega) (by rw[r1 k hk];exact pos_nn _)
 have f2:∀ k,k<s.cons.len→0≤shF y (sumW (rowT 0 (fun k=>pos (-a k)) s.cons.len).el s.cons.len) (rowT 0 (fun k=>pos (-a k)) s.cons.len).el k:=fun k hk=>shF_nn (by omega) (by rw[r2 k hk];exact pos_nn _)
 have g1:=shF_all (x:=x) (f:=(rowT 0 (fun k=>pos (a k)) s.cons.len).el) (n:=s.cons.len) (by omega)
 have g2:=shF_all (x:=y) (f:=(rowT 0 (fun k=>pos (-a k)) s.cons.len).el) (n:=s.cons.len) (by omega)
 obtain⟨p,p1,p2⟩:=sB4 F (d+5) (by omega) (a:=⟨false,s.cons.len,fun k=>if k<s.cons.len then shF x (sumW (rowT 0 (fun k=>pos (a k)) s.cons.len).el s.cons.len) (rowT 0 (fun k=>pos (a k)) s.cons.len).el k else 0⟩) (b:=⟨false,s.cons.len,fun k=>if k<s.cons.len then shF y (sumW (rowT 0 (fun k=>pos (-a k)) s.cons.len).el s.cons.len) (rowT 0 (fun k=>pos (-a k)) s.cons.len).el k else 0⟩) h0 rfl h8
  (fun k hk=>by
   have hk:k<s.cons.len:=hk
   simp only[if_pos hk];exact⟨f1 k hk,Int.le_trans (sumW_one f1 hk) (by omega)⟩)
  (fun k hk=>by
   have hk:k<s.cons.len:=hk
   simp only[if_pos hk];exact⟨f2 k hk,Int.le_trans (sumW_one f2 hk) (by omega)⟩)
 have p3:∀ k,k<s.cons.len→p k=shF x (sumW (rowT 0 (fun k=>pos (a k)) s.cons.len).el s.cons.len) (rowT 0 (fun k=>pos (a k)) s.cons.len).el k - shF y (sumW (rowT 0 (fun k=>pos (-a k)) s.cons.len).el s.cons.len) (rowT 0 (fun k=>pos (-a k)) s.cons.len).el k:=fun k hk=>by
  have:=p1 k hk
  simp only[if_pos hk] at this
  exact this
 have p4:sumW (fun k=>pos (p k)) s.cons.len≤x:=by
  refine Int.le_trans (sumW_le s.cons.len fun k hk=>?_) g1
  rw[p3 k hk];have:=f1 k hk;have:=f2 k hk
  exact pos_le (by omega) (by omega)
 refine⟨p,IntKind.i64.wrap (ow+IntKind.i64.wrap (IntKind.i64.wrap ((dy.hours.el h.toNat).fin - x) - IntKind.i64.wrap ((dy.hours.el h.toNat).fout - y))),fun k hk=>?_,by omega,by omega,?_⟩
 ·have c1:=f1 k hk;have c2:=f2 k hk;have c3:=sumW_one f1 hk;have c4:=sumW_one f2 hk
  rw[p3 k hk];omega
 ·rw[E_hv,tM0,sG1 F (d+5) hh]
  have q1':(E F (d+6)).pf 143 [.row false s.cons.len 1 (eI a)]=some (.ret (.tup [sl eInt 1 (rowT 0 (fun k=>pos (a k)) s.cons.len),sl eInt 1 (rowT 0 (fun k=>pos (-a k)) s.cons.len)])):=q1
  simp only[tkOut_ret,tkAgg_a,tkCons_c,tkInt_i,tkNil_n,q1',tkTup_t,tkRow_r]
  have q2':(E F (d+6)).pf 144 [.row (rowT 0 (fun k=>pos (a k)) s.cons.len).nl (rowT 0 (fun k=>pos (a k)) s.cons.len).len 1 fun i=>eInt ((rowT 0 (fun k=>pos (a k)) s.cons.len).el i)]=_:=q2
  have q3':(E F (d+6)).pf 144 [.row (rowT 0 (fun k=>pos (-a k)) s.cons.len).nl (rowT 0 (fun k=>pos (-a k)) s.cons.len).len 1 fun i=>eInt ((rowT 0 (fun k=>pos (-a k)) s.cons.len).el i)]=_:=q3
  rw[q2',tkOut_ret,tkInt_i,q3',tkOut_ret,tkInt_i,hx,hy]
  have q4':(E F (d+6)).hv 147 [.int .i64 x,.row (rowT 0 (fun k=>pos (a k)) s.cons.len).nl (rowT 0 (fun k=>pos (a k)) s.cons.len).len 1 fun i=>eInt ((rowT 0 (fun k=>pos (a k)) s.cons.len).el i),.fn (.func 145) [] []] []=_:=q4
  have q5':(E F (d+6)).hv 147 [.int .i64 y,.row (rowT 0 (fun k=>pos (-a k)) s.cons.len).nl (rowT 0 (fun k=>pos (-a k)) s.cons.len).len 1 fun i=>eInt ((rowT 0 (fun k=>pos (-a k)) s.cons.len).el i),.fn (.func 145) [] []] []=_:=q5
  rw[q4']
  simp only[tkHv_h,tkSl_o,nbr,ttt,pT,tkSCons_c,tkSNil_n,tkArr_a,bqt]
  rw[q5']
  simp only[tkHv_h,tkSl_o,nbr,ttt,pT,tkSCons_c,tkSNil_n,tkArr_a,bqt]
  have p2':(E F (d+6)).pf 146 [.row false (Int.toNat ((rowT 0 (fun k=>pos (a k)) s.cons.len).len:Int)) 1 (fun u=>shR x (rowT 0 (fun k=>pos (a k)) s.cons.len).el (rowT 0 (fun k=>pos (a k)) s.cons.len).len u),.row false (Int.toNat ((rowT 0 (fun k=>pos (-a k)) s.cons.len).len:Int)) 1 (fun u=>shR y (rowT 0 (fun k=>pos (-a k)) s.cons.len).el (rowT 0 (fun k=>pos (-a k)) s.cons.len).len u)]=some (.ret (.row false s.cons.len 1 (eI p))):=p2
  rw[p2']
  simp only[tkOut_ret,tkRow_r,decide_true,pT]
omit hd hh h0 in
theorem lE9 (bU:Bool) (nU wU:Nat) (gU:Nat→List V) (bX:Bool) (nX wX:Nat) (gX:Nat→List V) (p:Nat→Int) (e:Env):∀ (j i fu:Nat) (q:Int) (f':Nat→Int),i+j=s.cons.len→j<fu→∃ f'' fl',LE9x0 e F s dy h ow fl s.cons.len (eI f) (eI g) bC nC wC gC bD nD wD gD bU nU wU gU bX nX wX gX false s.cons.len 1 (eI p) fu i q (eI f')=some (.ret (.tup []),[.box 175 (sd s dy h [.osl 1 0 s.cons.len,.int .i64 ow,.int .i64 fl',.osl 2 0 s.cons.len,.row bC nC wC gC,.row bU nU wU gU,.row bX nX wX gX,.row false s.cons.len 1 (eI p),.row bD nD wD gD]) true,.arr 3 1 s.cons.len (eI f'') true,.arr 3 1 s.cons.len (eI g) true]):=by
 have h8:=hs.len
 intro j
 induction j with
 |zero =>
  intro i fu q f' hij hlt
  obtain⟨fu,rfl⟩:=ex1 (n:=fu) (by omega)
  exact⟨f',q,by rw[LE9x0s,dF (by omega),pF]⟩
 |succ j ih =>
  intro i fu q f' hij hlt
  obtain⟨fu,rfl⟩:=ex1 (n:=fu) (by omega)
  have hS:=wrS (i:=i) (by omega)
  rw[LE9x0s]
  simp (disch:=omega) only[dT,pT,tnC,hS,beq_self_eq_true,eI_at,tkCons_c,tkInt_i,decide_true]
  rw[upd_eI]
  exact ih (i+1) fu _ _ (by omega) (by omega)
omit hd hh h0 in
theorem b87 (bU:Bool) (nU wU:Nat) (gU:Nat→List V) (bX:Bool) (nX wX:Nat) (gX:Nat→List V) (p:Nat→Int):∃ f' fl',(E F (d+1)).hv 87 [.optr 0 0 0] [.box 175 (sd s dy h [.osl 1 0 s.cons.len,.int .i64 ow,.int .i64 fl,.osl 2 0 s.cons.len,.row bC nC wC gC,.row bU nU wU gU,.row bX nX wX gX,.row false s.cons.len 1 (eI p),.row bD nD wD gD]) true,.arr 3 1 s.cons.len (eI f) true,.arr 3 1 s.cons.len (eI g) true]=some (.ret (.tup []),[.box 175 (sd s dy h [.osl 1 0 s.cons.len,.int .i64 ow,.int .i64 fl',.osl 2 0 s.cons.len,.row bC nC wC gC,.row bU nU wU gU,.row bX nX wX gX,.row false s.cons.len 1 (eI p),.row bD nD wD gD]) true,.arr 3 1 s.cons.len (eI f') true,.arr 3 1 s.cons.len (eI g) true]):=by
 have h8:=hs.len
 obtain⟨f',fl',q⟩:=lE9 F (h:=h) (ow:=ow) (fl:=fl) (dy:=dy) f g bC nC wC gC bD nD wD gD hF hs bU nU wU gU bX nX wX gX p (E F d) s.cons.len 0 F fl f (by omega) (by omega)
 exact⟨f',fl',by rw[E_hv,tE9];exact q⟩
omit hd hh h0 in
theorem lD1 (w a p:Nat→Int):∀ (j i fu:Nat) (g':Nat→Int),i+j=s.cons.len→j<fu→∃ g'',LD1x0 (E F (d+2)) F s dy h ow fl s.cons.len (eI f) (eI g) bC nC wC gC bD nD wD gD false s.cons.len 1 (eI w) false s.cons.len 1 (eI a) false s.cons.len 1 (eI p) fu i (eI g')=some (.ret (.tup []),[.box 175 (sd s dy h [.osl 1 0 s.cons.len,.int .i64 ow,.int .i64 fl,.osl 2 0 s.cons.len,.row bC nC wC gC,.row false s.cons.len 1 (eI w),.row false s.cons.len 1 (eI a),.row false s.cons.len 1 (eI p),.row bD nD wD gD]) true,.arr 3 1 s.cons.len (eI f) true,.arr 3 1 s.cons.len (eI g'') true]):=by
 have h8:=hs.len
 intro j
 induction j with
 |zero =>
  intro i fu g' hij hlt
  obtain⟨fu,rfl⟩:=ex1 (n:=fu) (by omega)
  exact⟨g',by rw[LD1x0s,dF (by omega),pF]⟩
 |succ j ih =>
  intro i fu g' hij hlt
  obtain⟨fu,rfl⟩:=ex1 (n:=fu) (by omega)
  have hS:=wrS (i:=i) (by omega)
  have q1:=sG9 F d (s.cons.el i) h
  rw[LD1x0s]
  simp (disch:=omega) only[dT,pT,tnC,hS,q1,tkOut_ret,tkBool_b]
  cases decide (h≥(s.cons.el i).h0∧h≤(s.cons.el i).h1)
  ·rw[pF];exact ih (i+1) fu _ (by omega) (by omega)
  ·rw[pT]
   simp (disch:=omega) only[dT,pT,tnC,beq_self_eq_true,eI_at,tkCons_c,tkInt_i,decide_true]
   rw[upd_eI]
   cases (s.cons.el i).firm
   ·rw[pF];exact ih (i+1) fu _ (by omega) (by omega)
   ·rw[pT,eI_at]
    simp only[tkCons_c,tkInt_i,decide_true,pT]
    rw[upd_eI]
    exact ih (i+1) fu _ (by omega) (by omega)
omit hd hh h0 in
theorem b88 (w a p:Nat→Int):∃ g',(E F (d+3)).hv 88 [.optr 0 0 0] [.box 175 (sd s dy h [.osl 1 0 s.cons.len,.int .i64 ow,.int .i64 fl,.osl 2 0 s.cons.len,.row bC nC wC gC,.row false s.cons.len 1 (eI w),.row false s.cons.len 1 (eI a),.row false s.cons.len 1 (eI p),.row bD nD wD gD]) true,.arr 3 1 s.cons.len (eI f) true,.arr 3 1 s.cons.len (eI g) true]=some (.ret (.tup []),[.box 175 (sd s dy h [.osl 1 0 s.cons.len,.int .i64 ow,.int .i64 fl,.osl 2 0 s.cons.len,.row bC nC wC gC,.row false s.cons.len 1 (eI w),.row false s.cons.len 1 (eI a),.row false s.cons.len 1 (eI p),.row bD nD wD gD]) true,.arr 3 1 s.cons.len (eI f) true,.arr 3 1 s.cons.len (eI g') true]):=by
 have h8:=hs.len
 obtain⟨g',q⟩:=lD1 F d (h:=h) (ow:=ow) (fl:=fl) (dy:=dy) f g bC nC wC gC bD nD wD gD hF hs w a p s.cons.len 0 F g (by omega) (by omega)
 exact⟨g',by rw[E_hv,tD1];exact q⟩
end
end Go.Sim.Pl
