import Derived.Test.YtnhhcobpkblchaaGreatAk
set_option linter.unusedVariables false
set_option linter.unusedSimpArgs false
set_option linter.unusedSectionVars false
set_option maxRecDepth 100000
namespace Go.Sim.Le
open Go.RowKit Go.Proofs
theorem c82 (F d:Nat):(E (F+3000) (d+12)).pf 165 [C1,S1,O1]=some (.ret (.tup [.agg [zI 1800,zI 1900,zI 90,zI 100,zI 3000,zI 3100,zI 45000,zI 54299],.agg [zI 200,zI 201,zI 9,zI 10,zI 4751,zI 6000]])):=by
 rw[E_pf,← quick_eq]
 kernel_rfl
end Go.Sim.Le

set_option maxRecDepth 100000
namespace Go.Sim.Le
open Go.RowKit Go.Proofs
noncomputable def stepE (F:Nat) (e:Env):Env:={ pf:=fun f a=>evFun Tryz.prog (cfg F) e f a,hv:=fun f a hp=>evFunH Tryz.prog (cfg F) e f a hp }
theorem E_step (F d:Nat):E F (d+1)=stepE F (E F d):=by kernel_rfl
def i64s:List V→Option (List Int)
 |[]=>some []
 |.int .i64 x :: r=>(match i64s r with | some l=>some (x :: l) | none=>none)
 |_=>none
theorem i64s_eq:∀ (l:List V) (k:List Int),i64s l=some k→l=k.map (V.int .i64)
 |[],k,h=>by
  injection h with h;subst h;rfl
 |.int .i64 x :: r,k,h=>by
  unfold i64s at h
  split at h
  ·rename_i l e
   injection h with h;subst h
   rw[i64s_eq r l e];rfl
  ·cases h
def isInts (l:List V) (k:List Int):Bool:=match i64s l with
 |some m=>m==k
 |none=>false
theorem isInts_eq {l:List V} {k:List Int} (h:isInts l k=true):l=k.map (V.int .i64):=by
 unfold isInts at h
 split at h
 ·rename_i m e
  rw[i64s_eq _ _ e,eq_of_beq h]
 ·cases h
abbrev L1:V:=.agg [zI 1800,zI 1900,zI 90,zI 100,zI 3000,zI 3100,zI 45000,zI 54299]
abbrev G1:V:=.agg [zI 200,zI 201,zI 9,zI 10,zI 4751,zI 6000]
noncomputable def knows82 (e:Env) (f:Nat) (a:List V):Option Out:=match a with
 |[.agg x,.agg y,.agg z]=>bif f==165 && (isInts x [1000,1100,2000,9000,900,1000,36,29,3200,0,100] && (isInts y [2000,2100,100,110,3000,3100,50000,60000] && isInts z [2,0,0,0,0,210,0,0,0,0])) then some (.ret (.tup [L1,G1])) else e.pf f a
 |a=>e.pf f a
noncomputable def with82 (e:Env):Env:={ e with pf:=knows82 e }
theorem with82xeq (F d:Nat):with82 (E (F+3000) (d+12))=E (F+3000) (d+12):=by
 have h:knows82 (E (F+3000) (d+12))=(E (F+3000) (d+12)).pf:=by
  funext f a
  unfold knows82
  split
  ·refine cond_or fun hb=>?_
   simp only[Bool.and_eq_true] at hb
   obtain⟨e0,e1,e2,e3⟩:=hb
   obtain rfl:=eq_of_beq e0
   rw[isInts_eq e1,isInts_eq e2,isInts_eq e3]
   exact (c82 F d).symm
  ·rfl
 unfold with82
 rw[h]
theorem c39 (F d:Nat):(E (F+3000) (d+15)).pf 51 [C1,S1,O1]=some (.ret (.tup [L1,G1,.bool true])):=by
 rw[E_pf,E_step,E_step,← with82xeq]
 kernel_rfl
noncomputable def knows39 (e:Env) (f:Nat) (a:List V):Option Out:=match a with
 |[.agg x,.agg y,.agg z]=>bif f==51 && (isInts x [1000,1100,2000,9000,900,1000,36,29,3200,0,100] && (isInts y [2000,2100,100,110,3000,3100,50000,60000] && isInts z [2,0,0,0,0,210,0,0,0,0])) then some (.ret (.tup [L1,G1,.bool true])) else e.pf f a
 |a=>e.pf f a
noncomputable def with39 (e:Env):Env:={ e with pf:=knows39 e }
theorem with39xeq (F d:Nat):with39 (E (F+3000) (d+15))=E (F+3000) (d+15):=by
 have h:knows39 (E (F+3000) (d+15))=(E (F+3000) (d+15)).pf:=by
  funext f a
  unfold knows39
  split
  ·refine cond_or fun hb=>?_
   simp only[Bool.and_eq_true] at hb
   obtain⟨e0,e1,e2,e3⟩:=hb
   obtain rfl:=eq_of_beq e0
   rw[isInts_eq e1,isInts_eq e2,isInts_eq e3]
   exact (c39 F d).symm
  ·rfl
 unfold with39
 rw[h]
theorem c19 (F d:Nat):(E (F+3000) (d+16)).pf 17 [C1,S1,O1]=some (.ret (.tup [L1,G1,zI 0])):=by
 rw[E_pf,← with39xeq]
 kernel_rfl
end Go.Sim.Le

namespace Go.Sim.Le
open Go.Proofs
theorem tkTup_t {R:Type} (l:List V) (fail:R) (k:List V→R):tkTup (.tup l) fail k=k l:=by rw[tkTup]
variable (F d:Nat)
def D1:V:=.row false 2 3 (fun u201=>(List.take 3 (List.drop ((Min.min u201 1)*3) [(.int .i64 (0:Int)),(.bool true),(.int .i64 (2:Int)),(.int .i64 (0:Int)),(.bool true),(.int .i64 (2:Int))])))
set_option maxRecDepth 100000 in
theorem c20:(E (F+3000) (d+5)).pf 18 []=some (.ret C1):=by kernel_rfl
set_option maxRecDepth 100000 in
theorem c21:(E (F+3000) (d+5)).pf 19 []=some (.ret S1):=by kernel_rfl
set_option maxRecDepth 100000 in
theorem c22:(E (F+3000) (d+20)).pf 20 [D1,.int .i64 9,.int .i64 1]=some (.ret (.tup [.int .i64 1,.int .i64 0])):=by kernel_rfl
theorem zero3:(V.row false 3 1 (fun u36=>(List.take 1 (List.drop ((Min.min u36 2)*1) [(V.int .i64 (0:Int)),(.int .i64 (0:Int)),(.int .i64 (0:Int))]))))=sl eInt 1 (ex3 0 0 0):=by
 refine congrArg (fun g=>V.row false 3 1 g) ?_
 funext i
 match i with
 |0=>rfl
 |1=>rfl
 |i+2=>rw[show Min.min (i+2) 2=2 by omega];rfl
set_option maxRecDepth 100000 in
theorem sK5:(E (F+3000) (d+25)).pf 4 []=some (.ret (.bool true)):=by
 have hB3:exC.slices.len<Big:=by decide +kernel
 have hF3:exC.slices.len<F+3000:=by show 3<F+3000;omega
 have q17:=s54 (F+3000) (d+23)
 have q18:=s55 (F+3000) (d+23)
 have q15:(E (F+3000) (d+24)).pf 14 [.agg (eCav exC),sl eStg 4 ⟨false,1,fun _=>exB⟩,sl eInt 1 (ex3 0 0 0),.int .i64 1]=_:=s22 (F+3000) (d+9) exC ⟨false,1,fun _=>exB⟩ (ex3 0 0 0) 1 hB3 hF3 (by decide +kernel) (by show 1<F+3000;omega) (by decide +kernel) (by show 3<F+3000;omega) (by omega)
 have herr:errP exC ⟨false,1,fun _=>exB⟩ (decide (WtOk exC (ex3 0 0 0) 1))=0:=by decide +kernel
 rw[herr,if_pos rfl,show boundS exC (Sl.el ⟨false,1,fun _=>exB⟩) ⟨ex3 0 0 0,1⟩ (Sl.len ⟨false,1,fun _=>exB⟩)=⟨20000,45000⟩ from kBound] at q15
 have q20:=c20 F (d+19)
 have q21:=c21 F (d+19)
 have q19:(E (F+3000) (d+24)).pf 17 [C1,S1,O1]=_:=c19 F (d+8)
 have q22:=c22 F (d+4)
 unfold D1 at q22
 rw[E_pf,tK5]
 simp only[q17,q18,tkOut_ret,tkAgg_a,tkCons_c,tkRow_r,tkInt_i,tkNil_n]
 rw[zero3]
 rw[show ([V.agg [V.row exC.slices.nl exC.slices.len 7 fun i=>eSlc (exC.slices.el i),.int .i64 exC.hold,.int .i64 exC.oil],V.row false 1 4 fun _=>[V.int .i64 exB.water,.int .i64 exB.into,.int .i64 exB.out,.int .i64 exB.blanket],sl eInt 1 (ex3 0 0 0),V.int .i64 1]:List V)=[.agg (eCav exC),sl eStg 4 ⟨false,1,fun _=>exB⟩,sl eInt 1 (ex3 0 0 0),.int .i64 1] from rfl,q15]
 simp only[q20,q21,tkOut_ret,tkTup_t,tkAgg_a,tkCons_c,tkInt_i,tkNil_n]
 rw[q19]
 simp only[tkOut_ret,tkTup_t,tkAgg_a,tkCons_c,tkInt_i,tkNil_n]
 rw[q22]
 simp only[tkOut_ret,tkTup_t,tkAgg_a,tkCons_c,tkInt_i,tkNil_n]
 rfl
end Go.Sim.Le

set_option maxHeartbeats 4000000
set_option maxRecDepth 100000
namespace Go.Sim.Pl
open Go.Sim.Le (cfg E E_pf E_hv)
open Go.Proofs
variable (F d:Nat)
theorem z6 (hF:0<F):(E F (d+1)).pf 6 [nL]=some (.ret (.bool true)):=by
 obtain⟨F',rfl⟩:∃ k,F=k+1:=⟨F - 1,by omega⟩
 rw[E_pf,tG6 _ _ 0,LG6x0s]
theorem z115 (hF:0<F):(E F (d+1)).pf 115 [nL,.fn (.func 116) [] []]=some (.ret (.bool true)):=by
 obtain⟨F',rfl⟩:∃ k,F=k+1:=⟨F - 1,by omega⟩
 rw[E_pf,tG7 _ _ 0,LG7x0s]
section
variable {l:Sl Mach} {sc:Sl (Sl Int)} (hF:1000<F) (hl:PlantOk l) (hs:SchedOk l 0 sc) (hB:(l.len<Big∧l.len<F)∧RowsB l F) (hS:SchB sc F)
include hF hl hs hB hS
theorem z59:(E F (d+8)).pf 59 [sl eMach 10 l,nL]=some (.ret (.int .i64 0)):=by
 have q1:=s80 F d l hB.1.1 hB.1.2 hB.2
 have q2:=z115 F (d+6) (by omega)
 rw[E_pf,tM6,q1,tkOut_ret,tkBool_b,dT hl,Bool.not_true,pF,q2]
 rfl
theorem z31:(E F (d+9)).pf 31 [sl eMach 10 l,nL,sl eIL 1 sc]=some (.ret (.int .i64 0)):=by
 have q1:=z59 F d hF hl hs hB hS
 have q2:(E F (d+8)).pf 60 [sl eIL 1 sc,.fn (.func 61) [] [.rptr 1 1 (fun _=>[sl eMach 10 l]) 0 0]]=some (.ret (.bool (allF (fun i=>decide (DoesOk l.len (sc.el i))) sc.len 0))):=by
  rw[E_pf,t91]
  exact l91 F (d+4) sc l hS.1.1 hS.2 sc.len 0 F (by omega) hS.1.2
 rw[allF_dec,dT (fun i hi=>dT (hs.1 i hi))] at q2
 rw[E_pf,tM7,q1,tkOut_ret,tkInt_i,dT rfl,pT,show ((0:Int) != 0)=false from rfl,pF,show (((sc.len:Nat):Int) != ((0:Nat):Int))=false by simp[hs.2],pF,q2]
 rfl
theorem z32:(E F (d+3)).pf 32 [sl eMach 10 l,nL,sl eIL 1 sc]=some (.ret (.tup [.agg [.int .i64 0,.int .i64 1,.int .i64 0],.agg [.int .i64 0,.int .i64 0],.int .i64 0])):=by
 have q1:=s76 F d l (by have:=hl.2.2;omega) hF hl.2.1
 obtain⟨F',rfl⟩:∃ k,F=k+1:=⟨F - 1,by omega⟩
 rw[E_pf,tG8,q1,tkOut_ret,tkRow_r,LG8x0s,dF (by have:=hs.2;omega),pF]
theorem z10:(E F (d+10)).pf 10 [sl eMach 10 l,nL,sl eIL 1 sc]=some (.ret (.tup [.agg [.int .i64 0,.int .i64 1,.int .i64 0],.int .i64 0])):=by
 have q1:=z31 F d hF hl hs hB hS
 have q2:=z32 F (d+6) hF hl hs hB hS
 rw[E_pf,tM8,q1,tkOut_ret,tkInt_i,dT rfl,pT,show ((0:Int) != 0)=false from rfl,pF,q2]
 rfl
end
end Go.Sim.Pl

set_option maxHeartbeats 4000000
set_option maxRecDepth 100000
namespace Go.Sim.Pl
open Go.Sim.Le (cfg E E_pf E_hv)
open Go.Proofs
variable (F d:Nat)
theorem known_t {e:Env} (q4:e.pf 4 []=some (.ret (.bool true))):(tkOut (e.pf 4 []) none (fun v2=>(tkBool v2 none fun b2=>some (Out.ret (.bool b2)))) (fun p2=>(tkIfc p2 none fun t3 x4=>(bif (flatP (.iface t3 x4)) then some (.pan (.iface t3 x4)) else none))))=some (.ret (.bool true)):=by rw[q4];rfl
theorem drop2 (a b c e:V):List.drop 2 [a,b,c,e]=[c,e]:=rfl
theorem drop1h (h:Hour):List.drop 1 (eHour h)=[.int .i64 h.ratio.lo,.int .i64 h.ratio.hi]:=rfl
theorem drop2h (h:Hour):List.drop 2 (eHour h)=[.int .i64 h.ratio.hi]:=rfl
section
variable {l:Sl Mach} {hs:Sl Hour} {sc:Sl (Sl Int)} {ra:Sl Int} {s:Sto} {dy:Dy}
variable (hF:140737488355330<F) (q4:(E F (d+25)).pf 4 []=some (.ret (.bool true)))
variable (hR:∀ i,(l.el i).rows.len≤140737488355328) (hW:∀ i,(sc.el i).len≤140737488355328)
variable (hl4:l.len≤4) (hh8:hs.len≤8) (hs8:sc.len≤8) (hra:ra.len=hs.len) (hdy:dy.hours.len=hs.len) (hc8:s.cons.len≤8) (hm:dy.noms.len≤60) (ht:dy.trades.len≤50)
section
variable {g:Nat→Hour} (hg:∀ k,k<hs.len→g k=⟨(dy.hours.el k).inn,(hs.el k).ratio⟩)
variable (hP:PlantOk l) (hH:HoursOk ⟨false,hs.len,g⟩) (hSc:SchedOk l hs.len sc) (hD:DyOk s.cons.len dy)
variable (hfine:∀ k,k<hs.len→(faultS l (stAt l sc.el k) (sc.el k) (g k)).1=1)
variable {b0:Bool} {k2:Nat} {G:Nat→List V} (hk2:0<hs.len→k2=4) (hG:∀ k,k<hs.len→BkOk s.cons.len (dy.hours.el k) (G k))
include hF q4 hR hW hl4 hh8 hs8 hra hdy hc8 hm ht hg hP hH hSc hD hfine hk2 hG
theorem lA0x6:∀ (j i fu:Nat),i+j=hs.len→j<fu→LA0x6 (E F (d+25)) F l hs sc ra s dy fu b0 hs.len k2 G i (fun u=>eHour (g u))=some (.ret (.bool true)):=by
 intro j
 induction j with
 |zero =>
  intro i fu hij hlt
  obtain⟨fu,rfl⟩:=ex1 (n:=fu) (by omega)
  rw[LA0x6s,dF (by omega),pF,known_t q4]
 |succ j ih =>
  intro i fu hij hlt
  obtain⟨fu,rfl⟩:=ex1 (n:=fu) (by omega)
  have hi:i<hs.len:=by omega
  have hS:=wrS (i:=i) (by omega)
  rw[LA0x6s]
  simp (disch:=omega) only[dT,pT,tnC,drop1h,drop2h,tkCons_c,tkInt_i,decide_true]
  have hgi:=hg i hi
  have hHi:HourOk (g i):=hH i hi
  by_cases hlo:ra.el i<(g i).ratio.lo
  ·rw[dT hlo,pT,known_t q4]
  rw[dF hlo,pF]
  by_cases hhi:ra.el i>(g i).ratio.hi
  ·rw[dT hhi,pT,known_t q4]
  rw[dF hhi,pF]
  obtain⟨wv,av,fv,rv,b,wd,gg,p,e1,⟨_,_,_,_,e2⟩,⟨_,_,_,_,e3⟩,⟨_,_,_,_,e4⟩,e5,e6,e7,e8,e9,e10⟩:=hG i hi
  subst e2 e3 e4 e5
  have hk4:=hk2 (by omega)
  have hsw:(sc.el i).len=l.len:=(hSc.1 i (by have:=hSc.2;omega)).1
  have hP1:=hP.2.1
  have hF2:2000<F:=by omega
  have q12:=s35 F (d+24) (sc.el i) (by have:=hP.2.2;omega) (by omega) (by omega)
  have hpn:∀ k,k<s.cons.len→0≤pos (p k):=fun k _=>pos_nn _
  have hcome:=sumW_nn s.cons.len hpn
  have hsh:=(fault_fine (hfine i hi)).2
  have hinn:(g i).flow=(dy.hours.el i).inn:=by rw[hgi]
  have hr1:RunOk l (runsS (sc.el i)) (dy.hours.el i).inn:=⟨hP,hsw,by rw[← hinn];exact hHi.1⟩
  have hr2:RunOk l (runsS (sc.el i)) (sumW (fun k=>pos (p k)) s.cons.len):=⟨hP,hsw,by have:=hHi.1;rw[hinn] at this;exact⟨hcome,by omega⟩⟩
  have hx:1000≤ra.el i∧ra.el i≤5000:=by have:=hHi.2;omega
  have hk:=(short_0 hHi.2).1 hsh (ra.el i) (by omega) (by omega)
  rw[hinn] at hk
  obtain⟨hk',hen⟩:=less_flow hP (f':=sumW (fun k=>pos (p k)) s.cons.len) hcome e9 hk
  have q13a:=s17xok F (d+15) hr2 hF2 hx hk'
  have q13b:=s17xok F (d+15) hr1 hF2 hx hk
  have q13a':(E F (d+25)).pf 13 [sl eMach 10 l,.row (runsS (sc.el i)).nl (runsS (sc.el i)).len 1 fun i_1=>eBool ((runsS (sc.el i)).el i_1),.int .i64 (sumW (fun k=>pos (p k)) s.cons.len),.int .i64 (ra.el i)]=_:=q13a
  have q13b':(E F (d+25)).pf 13 [sl eMach 10 l,.row (runsS (sc.el i)).nl (runsS (sc.el i)).len 1 fun i_1=>eBool ((runsS (sc.el i)).el i_1),.int .i64 (dy.hours.el i).inn,.int .i64 (ra.el i)]=_:=q13b
  have key:∀ (m t fv:Nat),t+m=s.cons.len→m<fv→LA0x7 (E F (d+25)) F l hs sc ra s dy fu fv b0 hs.len k2 G i (sumW (fun k=>pos (p k)) t) t (fun u=>eHour (g u))=some (.ret (.bool true)):=by
   intro m
   induction m with
   |zero =>
    intro t fv htm hfv
    obtain⟨fv,rfl⟩:=ex1 (n:=fv) (by omega)
    obtain rfl:s.cons.len=t:=by omega
    rw[LA0x7s,hk4]
    simp (disch:=omega) only[dT,pT,tnC,bqr,e1,drop2,tkCons_c,tkRow_r]
    rw[dF (show ¬((s.cons.len:Int)<(s.cons.len:Int)) by omega),pF]
    rw[dF (show ¬(sumW (fun k=>pos (p k)) s.cons.len>(dy.hours.el i).inn) by omega),pF]
    rw[dF (show ¬(sumW (fun k=>pos (p k)) s.cons.len>(dy.hours.el i).fin) by omega),pF]
    simp only[q12,tkOut_ret,tkRow_r,q13a',q13b',tkTup_t,tkCons_c,tkInt_i,tkNil_n,decide_true,pT]
    rw[show ((0:Int) != 0)=false from rfl,pF,pF,dF (by show ¬(enS l (runsS (sc.el i)).el (sumW (fun k=>pos (p k)) s.cons.len) (ra.el i)>enS l (runsS (sc.el i)).el (dy.hours.el i).inn (ra.el i));omega),pF,hS]
    rw[← hk4]
    exact ih (i+1) fu (by omega) (by omega)
   |succ m ihm =>
    intro t fv htm hfv
    obtain⟨fv,rfl⟩:=ex1 (n:=fv) (by omega)
    have hS':IntKind.i64.wrap ((t:Int)+1)=((t+1:Nat):Int):=wrS (by omega)
    have hwd:=e6 (by omega)
    have hgt:=e7 t (by omega)
    have hb:=e8 t (by omega)
    have m1:=sumW_mono hpn (t+1) (by omega)
    have m2:=sumW_nn (f:=fun k=>pos (p k)) t (fun k _=>pos_nn _)
    have m3:sumW (fun k=>pos (p k)) (t+1)=sumW (fun k=>pos (p k)) t+(if (0:Int)<p t then p t else 0):=rfl
    have hr:=(hD.hours i (by omega)).1
    rw[LA0x7s,hk4]
    simp (disch:=omega) only[dT,pT,tnC,bqr,e1,drop2,tkCons_c,tkRow_r,hwd,hgt,tkInt_i,hS']
    rw[← m3,wr (by have:=sumW_nn (f:=fun k=>pos (p k)) (t+1) (fun k _=>pos_nn _);omega),← hk4]
    exact ihm (t+1) fv (by omega) (by omega)
  have:=key s.cons.len 0 F (by omega) (by omega)
  exact this
end
end
end Go.Sim.Pl

set_option maxHeartbeats 4000000
set_option maxRecDepth 100000
namespace Go.Sim.Pl
open Go.Sim.Le (cfg E E_pf E_hv)
open Go.Proofs
variable (F d:Nat)
section
variable {l:Sl Mach} {hs:Sl Hour} {sc:Sl (Sl Int)} {ra:Sl Int} {s:Sto} {dy:Dy}
variable (hF:140737488355330<F) (q4:(E F (d+25)).pf 4 []=some (.ret (.bool true)))
variable (hR:∀ i,(l.el i).rows.len≤140737488355328) (hW:∀ i,(sc.el i).len≤140737488355328) (hRt:∀ i,(s.cons.el i).rates.len≤140737488355328)
variable (hl4:l.len≤4) (hh8:hs.len≤8) (hs8:sc.len≤8) (hra:ra.len=hs.len) (hdy:dy.hours.len=hs.len) (hc8:s.cons.len≤8) (hm:dy.noms.len≤60) (ht:dy.trades.len≤50)
include hF q4 hR hW hRt hl4 hh8 hs8 hra hdy hc8 hm ht
omit hRt in
theorem lA0x4:∀ (j i fu:Nat) (g:Nat→Hour),i+j=hs.len→j<fu→(∀ k,k<i→g k=⟨(dy.hours.el k).inn,(hs.el k).ratio⟩)→(∀ k,i≤k→g k=hs.el k)→LA0x4 (E F (d+25)) F l hs sc ra s dy fu i (fun u=>eHour (g u))=some (.ret (.bool true)):=by
 intro j
 induction j with
 |succ j ih =>
  intro i fu g hij hlt h1 h2
  obtain⟨fu,rfl⟩:=ex1 (n:=fu) (by omega)
  have hS:=wrS (i:=i) (by omega)
  rw[LA0x4s]
  simp (disch:=omega) only[dT,pT,tnC,hS]
  rw[upd_fl]
  refine ih (i+1) fu _ (by omega) (by omega) (fun k hk=>?_) (fun k hk=>?_)
  ·by_cases e:k=i
   ·simp only[if_pos e];rw[h2 i (Nat.le_refl _),e]
   ·simp only[if_neg e];exact h1 k (by omega)
  ·rw[if_neg (by omega)];exact h2 k (by omega)
 |zero =>
  intro i fu g hij hlt h1 _
  obtain⟨fu,rfl⟩:=ex1 (n:=fu) (by omega)
  obtain rfl:hs.len=i:=by omega
  have hRB:RowsB l F:=fun i _=>⟨lenB (hR i),by have:=hR i;omega⟩
  have hB:InB l ⟨false,hs.len,g⟩ F:=inB_of F hF (by omega) hR (by show hs.len≤_;omega)
  have hS:SchB sc F:=schB_of F hF (by omega) hW
  have q5:=s39 F (d+22) l hB.1.1 hB.1.2 hRB
  have q6:(E F (d+25)).pf 6 [.row false hs.len 3 (fun u=>eHour (g u))]=_:=s40 F (d+22) ⟨false,hs.len,g⟩ hB.2.2.1 hB.2.2.2
  have q7:=s44 F (d+24) l hs.len sc hB.1.1 hB.1.2 hS
  obtain⟨b8,q8,c8⟩:=sH1 F (d+19) (by omega) s
  obtain⟨b9,q9,c9⟩:=sA8 F (d+20) (n:=s.cons.len) (by omega) (by omega) (dy:=dy) (by omega) (by omega) ht
  have q10:(E F (d+25)).pf 10 [sl eMach 10 l,.row false hs.len 3 (fun u=>eHour (g u)),sl eIL 1 sc]=_:=s32 F (d+13) l ⟨false,hs.len,g⟩ sc (by omega) hB hS
  rw[LA0x4s,dF (by omega),pF,q5,tkOut_ret,tkBool_b]
  by_cases hP:PlantOk l
  case neg=>rw[dF hP,Bool.not_false,pT,known_t q4]
  rw[dT hP,Bool.not_true,pF,q6,tkOut_ret,tkBool_b]
  by_cases hH:HoursOk ⟨false,hs.len,g⟩
  case neg=>rw[dF hH,Bool.not_false,pT,known_t q4]
  rw[dT hH,Bool.not_true,pF,q7,tkOut_ret,tkBool_b]
  by_cases hSc:SchedOk l hs.len sc
  case neg=>rw[dF hSc,Bool.not_false,pT,known_t q4]
  rw[dT hSc,Bool.not_true,pF,q8,tkOut_ret,tkBool_b]
  cases b8
  ·rw[Bool.not_false,pT,known_t q4]
  rw[Bool.not_true,pF,q9,tkOut_ret,tkBool_b]
  cases b9
  ·rw[Bool.not_false,pT,known_t q4]
  have hSt:=c8 rfl
  have hD:=c9 rfl
  obtain⟨X,b,wd,G,⟨x1,x2,x3,y1,y2,y3,y4,y5,y6,y7,y8,y9,y10,y11,y12,hX⟩,hwd,hG,q11⟩:=b11 F (d+14) (by omega) hSt hD
  subst hX
  have herr:errS l ⟨false,hs.len,g⟩ sc=0:=by
   unfold errS
   rw[if_neg (by show ¬(hs.len>24);omega),if_pos ⟨hP,hH,hSc⟩]
  rw[if_pos herr] at q10
  rw[Bool.not_true,pF,q10]
  simp only[tkOut_ret,tkTup_t,tkCons_c,tkAgg_a,tkInt_i,tkNil_n]
  rw[q11]
  simp only[tkOut_ret,tkTup_t,tkCons_c,tkAgg_a,tkInt_i,tkRow_r,tkNil_n,decide_true,pT]
  rw[show ((0:Int) != 0)=false from rfl,pF,pF,show (((dy.hours.len:Nat):Int) != ((hs.len:Nat):Int))=false by simp[hdy],pF]
  by_cases hr:(playS l ⟨false,hs.len,g⟩ sc).rule=1
  case neg=>rw[show ((playS l ⟨false,hs.len,g⟩ sc).rule != 1)=true by simpa using hr,pT,known_t q4]
  rw[hr,show ((1:Int) != 1)=false from rfl,pF]
  have hfine:∀ k,k<hs.len→(faultS l (stAt l sc.el k) (sc.el k) (g k)).1=1:=fun k hk=>playS_fine (hs:=⟨false,hs.len,g⟩) hr hk
  rw[hdy]
  exact lA0x6 F d hF q4 hR hW hl4 hh8 hs8 hra hdy hc8 hm ht h1 hP hH hSc hD hfine (fun h=>hwd (by omega)) (fun k hk=>hG k (by omega)) hs.len 0 F (by omega) (by omega)
omit hRt in
theorem lA0x3 (hz:hs.len=0) (fu:Nat):LA0x3 (E F (d+25)) F l hs sc ra s dy (fu+1)=some (.ret (.bool true)):=by
 have hRB:RowsB l F:=fun i _=>⟨lenB (hR i),by have:=hR i;omega⟩
 have hB:(l.len<Big∧l.len<F)∧RowsB l F:=⟨⟨lenB (by omega),by omega⟩,hRB⟩
 have hS:SchB sc F:=schB_of F hF (by omega) hW
 have q5:=s39 F (d+22) l hB.1.1 hB.1.2 hRB
 have q6:=z6 F (d+24) (by omega)
 have q7:=s44 F (d+24) l 0 sc hB.1.1 hB.1.2 hS
 obtain⟨b8,q8,c8⟩:=sH1 F (d+19) (by omega) s
 obtain⟨b9,q9,c9⟩:=sA8 F (d+20) (n:=s.cons.len) (by omega) (by omega) (dy:=dy) (by omega) (by omega) ht
 rw[LA0x3s,q5,tkOut_ret,tkBool_b]
 by_cases hP:PlantOk l
 case neg=>rw[dF hP,Bool.not_false,pT,known_t q4]
 rw[dT hP,Bool.not_true,pF,q6,tkOut_ret,tkBool_b,Bool.not_true,pF,q7,tkOut_ret,tkBool_b]
 by_cases hSc:SchedOk l 0 sc
 case neg=>rw[dF hSc,Bool.not_false,pT,known_t q4]
 rw[dT hSc,Bool.not_true,pF,q8,tkOut_ret,tkBool_b]
 cases b8
 ·rw[Bool.not_false,pT,known_t q4]
 rw[Bool.not_true,pF,q9,tkOut_ret,tkBool_b]
 cases b9
 ·rw[Bool.not_false,pT,known_t q4]
 have hSt:=c8 rfl
 have hD:=c9 rfl
 obtain⟨X,b,wd,G,⟨x1,x2,x3,y1,y2,y3,y4,y5,y6,y7,y8,y9,y10,y11,y12,hX⟩,hwd,hG,q11⟩:=b11 F (d+14) (by omega) hSt hD
 subst hX
 have q10:=z10 F (d+15) (by omega) hP hSc hB hS
 obtain⟨F',rfl⟩:∃ k,F=k+1:=⟨F - 1,by omega⟩
 rw[Bool.not_true,pF,q10]
 simp only[tkOut_ret,tkTup_t,tkCons_c,tkAgg_a,tkInt_i,tkNil_n]
 rw[q11]
 simp only[tkOut_ret,tkTup_t,tkCons_c,tkAgg_a,tkInt_i,tkRow_r,tkNil_n,decide_true,pT]
 rw[show ((0:Int) != 0)=false from rfl,pF,pF,show (((dy.hours.len:Nat):Int) != ((hs.len:Nat):Int))=false by simp[hdy],pF,show ((1:Int) != 1)=false from rfl,pF,LA0x5s,known_t q4]
variable (hnil:hs.nl=true→hs.len=0)
include hnil
omit hRt in
theorem lA0x2:∀ (j i fu:Nat),i+j=sc.len→j<fu→LA0x2 (E F (d+25)) F l hs sc ra s dy fu i=some (.ret (.bool true)):=by
 intro j
 induction j with
 |succ j ih =>
  intro i fu hij hlt
  obtain⟨fu,rfl⟩:=ex1 (n:=fu) (by omega)
  have hS:=wrS (i:=i) (by omega)
  rw[LA0x2s]
  simp (disch:=omega) only[dT,pT,tnC,hS]
  cases decide (((sc.el i).len:Int)>10)
  ·rw[pF];exact ih (i+1) fu (by omega) (by omega)
  ·rw[pT,known_t q4]
 |zero =>
  intro i fu hij hlt
  obtain⟨fu,rfl⟩:=ex1 (n:=fu) (by omega)
  rw[LA0x2s,dF (by omega),pF]
  have e3:hs.len=0→LA0x3 (E F (d+25)) F l hs sc ra s dy F=some (.ret (.bool true)):=fun hz=>by
   have:=lA0x3 F d hF q4 hR hW hl4 hh8 hs8 hra hdy hc8 hm ht hz (F - 1)
   rw[show F - 1+1=F by omega] at this
   exact this
  cases hn:hs.nl
  ·rw[pF]
   by_cases hz:hs.len=0
   ·rw[show (hs.len==0)=true by simp[hz],pT];exact e3 hz
   ·rw[show (hs.len==0)=false by simp[hz],pF,dT (by omega),pT]
    exact lA0x4 F d hF q4 hR hW hl4 hh8 hs8 hra hdy hc8 hm ht hs.len 0 F hs.el (by omega) (by omega) (fun k hk=>absurd hk (by omega)) (fun k _=>rfl)
  ·rw[pT];exact e3 (hnil hn)
theorem lA0x1:∀ (j i fu:Nat),i+j=s.cons.len→j<fu→LA0x1 (E F (d+25)) F l hs sc ra s dy fu i=some (.ret (.bool true)):=by
 intro j
 induction j with
 |succ j ih =>
  intro i fu hij hlt
  obtain⟨fu,rfl⟩:=ex1 (n:=fu) (by omega)
  have hS:=wrS (i:=i) (by omega)
  rw[LA0x1s]
  simp (disch:=omega) only[dT,pT,tnC,hS]
  cases decide (((s.cons.el i).rates.len:Int)>10)
  ·rw[pF];exact ih (i+1) fu (by omega) (by omega)
  ·rw[pT,known_t q4]
 |zero =>
  intro i fu hij hlt
  obtain⟨fu,rfl⟩:=ex1 (n:=fu) (by omega)
  rw[LA0x1s,dF (by omega),pF]
  exact lA0x2 F d hF q4 hR hW hl4 hh8 hs8 hra hdy hc8 hm ht hnil sc.len 0 F (by omega) (by omega)
theorem lA0x0:∀ (j i fu:Nat),i+j=l.len→j<fu→LA0x0 (E F (d+25)) F l hs sc ra s dy fu i=some (.ret (.bool true)):=by
 intro j
 induction j with
 |succ j ih =>
  intro i fu hij hlt
  obtain⟨fu,rfl⟩:=ex1 (n:=fu) (by omega)
  have hS:=wrS (i:=i) (by omega)
  rw[LA0x0s]
  simp (disch:=omega) only[dT,pT,tnC,hS]
  cases decide (((l.el i).rows.len:Int)>10)
  ·rw[pF];exact ih (i+1) fu (by omega) (by omega)
  ·rw[pT,known_t q4]
 |zero =>
  intro i fu hij hlt
  obtain⟨fu,rfl⟩:=ex1 (n:=fu) (by omega)
  rw[LA0x0s,dF (by omega),pF]
  exact lA0x1 F d hF q4 hR hW hRt hl4 hh8 hs8 hra hdy hc8 hm ht hnil s.cons.len 0 F (by omega) (by omega)
end
theorem law3 (hF:140737488355330<F) (l:Sl Mach) (hs:Sl Hour) (sc:Sl (Sl Int)) (ra:Sl Int) (s:Sto) (dy:Dy) (hR:∀ i,(l.el i).rows.len≤140737488355328) (hW:∀ i,(sc.el i).len≤140737488355328) (hRt:∀ i,(s.cons.el i).rates.len≤140737488355328) (hnil:hs.nl=true→hs.len=0) :
 (E (F+3000) (d+26)).pf 3 [sl eMach 10 l,sl eHour 3 hs,sl eIL 1 sc,sl eInt 1 ra,.agg (eSto s),.agg (eDy dy)]=some (.ret (.bool true)):=by
 have q4:(E (F+3000) (d+25)).pf 4 []=some (.ret (.bool true)):=Go.Sim.Le.sK5 F d
 rw[E_pf,tA0]
 by_cases h1:(l.len:Int)>4
 ·rw[dT h1,pT,known_t q4]
 rw[dF h1,pF]
 by_cases h2:(hs.len:Int)>8
 ·rw[dT h2,pT,known_t q4]
 rw[dF h2,pF]
 by_cases h3:(sc.len:Int)>8
 ·rw[dT h3,pT,known_t q4]
 rw[dF h3,pF]
 by_cases h4:ra.len=hs.len
 case neg=>rw[show ((ra.len:Int) != (hs.len:Int))=true by rw[bne_iff_ne];omega,pT,known_t q4]
 rw[h4,bne_self_eq_false,pF]
 by_cases h5:dy.hours.len=hs.len
 case neg=>rw[show ((dy.hours.len:Int) != (hs.len:Int))=true by rw[bne_iff_ne];omega,pT,known_t q4]
 rw[h5,bne_self_eq_false,pF]
 by_cases h6:(s.cons.len:Int)>8
 ·rw[dT h6,pT,known_t q4]
 rw[dF h6,pF]
 by_cases h7:(dy.noms.len:Int)>60
 ·rw[dT h7,pT,known_t q4]
 rw[dF h7,pF]
 by_cases h8:(dy.trades.len:Int)>50
 ·rw[dT h8,pT,known_t q4]
 rw[dF h8,pF]
 exact lA0x0 (F+3000) d (by omega) q4 hR hW hRt (by omega) (by omega) (by omega) h4 h5 (by omega) (by omega) (by omega) hnil l.len 0 (F+3000) (by omega) (by omega)
end Go.Sim.Pl
