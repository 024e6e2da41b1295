import Derived.Test.YtgcaabopnnhoaaaGreatDoorAf
import Derived.Test.YtgcaabopnnhoaaaGreatDoorTie
import Derived.Test.YtgcaabopnnhoaaaGreatDoorCards
import Derived.ProofKit
import Derived.OpenShut
import Derived.LaidMore
import Derived.Lay
import Derived.Lib.LaidTab
import Derived.SevenTiedAt
import Derived.Stop.Joined
set_option linter.unusedVariables false
set_option linter.unusedSimpArgs false
set_option linter.unusedSectionVars false
namespace Go.Sim.Le
open Go.Proofs
theorem rtRow_in {c:Cav} (hc:CavOk c) {s:Stg} (hs:StgOk c.slices.len s):∀ k,k≤pathN s→∀ i,0≤(rtRow c s k i).lo∧(rtRow c s k i).lo≤(rtRow c s k i).hi∧(rtRow c s k i).hi≤300:=by
 intro k
 induction k with
 |zero=>intro _ i;simp[rtRow]
 |succ k ih =>
  intro h i
  have h1:=rate_at hc hs (k:=k) (by omega)
  have h3:=sumLo_in hc hs k (by omega)
  have h2:=ih (by omega) i
  simp only[rtRow]
  split
  ·simp only[rtK];omega
  ·exact h2
def mostG (c:Cav) (l:Nat→Stg) (i:Nat):Nat→Int
 |0=>0
 |j+1=>max (mostG c l i j) ((rtRow c (l j) (pathN (l j)) i).lo*(l j).water*(c.slices.el i).opn)
def leastR (c:Cav) (l:Sl Stg) (w:Nat→Int):Nat→Nat→Int→Option Int
 |0,_,out=>some out
 |j+1,k,out=>if w k - (c.slices.el k).vol.lo≤0 then leastR c l w j (k+1) out else
  if mostG c l.el k l.len=0 then none else leastR c l w j (k+1) (max out ((w k - (c.slices.el k).vol.lo+mostG c l.el k l.len - 1) / mostG c l.el k l.len))
variable (F d:Nat)
section
variable {c:Cav} (hc:CavOk c) {l:Sl Stg} (hl:∀ i,i<l.len→StgOk c.slices.len (l.el i))
include hc hl
theorem term_in {i j:Nat} (hi:i<c.slices.len) (hj:j<l.len):(0≤(rtRow c (l.el j) (pathN (l.el j)) i).lo*(l.el j).water∧(rtRow c (l.el j) (pathN (l.el j)) i).lo*(l.el j).water≤300000000)∧0≤(rtRow c (l.el j) (pathN (l.el j)) i).lo*(l.el j).water*(c.slices.el i).opn∧(rtRow c (l.el j) (pathN (l.el j)) i).lo*(l.el j).water*(c.slices.el i).opn≤900000000000:=by
 have hs:=hl j hj
 have hr:=rtRow_in hc hs (pathN (l.el j)) (Nat.le_refl _) i
 have hwa:=hs.1
 have ho:1000≤(c.slices.el i).opn∧(c.slices.el i).opn≤3000:=(hc.2.2.2 i hi).2.1
 have m1:=mul_in (a:=(rtRow c (l.el j) (pathN (l.el j)) i).lo) (b:=(l.el j).water) (x:=300) (y:=1000000) (by omega) (by omega) (by omega) (by omega)
 have m1':0≤(rtRow c (l.el j) (pathN (l.el j)) i).lo*(l.el j).water:=Int.mul_nonneg (by omega) (by omega)
 have m2:=mul_in (a:=(rtRow c (l.el j) (pathN (l.el j)) i).lo*(l.el j).water) (b:=(c.slices.el i).opn) (x:=300000000) (y:=3000) (by omega) (by omega) (by omega) (by omega)
 have m2':0≤(rtRow c (l.el j) (pathN (l.el j)) i).lo*(l.el j).water*(c.slices.el i).opn:=Int.mul_nonneg m1' (by omega)
 exact⟨⟨m1',by omega⟩,m2',by omega⟩
theorem mostG_in {i:Nat} (hi:i<c.slices.len):∀ j,j≤l.len→0≤mostG c l.el i j∧mostG c l.el i j≤900000000000:=by
 intro j
 induction j with
 |zero=>intro _;simp[mostG]
 |succ j ih =>
  intro h
  have h1:=ih (by omega)
  have h2:=term_in hc hl hi (j:=j) (by omega)
  simp only[mostG]
  omega
theorem l36x1 (w:Sl Int) (hF:400<F) (hL:l.len≤300) (m0 i:Nat) (hi:i<c.slices.len) (out mis:Int) (hm:0<mis∧mis≤10000000000000) (R:Option Out)
 (K:(if mostG c l.el i l.len=0 then some (.ret (.tup [.int .i64 0,.int .i64 5])) else L36x0 (E F (d+2)) F c l w m0 (max out ((mis+mostG c l.el i l.len - 1) / mostG c l.el i l.len)) ((i+1:Nat):Int))=R) :
 ∀ j k fu,k+j=l.len→j<fu →
 L36x1 (E F (d+2)) F c l w m0 fu out i mis (mostG c l.el i k) i k (c.slices.el i).vol.lo (c.slices.el i).vol.hi (c.slices.el i).opn (c.slices.el i).fall (c.slices.el i).rate.lo (c.slices.el i).rate.hi (c.slices.el i).most=R:=by
 have hcl:=hc.1
 intro j
 induction j with
 |zero =>
  intro k fu h hf
  obtain⟨fu,rfl⟩:=ex1 (n:=fu) (by omega)
  have hk:k=l.len:=by omega
  subst hk
  have hmg:=mostG_in hc hl hi l.len (Nat.le_refl _)
  rw[L36x1s,dF (by omega),pF]
  by_cases h0:mostG c l.el i l.len=0
  ·rw[if_pos h0] at K
   rw[show (mostG c l.el i l.len==0)=true by rw[beq_iff_eq];exact h0,pT]
   exact K
  ·rw[if_neg h0] at K
   rw[show (mostG c l.el i l.len==0)=false by rw[beq_eq_false_iff_ne];exact h0,pF,dF h0,pF]
   rw[wr (n:=mis+mostG c l.el i l.len) (by omega),wr (n:=mis+mostG c l.el i l.len - 1) (by omega),Int.tdiv_eq_ediv_of_nonneg (by omega)]
   have hd:=div_in (x:=mis+mostG c l.el i l.len - 1) (g:=mostG c l.el i l.len) (by omega) (by omega)
   rw[wr (n:=(mis+mostG c l.el i l.len - 1) / mostG c l.el i l.len) (by omega),wrS (by omega)]
   simp only[mxE]
   exact K
 |succ j ih =>
  intro k fu h hf
  obtain⟨fu,rfl⟩:=ex1 (n:=fu) (by omega)
  have ht:=term_in hc hl hi (j:=k) (by omega)
  have e:=s82 F d c hc (l.el k) (hl k (by omega)) (by omega)
  have e2:=ih (k+1) fu (by omega) (by omega)
  rw[L36x1s]
  simp (disch:=omega) only[dT,decide_true,pT,tnC,e,tkOut_ret,tkRow_r,show ((2:Nat)==2)=true from rfl,show (rateSl c (l.el k)).len=c.slices.len from rfl,tkCons_c,tkInt_i]
  rw[show (rateSl c (l.el k)).el i=rtRow c (l.el k) (pathN (l.el k)) i from rfl,wr (n:=(rtRow c (l.el k) (pathN (l.el k)) i).lo*(l.el k).water) (by omega),wr (n:=(rtRow c (l.el k) (pathN (l.el k)) i).lo*(l.el k).water*(c.slices.el i).opn) (by omega),wrS (by omega)]
  simp only[mxE]
  exact e2
theorem l36x0 (w:Sl Int) (hw:WantOk c w) (hF:400<F) (hL:l.len≤300):∀ j k fu out,k+j=c.slices.len→j<fu →
 L36x0 (E F (d+2)) F c l w fu out k=some (.ret (.tup (match leastR c l w.el j k out with | some n=>[.int .i64 n,.int .i64 0] | none=>[.int .i64 0,.int .i64 5]))):=by
 have hcl:=hc.1
 intro j
 induction j with
 |zero =>
  intro k fu out h hf
  obtain⟨fu,rfl⟩:=ex1 (n:=fu) (by omega)
  rw[L36x0s,dF (by omega),pF]
  rfl
 |succ j ih =>
  intro k fu out h hf
  obtain⟨fu,rfl⟩:=ex1 (n:=fu) (by omega)
  have hv:SpanIn (c.slices.el k).vol 0 10000000000000:=(hc.2.2.2 k (by omega)).1
  unfold SpanIn at hv
  have hwk:=hw.1 k (by rw[hw.2];omega)
  have hwl:=hw.2
  rw[L36x0s]
  simp (disch:=omega) only[dT,decide_true,pT,tnC,wr (n:=w.el k - (c.slices.el k).vol.lo)]
  by_cases h0:w.el k - (c.slices.el k).vol.lo≤0
  ·rw[dT h0,pT,wrS (by omega),ih (k+1) fu out (by omega) (by omega)]
   simp only[leastR,if_pos h0]
  ·rw[dF h0,pF]
   refine l36x1 F d hc hl w hF hL fu k (by omega) out (w.el k - (c.slices.el k).vol.lo) (by omega) _ ?_ l.len 0 F (by omega) (by omega)
   simp only[leastR,if_neg h0]
   by_cases hm:mostG c l.el k l.len=0
   ·rw[if_pos hm,if_pos hm]
   ·rw[if_neg hm,if_neg hm]
    exact ih (k+1) fu _ (by omega) (by omega)
end
def leastX (c:Cav) (l:Sl Stg) (w:Sl Int):Option Int:=leastR c l w.el c.slices.len 0 0
theorem s36 (c:Cav) (l:Sl Stg) (w:Sl Int) (hC:c.slices.len<Big) (hCF:c.slices.len<F) (hB:l.len<Big) (hLF:l.len<F) (hW:w.len<Big) (hWF:w.len<F) (hF:400<F) :
 (E F (d+8)).pf 22 [.agg (eCav c),sl eStg 4 l,sl eInt 1 w]=some (.ret (.tup (if errM c l w=0 then (match leastX c l w with | some n=>[.int .i64 n,.int .i64 0] | none=>[.int .i64 0,.int .i64 5]) else [.int .i64 0,.int .i64 (errM c l w)]))):=by
 rw[E_pf,t36]
 simp only[s77 F d c l w hC hCF hB hLF hW hWF,tkOut_ret,tkInt_i,decide_true,pT]
 by_cases h0:errM c l w=0
 ·obtain⟨h6,hc,h1,hl,hw⟩:=errM_0.1 h0
  have hcl:=hc.1
  rw[h0,show ((0:Int) != 0)=false from rfl,pF,if_pos rfl]
  exact l36x0 F (d+5) hc hl w hw hF (by omega) c.slices.len 0 F 0 (by omega) (by omega)
 ·have e1:(errM c l w != 0)=true:=by simpa using h0
  rw[e1,pT,if_neg h0]
end Go.Sim.Le

namespace Go.Sim.Le
open Go.Proofs
def exSl:Nat→Slc
 |0=>⟨⟨900000,1000000⟩,1200,100,⟨20,40⟩,1480000⟩
 |1=>⟨⟨1000000,1000000⟩,1100,50,⟨30,50⟩,3000000⟩
 |_=>⟨⟨500000,600000⟩,1000,0,⟨40,60⟩,3000000⟩
def exC:Cav:=⟨⟨false,3,exSl⟩,100,700000⟩
def exA:Stg:=⟨10,0,1,2⟩
def exB:Stg:=⟨10,2,0,3⟩
def exAB:Sl Stg:=⟨false,2,fun i=>if i=0 then exA else exB⟩
def tR3 (a b c:Int):Nat→Int
 |0=>a
 |1=>b
 |_=>c
def ex3 (a b c:Int):Sl Int:=⟨false,3,tR3 a b c⟩
def gl' (a:Int):Nat→Int:=fun j=>[a].getD j ([a].getLastD 0)
theorem exOk:CavOk exC:=by decide +kernel
theorem exAOk:StgOk exC.slices.len exA:=by decide +kernel
theorem exBOk:StgOk exC.slices.len exB:=by decide +kernel
theorem kBound:boundS exC (fun _=>exB) ⟨ex3 0 0 0,1⟩ 1=⟨20000,45000⟩:=by decide +kernel
theorem kLow:lowF exC exA=(89300,1893):=by decide +kernel
theorem kHigh:highF exC exA=(160700,1807):=by decide +kernel
theorem kLeast:leastX exC exAB (ex3 1400000 0 0)=some 3:=by decide +kernel
theorem kRate:SameP (rateSl exC exB) ⟨false,3,fun i=>if i=0 then ⟨0,30⟩ else if i=1 then ⟨30,50⟩ else ⟨40,60⟩⟩:=by decide +kernel
theorem kFault:faultR exC exAB.el 2 0=(1,5,0):=by decide +kernel
theorem kPlan:planX exC exAB (ex3 900000 1300000 800000)=some [1]:=by decide +kernel
theorem exGet (z0 z1 z2:Slc):(fun u:Nat=>List.take 7 (List.drop (Min.min u 2*7) (eSlc z0 ++ eSlc z1 ++ eSlc z2)))=fun i=>eSlc (match i with | 0=>z0 | 1=>z1 | _=>z2):=by
 funext i
 match i with
 |0=>rfl
 |1=>rfl
 |i+2=>simp[show Min.min (i+2) 2=2 by omega]
theorem pairStg (p q:Stg):(fun u:Nat=>List.take 4 (List.drop (Min.min u 1*4) [V.int .i64 p.water,.int .i64 p.into,.int .i64 p.out,.int .i64 p.blanket,.int .i64 q.water,.int .i64 q.into,.int .i64 q.out,.int .i64 q.blanket]))=fun i=>eStg (if i=0 then p else q):=by
 funext i
 match i with
 |0=>rfl
 |i+1=>simp[show Min.min (i+1) 1=1 by omega]
theorem tri3 (a b c:Int):(fun u:Nat=>List.take 1 (List.drop (Min.min u 2*1) [V.int .i64 a,.int .i64 b,.int .i64 c]))=fun i=>eInt (tR3 a b c i):=by
 funext i
 match i with
 |0=>rfl
 |1=>rfl
 |i+2=>simp[show Min.min (i+2) 2=2 by omega,tR3]
def sp3:Nat→Span:=fun i=>if i=0 then ⟨0,30⟩ else if i=1 then ⟨30,50⟩ else ⟨40,60⟩
theorem span3:(fun u:Nat=>List.take 2 (List.drop (Min.min u 2*2) [V.int .i64 0,.int .i64 30,.int .i64 30,.int .i64 50,.int .i64 40,.int .i64 60]))=fun i=>eSpan (sp3 i):=by
 funext i
 match i with
 |0=>rfl
 |1=>rfl
 |i+2=>simp[show Min.min (i+2) 2=2 by omega,sp3]
variable (F d:Nat)
theorem s54:(E F (d+1)).pf 15 []=some (.ret (.agg (eCav exC))):=by
 rw[E_pf,t54]
 have h:=exGet ⟨⟨900000,1000000⟩,1200,100,⟨20,40⟩,1480000⟩ ⟨⟨1000000,1000000⟩,1100,50,⟨30,50⟩,3000000⟩ ⟨⟨500000,600000⟩,1000,0,⟨40,60⟩,3000000⟩
 refine congrArg (fun g=>some (Out.ret (V.agg [V.row false 3 7 g,V.int .i64 100,V.int .i64 700000]))) (h.trans ?_)
 funext i
 match i with
 |0=>rfl
 |1=>rfl
 |i+2=>rfl
theorem s55:(E F (d+1)).pf 16 []=some (.ret (.agg (eStg exB))):=by rw[E_pf,t55];rfl
theorem s56:(E F (d+1)).pf 19 []=some (.ret (.agg (eStg exA))):=by rw[E_pf,t56];rfl
set_option maxRecDepth 100000 in
theorem s21 (hF:1000000000<F):(E F (d+19)).pf 7 []=some (.ret (.bool true)):=by
 have hB3:exC.slices.len<Big:=by decide +kernel
 have hF3:exC.slices.len<F:=by show 3<F;omega
 have q54:(E F (d+18)).pf 15 []=_:=s54 F (d+17)
 have q55:(E F (d+18)).pf 16 []=_:=s55 F (d+17)
 have q56:(E F (d+18)).pf 19 []=_:=s56 F (d+17)
 have q39:(E F (d+18)).pf 14 [.agg (eCav exC),.agg (eStg exB)]=_:=s39 F (d+12) exC exB hB3 hF3 (by omega)
 rw[if_pos ⟨exOk,exBOk⟩] at q39
 have q22:(E F (d+18)).pf 17 [.agg (eCav exC),sl eStg 4 ⟨false,1,fun _=>exB⟩,sl eInt 1 (ex3 0 0 0),.int .i64 1]=_:=s22 F (d+3) exC ⟨false,1,fun _=>exB⟩ (ex3 0 0 0) 1 hB3 hF3 (by decide +kernel) (by show 1<F;omega) (by decide +kernel) (by show 3<F;omega) (by omega)
 rw[if_pos (show errP exC ⟨false,1,fun _=>exB⟩ (decide (WtOk exC (ex3 0 0 0) 1))=0 by decide +kernel),kBound] at q22
 have q26:(E F (d+18)).pf 18 [.agg (eCav exC),.agg (eStg exA)]=_:=s26 F (d+12) exC exA hB3 hF3 hF
 rw[if_pos ⟨exOk,exAOk⟩,kLow,kHigh] at q26
 have q30:(E F (d+18)).pf 20 [.agg (eCav exC),sl eStg 4 exAB]=_:=s30 F d exC exAB hB3 hF3 (by decide +kernel) (by show 2<F;omega) (by omega)
 rw[if_pos (show errP exC exAB true=0 by decide +kernel),show exAB.len=2 from rfl,kFault] at q30
 have q33:(E F (d+18)).pf 21 [.agg (eCav exC),sl eStg 4 exAB,sl eInt 1 (ex3 900000 1300000 800000)]=_:=s33 F d exC exAB (ex3 900000 1300000 800000) hB3 hF3 (by decide +kernel) (by show 2<F;omega) (by decide +kernel) (by show 3<F;omega) (by omega)
 rw[if_pos (show errM exC exAB (ex3 900000 1300000 800000)=0 by decide +kernel),kPlan] at q33
 have q36:(E F (d+18)).pf 22 [.agg (eCav exC),sl eStg 4 exAB,sl eInt 1 (ex3 1400000 0 0)]=_:=s36 F (d+10) exC exAB (ex3 1400000 0 0) hB3 hF3 (by decide +kernel) (by show 2<F;omega) (by decide +kernel) (by show 3<F;omega) (by omega)
 rw[if_pos (show errM exC exAB (ex3 1400000 0 0)=0 by decide +kernel),kLeast] at q36
 have q40:(E F (d+18)).pf 23 [sl eSpan 2 (rateSl exC exB),sl eSpan 2 ⟨false,3,sp3⟩]=_:=s40 F (d+17) (rateSl exC exB) ⟨false,3,sp3⟩ hB3 hF3
 rw[dT (show SameP (rateSl exC exB) ⟨false,3,sp3⟩ from kRate)] at q40
 have q35:(E F (d+18)).pf 24 [sl eInt 1 ⟨false,1,gl' 1⟩,sl eInt 1 ⟨false,1,fun _=>1⟩]=_:=s35 F (d+17) ⟨false,1,gl' 1⟩ ⟨false,1,fun _=>1⟩ (by decide +kernel) (by show 1<F;omega)
 have p39:(E F (d+18)).pf 14 [.agg [.row exC.slices.nl exC.slices.len 7 (fun i=>eSlc (exC.slices.el i)),.int .i64 exC.hold,.int .i64 exC.oil],.agg [.int .i64 exB.water,.int .i64 exB.into,.int .i64 exB.out,.int .i64 exB.blanket]]=_:=q39
 have p22:(E F (d+18)).pf 17 [.agg [.row exC.slices.nl exC.slices.len 7 (fun i=>eSlc (exC.slices.el i)),.int .i64 exC.hold,.int .i64 exC.oil],.row false 1 4 (fun _=>[.int .i64 exB.water,.int .i64 exB.into,.int .i64 exB.out,.int .i64 exB.blanket]),.row false 3 1 (fun i=>eInt (tR3 0 0 0 i)),.int .i64 1]=_:=q22
 have p26:(E F (d+18)).pf 18 [.agg [.row exC.slices.nl exC.slices.len 7 (fun i=>eSlc (exC.slices.el i)),.int .i64 exC.hold,.int .i64 exC.oil],.agg [.int .i64 exA.water,.int .i64 exA.into,.int .i64 exA.out,.int .i64 exA.blanket]]=_:=q26
 have p30:(E F (d+18)).pf 20 [.agg [.row exC.slices.nl exC.slices.len 7 (fun i=>eSlc (exC.slices.el i)),.int .i64 exC.hold,.int .i64 exC.oil],.row false 2 4 (fun i=>eStg (if i=0 then exA else exB))]=_:=q30
 have p33:(E F (d+18)).pf 21 [.agg [.row exC.slices.nl exC.slices.len 7 (fun i=>eSlc (exC.slices.el i)),.int .i64 exC.hold,.int .i64 exC.oil],.row false 2 4 (fun i=>eStg (if i=0 then exA else exB)),.row false 3 1 (fun i=>eInt (tR3 900000 1300000 800000 i))]=some (.ret (.tup [.row false 1 1 (fun i=>eInt (gl' 1 i)),.int .i64 0])):=q33
 have p36:(E F (d+18)).pf 22 [.agg [.row exC.slices.nl exC.slices.len 7 (fun i=>eSlc (exC.slices.el i)),.int .i64 exC.hold,.int .i64 exC.oil],.row false 2 4 (fun i=>eStg (if i=0 then exA else exB)),.row false 3 1 (fun i=>eInt (tR3 1400000 0 0 i))]=some (.ret (.tup [.int .i64 3,.int .i64 0])):=q36
 have p40:(E F (d+18)).pf 23 [.row (rateSl exC exB).nl (rateSl exC exB).len 2 (fun i=>eSpan ((rateSl exC exB).el i)),.row false 3 2 (fun i=>eSpan (sp3 i))]=_:=q40
 have p35:(E F (d+18)).pf 24 [.row false 1 1 (fun i=>eInt (gl' 1 i)),.row false 1 1 (fun _=>[.int .i64 1])]=some (.ret (.bool true)):=by
  refine q35.trans ?_
  rw[dT (show SameI ⟨false,1,gl' 1⟩ ⟨false,1,fun _=>1⟩ from ⟨rfl,fun i hi=>by
   have h0:i=0:=by have:i<1:=hi;omega
   subst h0;rfl⟩)]
 have z:∀ {α:Type} (a b:α),(bif ((0:Int) != 0) then a else b)=b:=fun a b=>rfl
 rw[E_pf,t21]
 simp only[q54,q55,q56,p39,p22,p26,p30,p33,p36,tkOut_ret,tkAgg_a,tkTup_t,tkCons_c,tkInt_i,tkBool_b,tkRow_r,tkNil_n,pairStg,tri3,span3,decide_true,pT,z,p40,p35,eSpan]
 rfl
end Go.Sim.Le

namespace Go.Sim.Lg
open Go.Proofs
open Go.Sim.Le (Cav Slc Span Stg Sl sl eCav eSlc eSpan eInt eStg CavOk SlcOk tkOut_ret tkBool_b tkInt_i tkAgg_a tkTup_t tkRow_r tkCons_c tkHv_h tkSCons_c tkSNil_n tkBox_b tkArr_a tkSl_r tkSl_o pT pF wr wrS)
variable (F d:Nat)
theorem l9026 (t:ByteArray) (k:Nat) (g:Nat→List V) (s0:Int) (ns:List Nat) (hk:k=ns.length) (hg:RowIs ns g) (hN:ns.length≤1000) (hn:∀ n ∈ ns,n<1000000000000000000) :
 ∀ (r p:List Nat) (fu:Nat) (X:List UInt8) (s:Nat),ns=p ++ r→r.length<fu→1≤X.length→X.length+20*r.length≤100000→s+1000000000000000000*r.length<9223372036854775808 →
  L9026x0 (E F d) F t k g s0 fu (p.length:Int) X.length .i64 (s:Int) X.length (byteGet (str X)) =
   some (.ret (.tup []),[.box 71 [.optr 0 0 0,.osl 2 0 (X ++ numsL r ++ [10]).length,.int .i64 ((s+r.sum:Nat):Int)] true,.arr 3 1 k g true,.arr 5 1 (X ++ numsL r ++ [10]).length (byteGet (str (X ++ numsL r ++ [10]))) true]):=by
 intro r
 induction r with
 |nil =>
  intro p fu X s h1 h2 h3 h4 h5
  obtain⟨fu,rfl⟩:=ex1 (n:=fu) (by omega)
  have hp:p.length=ns.length:=by rw[h1];simp
  rw[L9026x0s,dF (by rw[hk];omega),pF,bs_str]
  simp only[List.map_cons,List.map_nil]
  rw[oW h3 (by simp;omega)]
  simp only[tkHvP_r,tkSCons_c,tkBox_b,tkCons_c,tkSl_o,tkInt_i,tkNil_0,tkDead_d,tkArr_a,tkSNil_n,z71,z20,z51,zsv,pT,numsL,List.flatMap_nil,List.append_nil,List.sum_nil,Nat.add_zero]
  rfl
 |cons n r ih =>
  intro p fu X s h1 h2 h3 h4 h5
  obtain⟨fu,rfl⟩:∃ k,fu=k+1:=⟨fu - 1,by simp at h2;omega⟩
  have hp:p.length+(r.length+1)=ns.length:=by rw[h1];simp
  have hat:ns[p.length]? = some n:=by rw[h1];simp
  have hn0:n<1000000000000000000:=hn n (List.mem_of_getElem? hat)
  have hd:(dec n).length≤18:=dec_le (by omega) (by omega)
  simp only[List.length_cons] at h2 h4 h5
  have hw:IntKind.wrap .i64 ((p.length:Int)+1)=(((p ++ [n]).length:Nat):Int):=by rw[wrS (by omega)];simp
  have hws:IntKind.wrap .i64 ((s:Int)+(n:Int))=((s+n:Nat):Int):=by rw[wr (by omega)];omega
  rw[L9026x0s,dT (by rw[hk];omega),pT,dT (by omega),pT,pT,tnC,hg _ _ hat,tkCons_c,tkInt_i,o55 (by omega),tkOut_ret,tkStr_s,size_str,dT (by omega),pT,bs_str,catS_str]
  simp only[List.map_cons,List.map_nil]
  rw[oW h3 (by simp;omega)]
  simp only[tkHvP_r,tkSCons_c,tkBox_b,tkCons_c,tkSl_o,tkInt_i,tkNil_0,tkDead_d,tkArr_a,tkSNil_n,z71,z20,z51,zsv,pT,decide_true,hw,hws]
  have e:=ih (p ++ [n]) fu (X ++ (UInt8.ofNat 32 :: dec n)) (s+n) (by rw[h1];simp) (by omega) (by simp;omega) (by simp;omega) (by omega)
  simp only[List.cons_append,List.nil_append]
  rw[e]
  simp only[numsL,List.flatMap_cons,List.append_assoc,List.cons_append,List.sum_cons,Nat.add_assoc]
  rfl
theorem s26 {w X:List UInt8} {k:Nat} {g:Nat→List V} {s:Nat} {ns:List Nat} (hk:k=ns.length) (hg:RowIs ns g) (hn:∀ n ∈ ns,n<1000000000000000000) (h1:1≤X.length) (h2:X.length+w.length+20*ns.length≤100000) (h3:s+1000000000000000000*ns.length<9223372036854775808) (hF:1000<F) (hN:ns.length≤100) :
 (E F (d+1)).hv 26 [.optr 0 0 0,.str (str w),.osl 1 0 k] [.box 71 [.optr 0 0 0,.osl 2 0 X.length,.int .i64 (s:Int)] true,.arr 3 1 k g true,.arr 5 1 X.length (byteGet (str X)) true] =
  some (.ret (.tup []),[.box 71 [.optr 0 0 0,.osl 3 0 (X ++ lineL w ns).length,.int .i64 ((s+ns.sum:Nat):Int)] true,.arr 3 1 k g true,.dead,.arr 5 1 (X ++ lineL w ns).length (byteGet (str (X ++ lineL w ns))) true]):=by
 rw[E_hv _ _ _ _ _ (by decide) (by decide),t26,oW h1 (by omega)]
 simp only[tkHvP_r,tkSCons_c,tkBox_b,tkCons_c,tkSl_o,tkInt_i,tkNil_0,tkDead_d,tkArr_a,tkSNil_n,z71,z20,z51,zsv,pT]
 have e:=l26 F d (str w) k g (s:Int) X.length (byteGet (str X)) ns hk hg (by omega) hn ns [] F (X ++ w) s rfl (by omega) (by simp;omega) (by simp;omega) h3
 have e2:X ++ w ++ numsL ns ++ [10]=X ++ lineL w ns:=by simp[lineL]
 rw[e2,show ((([]:List Nat).length:Nat):Int)=0 from rfl] at e
 exact e
theorem s9026 {w:List UInt8} {k:Nat} {g:Nat→List V} {s:Nat} {ns:List Nat} (hk:k=ns.length) (hg:RowIs ns g) (hn:∀ n ∈ ns,n<1000000000000000000) (h1:1≤w.length) (h2:w.length+20*ns.length≤100000) (h3:s+1000000000000000000*ns.length<9223372036854775808) (hF:1000<F) (hN:ns.length≤100) :
 (E F (d+1)).hv 26 [.optr 0 0 0,.str (str w),.osl 1 0 k] [.box 71 [.nilp,.row true 0 0 (fun _=>[]),.int .i64 (s:Int)] true,.arr 3 1 k g true] =
  some (.ret (.tup []),[.box 71 [.optr 0 0 0,.osl 2 0 (lineL w ns).length,.int .i64 ((s+ns.sum:Nat):Int)] true,.arr 3 1 k g true,.arr 5 1 (lineL w ns).length (byteGet (str (lineL w ns))) true]):=by
 rw[E_hv _ _ _ _ _ (by decide) (by decide),t9026,oW0 h1 (by omega)]
 simp only[tkHvP_r,tkSCons_c,tkBox_b,tkCons_c,tkSl_o,tkInt_i,tkNil_0,tkDead_d,tkArr_a,tkSNil_n,z71,z10,z51,zsv,pT]
 have e:=l9026 F d (str w) k g (s:Int) ns hk hg (by omega) hn ns [] F w s rfl (by omega) (by omega) (by omega) h3
 rw[show ((([]:List Nat).length:Nat):Int)=0 from rfl] at e
 exact e
def hN (c:Cav):List Nat:=[c.slices.len,c.hold.toNat,c.oil.toNat]
def sN (s:Slc):List Nat:=[s.vol.lo.toNat,s.vol.hi.toNat,s.opn.toNat,s.fall.toNat,s.rate.lo.toNat,s.rate.hi.toNat,s.most.toNat]
def rowsN (c:Cav):List (List Nat):=(List.range c.slices.len).map fun i=>sN (c.slices.el i)
def sonarW:List UInt8:=[115,111,110,97,114]
def sliceW:List UInt8:=[115,108,105,99,101]
def bodyL (h:List Nat) (ss:List (List Nat)):List UInt8:=lineL sonarW h ++ ss.flatMap (lineL sliceW)
def sumL (h:List Nat) (ss:List (List Nat)):Nat:=h.sum+(ss.map List.sum).sum
def logL (h:List Nat) (ss:List (List Nat)):List UInt8:=bodyL h ss ++ endL (sumL h ss)
def SlcP (s:Slc):Prop:=(0≤s.vol.lo∧s.vol.lo<100000000000000)∧(0≤s.vol.hi∧s.vol.hi<100000000000000)∧(0≤s.opn∧s.opn<100000000000000)∧(0≤s.fall∧s.fall<100000000000000)∧(0≤s.rate.lo∧s.rate.lo<100000000000000)∧(0≤s.rate.hi∧s.rate.hi<100000000000000)∧(0≤s.most∧s.most<100000000000000)
theorem slcP_of {s:Slc} (h:SlcOk s):SlcP s:=by
 unfold SlcP
 obtain⟨⟨a1,a2,a3⟩,⟨b1,b2⟩,⟨c1,c2⟩,⟨d1,d2,d3⟩,e1,e2⟩:=h
 omega
theorem slc_row {s:Slc} (h:SlcP s):RowIs (sN s) (fun u=>List.take 1 (List.drop (Min.min u 6*1) (eSlc s))):=by
 intro i n hi
 unfold SlcP at h
 match i,hi with
 |0,hi=>cases hi;simp;omega
 |1,hi=>cases hi;simp;omega
 |2,hi=>cases hi;simp;omega
 |3,hi=>cases hi;simp;omega
 |4,hi=>cases hi;simp;omega
 |5,hi=>cases hi;simp;omega
 |6,hi=>cases hi;simp;omega
theorem slc_lt {s:Slc} (h:SlcP s):∀ n ∈ sN s,n<1000000000000000000:=by
 unfold SlcP at h
 intro n hn
 simp only[sN,List.mem_cons,List.not_mem_nil,or_false] at hn
 omega
theorem head_row {c:Cav} (h1:0≤c.hold) (h2:0≤c.oil):RowIs (hN c) (fun u=>List.take 1 (List.drop (Min.min u 2*1) [.int .i64 (c.slices.len:Int),.int .i64 c.hold,.int .i64 c.oil])):=by
 intro i n hi
 match i,hi with
 |0,hi=>cases hi;simp
 |1,hi=>cases hi;simp;omega
 |2,hi=>cases hi;simp;omega
end Go.Sim.Lg

namespace Go.Sim.Lg
open Go.Proofs
open Go.Sim.Le (Cav Slc Span Stg Sl sl eCav eSlc eSpan eInt eStg CavOk SlcOk tkOut_ret tkBool_b tkInt_i tkAgg_a tkTup_t tkRow_r tkCons_c tkHv_h tkSCons_c tkSNil_n tkBox_b tkArr_a tkSl_r tkSl_o pT pF wr wrS)
section
variable {R:Type}
theorem tkSame_0 (a:Slot) (f k:R):tkSame a a f k=k:=by unfold tkSame;rw[if_pos rfl]
end
theorem zren (n:Nat) (q:IntKind) (s:Int):renBS (bkN [0,1] 3) (List.getD [.box 71 [.optr 0 0 0,.osl 1 0 n,.int q s] true,.dead] 0 .free) = .box 71 [.optr 0 0 0,.osl 1 0 n,.int q s] true:=rfl
theorem zlen (a b:Slot):Nat.beq (List.length [a,b]) 2=true:=rfl
theorem z37:((Nat.beq 3 3 && Nat.beq 1 1) && (Nat.beq 7 7 && (true==true)))=true:=rfl
theorem z33:((Nat.beq 3 3 && Nat.beq 1 1) && (Nat.beq 3 3 && (true==true)))=true:=rfl
variable (F d:Nat)
def rowsF (c:Cav) (p r:Nat):List (List Nat):=(List.range' p r).map fun i=>sN (c.slices.el i)
theorem rowsN_eq (c:Cav):rowsN c=rowsF c 0 c.slices.len:=by unfold rowsN rowsF;rw[List.range_eq_range']
theorem sN_sum {s:Slc} (h:SlcP s):(sN s).sum<1000000000000000:=by
 unfold SlcP at h
 simp only[sN,List.sum_cons,List.sum_nil]
 omega
theorem line_len {w:List UInt8} {ns:List Nat} (hn:∀ n ∈ ns,n<1000000000000000000):(lineL w ns).length≤w.length+19*ns.length+1:=by
 unfold lineL
 have:(numsL ns).length≤19*ns.length:=by
  induction ns with
  |nil=>simp[numsL]
  |cons n r ih =>
   have h1:(dec n).length≤18:=dec_le (by omega) (hn n (List.mem_cons_self ..))
   have h2:=ih fun m hm=>hn m (List.mem_cons_of_mem _ hm)
   simp only[numsL,List.flatMap_cons,List.length_append,List.length_cons] at h2 ⊢
   omega
 simp
 omega
theorem l8 (c:Cav) (hc:∀ i,i<c.slices.len→SlcP (c.slices.el i)) (hF:1000<F) (hl:c.slices.len≤1000) :
 ∀ (r p fu:Nat) (X:List UInt8) (s:Nat),p+r=c.slices.len→r<fu→1≤X.length→X.length+200*r≤90000→s+1000000000000000*r≤1000000000000000000 →
  L8x0 (E F (d+2)) F c fu (p:Int) X.length .i64 (s:Int) X.length (byteGet (str X)) =
   some (.ret (.tup [.str (str (X ++ (rowsF c p r).flatMap (lineL sliceW) ++ endL (s+((rowsF c p r).map List.sum).sum))),.int .i64 0])):=by
 intro r
 induction r with
 |zero =>
  intro p fu X s h1 h2 h3 h4 h5
  obtain⟨fu,rfl⟩:=ex1 (n:=fu) (by omega)
  have hs:=s28 F (d+1) (n:=s) (by omega)
  have he:(endL s).length≤10:=by
   have l1:(dec (s % 97 / 10)).length≤1:=dec_le (by omega) (by omega)
   have l2:(dec (s % 97 % 10)).length≤1:=dec_le (by omega) (by omega)
   simp[endL];omega
  rw[L8x0s,dF (by omega),pF,oS h3]
  simp only[tkHv_h,tkStr_s,zlen,zren,pT,tkSame_0,hs,tkOut_ret]
  rw[size_str,size_str,dT (by omega),pT,catS_str]
  simp[rowsF]
 |succ r ih =>
  intro p fu X s h1 h2 h3 h4 h5
  obtain⟨fu,rfl⟩:=ex1 (n:=fu) (by omega)
  have hp:=hc p (by omega)
  have hw:IntKind.wrap .i64 ((p:Int)+1)=((p+1:Nat):Int):=wrS (by omega)
  have hsum:=sN_sum hp
  have hll:=line_len (w:=sliceW) (slc_lt hp)
  have hl7:(sN (c.slices.el p)).length=7:=rfl
  have hw5:sliceW.length=5:=rfl
  have e:=s26 F (d+1) (w:=sliceW) (X:=X) (k:=7) (s:=s) (ns:=sN (c.slices.el p)) rfl (slc_row hp) (slc_lt hp) h3 (by omega) (by omega) (by omega) (by omega)
  rw[L8x0s,dT (by omega),pT,dT (by omega),pT,pT,tnC,bs_str]
  rw[show (str ([115,108,105,99,101].map UInt8.ofNat))=str sliceW from rfl,e]
  simp only[tkHvP_r,tkTup_t,tkNil_0,tkSCons_c,tkBox_b,tkCons_c,tkSl_o,tkInt_i,tkDead_d,tkArr_a,tkSNil_n,z71,z30,z37,z51,zsv,pT,hw]
  rw[ih (p+1) fu (X ++ lineL sliceW (sN (c.slices.el p))) (s+(sN (c.slices.el p)).sum) (by omega) (by omega) (by simp;omega) (by simp;omega) (by omega)]
  simp only[rowsF,List.range'_succ,List.map_cons,List.flatMap_cons,List.sum_cons,List.append_assoc,Nat.add_assoc]
theorem s8 (c:Cav) (hB:c.slices.len<4611686018427387904) (hF:1000<F) (hl:c.slices.len<F) :
 (E F (d+3)).pf 8 [.agg (eCav c)]=some (.ret (.tup (if CavOk c then [.str (str (logL (hN c) (rowsN c))),.int .i64 0] else [.str (str []),.int .i64 2]))):=by
 have hv:(E F (d+2)).pf 25 [.agg (eCav c)]=some (.ret (.bool (decide (CavOk c)))):=E_l rfl (Le.s66 F 35 c hB hl) rfl
 rw[E_pf _ _ _ _ rfl rfl rfl,t8,hv,tkOut_ret,tkBool_b]
 by_cases hc:CavOk c
 ·have hp:∀ i,i<c.slices.len→SlcP (c.slices.el i):=fun i hi=>slcP_of (hc.2.2.2 i hi)
  have hh:=hc.2.1
  have ho:=hc.2.2.1
  have hlen:=hc.1
  have hn:∀ n ∈ hN c,n<1000000000000000000:=by
   intro n hn
   simp only[hN,List.mem_cons,List.not_mem_nil,or_false] at hn
   omega
  have hll:=line_len (w:=sonarW) hn
  have hl3:(hN c).length=3:=rfl
  have hw5:sonarW.length=5:=rfl
  have h1:1≤(lineL sonarW (hN c)).length:=by simp[lineL,hw5];omega
  have hs3:(hN c).sum≤20000000000000:=by simp only[hN,List.sum_cons,List.sum_nil];omega
  have e:=s9026 F (d+1) (w:=sonarW) (k:=3) (s:=0) (ns:=hN c) rfl (head_row (by omega) (by omega)) hn (by omega) (by omega) (by omega) hF (by omega)
  rw[show ((0:Nat):Int)=0 from rfl,Nat.zero_add] at e
  have e2:=l8 F d c hp hF (by omega) c.slices.len 0 F (lineL sonarW (hN c)) (hN c).sum (by omega) (by omega) h1 (by omega) (by omega)
  rw[show ((0:Nat):Int)=0 from rfl] at e2
  rw[dT hc,if_pos hc,show (!true)=false from rfl,pF,bs_str,show (str ([115,111,110,97,114].map UInt8.ofNat))=str sonarW from rfl,e]
  simp only[tkHvP_r,tkTup_t,tkNil_0,tkSCons_c,tkBox_b,tkCons_c,tkSl_o,tkInt_i,tkArr_a,tkSNil_n,z71,z20,z33,z51,zsv,pT]
  rw[e2,rowsN_eq]
  rfl
 ·rw[dF hc,if_neg hc]
  rfl
end Go.Sim.Lg

namespace Go.Sim.Lg
open Go.Proofs
open Go.Sim.Le (Cav Slc Span Stg Sl sl eCav eSlc eSpan eInt eStg CavOk SlcOk tkOut_ret tkBool_b tkInt_i tkAgg_a tkTup_t tkRow_r tkCons_c tkHv_h tkSCons_c tkSNil_n tkBox_b tkArr_a tkSl_r tkSl_o pT pF wr wrS)
variable (F d:Nat)
theorem rowI (l:List Int) (m:Nat) (h:m<l.length):(fun u:Nat=>List.take 1 (List.drop (Min.min u m*1) (l.map (V.int .i64))))=fun u=>eInt (l.getD (min u m) 0):=by
 funext u
 have h1:min u m<(l.map (V.int .i64)).length:=by simp;omega
 rw[Nat.mul_one,List.drop_eq_getElem_cons h1]
 simp[show min u m<l.length by omega]
def head (c:Cav):Sl Int:=⟨false,3,fun u=>[(c.slices.len:Int),c.hold,c.oil].getD (min u 2) 0⟩
def slice (s:Slc):Sl Int:=⟨false,7,fun u=>[s.vol.lo,s.vol.hi,s.opn,s.fall,s.rate.lo,s.rate.hi,s.most].getD (min u 6) 0⟩
def gK (c:Cav):Nat→Nat→List V
 |0=>fun _=>[sl eInt 1 (head c)]
 |k+1=>appGet (k+1) (gK c k) fun _=>[sl eInt 1 (slice (c.slices.el k))]
def rowAt (c:Cav):Nat→Sl Int
 |0=>head c
 |i+1=>slice (c.slices.el i)
theorem gK_at (c:Cav):∀ k i,i≤k→gK c k i=[sl eInt 1 (rowAt c i)]:=by
 intro k
 induction k with
 |zero =>
  intro i h;obtain rfl:i=0:=by omega
  rfl
 |succ k ih =>
  intro i h
  show appGet (k+1) (gK c k) _ i=_
  unfold appGet
  by_cases h1:i<k+1
  ·rw[if_pos h1,ih i (by omega)]
  ·rw[if_neg h1]
   obtain rfl:i=k+1:=by omega
   rfl
theorem l31 (env:Env) (c:Cav) (hl:c.slices.len≤1000000):∀ (r k fu:Nat),k+r=c.slices.len→r<fu →
 L31x0 env F c fu (k+1) (k:Int) (k+1) (gK c k)=some (.ret (.row false (c.slices.len+1) 1 (gK c c.slices.len))):=by
 intro r
 induction r with
 |zero =>
  intro k fu h1 h2
  obtain⟨fu,rfl⟩:=ex1 (n:=fu) (by omega)
  obtain rfl:k=c.slices.len:=by omega
  rw[L31x0s,dF (by omega),pF]
 |succ r ih =>
  intro k fu h1 h2
  obtain⟨fu,rfl⟩:=ex1 (n:=fu) (by omega)
  have hw:IntKind.wrap .i64 ((k:Int)+1)=((k+1:Nat):Int):=wrS (by omega)
  have hr:=rowI [(c.slices.el k).vol.lo,(c.slices.el k).vol.hi,(c.slices.el k).opn,(c.slices.el k).fall,(c.slices.el k).rate.lo,(c.slices.el k).rate.hi,(c.slices.el k).most] 6 (by simp)
  rw[L31x0s,dT (by omega),pT,dT (by omega),pT,pT,dT (by omega),pT,tnC,hw]
  simp only[List.map_cons,List.map_nil] at hr
  rw[hr]
  exact ih (k+1) fu (by omega) (by omega)
theorem s31 (c:Cav) (hl:c.slices.len≤1000000) (hF:c.slices.len<F):(E F (d+1)).pf 31 [.agg (eCav c)]=some (.ret (.row false (c.slices.len+1) 1 (gK c c.slices.len))):=by
 have hr:=rowI [(c.slices.len:Int),c.hold,c.oil] 2 (by simp)
 simp only[List.map_cons,List.map_nil] at hr
 rw[E_pf _ _ _ _ rfl rfl rfl,t31,hr]
 exact l31 F (E F d) c hl c.slices.len 0 F (by omega) hF
def nsAt (c:Cav):Nat→List Nat
 |0=>hN c
 |i+1=>sN (c.slices.el i)
structure CavP (c:Cav):Prop where
 hold:0≤c.hold∧c.hold<100000000000000
 oil:0≤c.oil∧c.oil<100000000000000
 len:c.slices.len≤2000
 slc:∀ i,i<c.slices.len→SlcP (c.slices.el i)
theorem row_len (c:Cav) (i:Nat):(rowAt c i).len=(nsAt c i).length:=by cases i<;>rfl
theorem row_el {c:Cav} (h:CavP c) {i:Nat} (hi:i≤c.slices.len):∀ (j n:Nat),(nsAt c i)[j]? = some n→(rowAt c i).el j=(n:Int):=by
 intro j n hj
 cases i with
 |zero =>
  have h1:=h.hold
  have h2:=h.oil
  match j,hj with
  |0,hj=>cases hj;rfl
  |1,hj=>cases hj;show c.hold=_;omega
  |2,hj=>cases hj;show c.oil=_;omega
 |succ i =>
  have hp:=h.slc i (by omega)
  unfold SlcP at hp
  match j,hj with
  |0,hj=>cases hj;show (c.slices.el i).vol.lo=_;omega
  |1,hj=>cases hj;show (c.slices.el i).vol.hi=_;omega
  |2,hj=>cases hj;show (c.slices.el i).opn=_;omega
  |3,hj=>cases hj;show (c.slices.el i).fall=_;omega
  |4,hj=>cases hj;show (c.slices.el i).rate.lo=_;omega
  |5,hj=>cases hj;show (c.slices.el i).rate.hi=_;omega
  |6,hj=>cases hj;show (c.slices.el i).most=_;omega
theorem row_lt {c:Cav} (h:CavP c) {i:Nat} (hi:i≤c.slices.len):∀ n ∈ nsAt c i,n<1000000000000000000:=by
 cases i with
 |zero =>
  have h1:=h.hold
  have h2:=h.oil
  have h3:=h.len
  intro n hn
  simp only[nsAt,hN,List.mem_cons,List.not_mem_nil,or_false] at hn
  omega
 |succ i=>exact slc_lt (h.slc i (by omega))
theorem row_sum {c:Cav} (h:CavP c) {i:Nat} (hi:i≤c.slices.len):(nsAt c i).sum<1000000000000000:=by
 cases i with
 |zero =>
  have h1:=h.hold
  have h2:=h.oil
  have h3:=h.len
  simp only[nsAt,hN,List.sum_cons,List.sum_nil]
  omega
 |succ i=>exact sN_sum (h.slc i (by omega))
theorem row_le {c:Cav} (i:Nat):(nsAt c i).length≤7:=by cases i<;>simp[nsAt,hN,sN]
end Go.Sim.Lg

namespace Go.Sim.Lg
open Go.Proofs
open Go.Sim.Le (Cav Slc Span Stg Sl sl eCav eSlc eSpan eInt eStg CavOk SlcOk)
theorem sliceW_no:(32:UInt8) ∉ sliceW∧(10:UInt8) ∉ sliceW:=by decide
theorem sonarW_no:(32:UInt8) ∉ sonarW∧(10:UInt8) ∉ sonarW:=by decide
def Row7 (s:List Nat):Prop:=s.length=7∧Nums s
noncomputable def rowsP:Nat→List UInt8→Option (List (List Nat) × List UInt8)
 |0,t=>some ([],t)
 |n+1,t=>match lineP sliceW 7 t with | none=>none | some x=>match rowsP n x.2 with | none=>none | some y=>some (x.1 :: y.1,y.2)
theorem rowsP_iff:∀ {n:Nat} {t r:List UInt8} {ss:List (List Nat)},rowsP n t=some (ss,r)↔ss.length=n∧(∀ s ∈ ss,Row7 s)∧t=ss.flatMap (lineL sliceW) ++ r
 |0,t,r,ss=>by
  constructor
  ·intro h
   cases h
   exact⟨rfl,by simp,rfl⟩
  ·rintro⟨h1,_,rfl⟩
   rw[List.length_eq_zero_iff.1 h1]
   rfl
 |n+1,t,r,ss=>by
  constructor
  ·intro h
   unfold rowsP at h
   split at h
   ·cases h
   ·rename_i x hx
    obtain⟨s,t'⟩:=x
    split at h
    ·cases h
    ·rename_i y hy
     obtain⟨ss',r'⟩:=y
     cases h
     obtain⟨h1,h2,h3⟩:=rowsP_iff.1 hy
     obtain⟨h4,h5,h6⟩:=(lineP_iff sliceW_no.1 sliceW_no.2).1 hx
     refine⟨by simp[h1],?_,?_⟩
     ·intro x hx
      rcases List.mem_cons.1 hx with rfl | hx
      ·exact⟨h4,h5⟩
      ·exact h2 x hx
     ·rw[List.flatMap_cons,h6]
      dsimp only at h3
      rw[h3,List.append_assoc]
  ·rintro⟨h1,h2,rfl⟩
   cases ss with
   |nil=>cases h1
   |cons s ss =>
    have e1:lineP sliceW 7 ((s :: ss).flatMap (lineL sliceW) ++ r)=some (s,ss.flatMap (lineL sliceW) ++ r) :=
     (lineP_iff sliceW_no.1 sliceW_no.2).2 ⟨(h2 s (List.mem_cons_self ..)).1,(h2 s (List.mem_cons_self ..)).2,by rw[List.flatMap_cons,List.append_assoc]⟩
    have e2:rowsP n (ss.flatMap (lineL sliceW) ++ r)=some (ss,r):=rowsP_iff.2 ⟨by simpa using h1,fun x hx=>h2 x (List.mem_cons_of_mem _ hx),rfl⟩
    unfold rowsP
    rw[e1]
    dsimp only
    rw[e2]
structure IsLog (t:List UInt8) (h:List Nat) (ss:List (List Nat)):Prop where
 head:h.length=3∧Nums h
 many:ss.length=h.getD 0 0
 rows:∀ s ∈ ss,Row7 s
 text:t=logL h ss
noncomputable def readP (t:List UInt8):Option (List Nat × List (List Nat)) :=
 match lineP sonarW 3 t with
 |none=>none
 |some x=>match rowsP (x.1.getD 0 0) x.2 with
  |none=>none
  |some y=>if y.2=endL (sumL x.1 y.1) then some (x.1,y.1) else none
theorem readP_iff {t:List UInt8} {h:List Nat} {ss:List (List Nat)}:readP t=some (h,ss)↔IsLog t h ss:=by
 constructor
 ·intro hx
  unfold readP at hx
  split at hx
  ·cases hx
  ·rename_i x h1
   obtain⟨h',r⟩:=x
   split at hx
   ·cases hx
   ·rename_i y h2
    obtain⟨ss',r'⟩:=y
    split at hx
    ·rename_i h3
     cases hx
     obtain⟨a1,a2,a3⟩:=(lineP_iff sonarW_no.1 sonarW_no.2).1 h1
     obtain⟨b1,b2,b3⟩:=rowsP_iff.1 h2
     dsimp only at b1 b3 h3
     refine⟨⟨a1,a2⟩,b1,b2,?_⟩
     rw[a3,b3,h3]
     simp[logL,bodyL]
    ·cases hx
 ·rintro⟨⟨h1,h2⟩,h3,h4,rfl⟩
  have e1:lineP sonarW 3 (logL h ss)=some (h,ss.flatMap (lineL sliceW) ++ endL (sumL h ss)) :=
   (lineP_iff sonarW_no.1 sonarW_no.2).2 ⟨h1,h2,by simp[logL,bodyL]⟩
  have e2:rowsP (h.getD 0 0) (ss.flatMap (lineL sliceW) ++ endL (sumL h ss))=some (ss,endL (sumL h ss)):=rowsP_iff.2 ⟨h3,h4,rfl⟩
  unfold readP
  rw[e1]
  dsimp only
  rw[e2]
  dsimp only
  rw[if_pos rfl]
theorem line_sum {w:List UInt8} {k:Nat} {t r:List UInt8} {ns:List Nat} (hw:32 ∉ w∧10 ∉ w) (h:lineP w k t=some (ns,r)):ns.sum+100000000000000*r.length≤100000000000000*t.length∧r.length<t.length:=by
 obtain⟨-,h2,h3⟩:=(lineP_iff hw.1 hw.2).1 h
 have h4:=nums_sum h2
 have h5:ns.length≤(numsL ns).length:=by
  clear h2 h3 h4 h
  induction ns with
  |nil=>exact Nat.le_refl _
  |cons n ns ih =>
   simp only[numsL,List.flatMap_cons,List.length_append,List.length_cons] at ih ⊢
   omega
 have h6:t.length=w.length+(numsL ns).length+1+r.length:=by
  rw[h3];simp[lineL];omega
 omega
def slcOf (s:List Nat):Slc:=⟨⟨s.getD 0 0,s.getD 1 0⟩,s.getD 2 0,s.getD 3 0,⟨s.getD 4 0,s.getD 5 0⟩,s.getD 6 0⟩
theorem row7 {s:List Nat} (h:Row7 s):∃ a b c d e f g,s=[a,b,c,d,e,f,g]:=by
 obtain⟨h,_⟩:=h
 match s,h with
 |[a,b,c,d,e,f,g],_=>exact⟨a,b,c,d,e,f,g,rfl⟩
theorem sN_of {s:List Nat} (h:Row7 s):sN (slcOf s)=s:=by
 obtain⟨a,b,c,d,e,f,g,rfl⟩:=row7 h
 rfl
theorem slcP_row {s:List Nat} (h:Row7 s):SlcP (slcOf s):=by
 have h2:=h.2
 obtain⟨a,b,c,d,e,f,g,rfl⟩:=row7 h
 have hl:∀ n ∈ [a,b,c,d,e,f,g],n<100000000000000:=fun n hn=>by
  have:=dec_lt n 14 (h2 n hn)
  exact this
 have ha:=hl a (by simp)
 have hb:=hl b (by simp)
 have hc:=hl c (by simp)
 have hd:=hl d (by simp)
 have he:=hl e (by simp)
 have hf:=hl f (by simp)
 have hg:=hl g (by simp)
 clear h h2 hl
 unfold SlcP slcOf
 simp
 omega
theorem slcOf_sN {s:Slc} (h:SlcP s):slcOf (sN s)=s:=by
 obtain⟨⟨a,b⟩,c,d,⟨e,f⟩,g⟩:=s
 unfold SlcP at h
 dsimp only at h
 unfold sN slcOf
 simp
 omega
def RowsIs (ss:List (List Nat)) (el:Nat→Slc):Prop:=∀ (i:Nat) (s:List Nat),ss[i]? = some s→el i=slcOf s
theorem rows_snoc {ss:List (List Nat)} {el:Nat→Slc} (h:RowsIs ss el) (s:List Nat):RowsIs (ss ++ [s]) (fun i=>if i<ss.length then el i else slcOf s):=by
 intro i m hm
 dsimp only
 rcases Nat.lt_or_ge i ss.length with h1 | h1
 ·rw[if_pos h1]
  rw[List.getElem?_append_left h1] at hm
  exact h i m hm
 ·rw[if_neg (by omega)]
  rw[List.getElem?_append_right h1] at hm
  cases hi:i - ss.length with
  |zero=>rw[hi] at hm;cases hm;rfl
  |succ j=>rw[hi] at hm;cases hm
theorem app_slc (k:Nat) (el:Nat→Slc) (s:Slc):appGet k (fun i=>eSlc (el i)) (fun _=>eSlc s)=fun i=>eSlc (if i<k then el i else s):=by
 funext i
 unfold appGet
 by_cases h:i<k
 ·rw[if_pos h,if_pos h]
 ·rw[if_neg h,if_neg h]
theorem rows_N {ss:List (List Nat)} (h7:∀ s ∈ ss,Row7 s) {el:Nat→Slc} (h:RowsIs ss el) (b:Bool) (x y:Int):rowsN ⟨⟨b,ss.length,el⟩,x,y⟩=ss:=by
 apply List.ext_getElem?
 intro i
 unfold rowsN
 dsimp only
 rw[List.getElem?_map]
 rcases Nat.lt_or_ge i ss.length with h1 | h1
 ·rw[List.getElem?_range h1,Option.map_some,h i _ (List.getElem?_eq_getElem h1),sN_of (h7 _ (List.getElem_mem h1)),List.getElem?_eq_getElem h1]
 ·rw[List.getElem?_eq_none (by simpa using h1),List.getElem?_eq_none h1]
  rfl
structure CavQ (c:Cav):Prop where
 hold:0≤c.hold
 oil:0≤c.oil
 slc:∀ i,i<c.slices.len→SlcP (c.slices.el i)
theorem cavQ_rows {ss:List (List Nat)} (h7:∀ s ∈ ss,Row7 s) {el:Nat→Slc} (hel:RowsIs ss el) (a b:Nat) (nl:Bool):CavQ ⟨⟨nl,ss.length,el⟩,(a:Int),(b:Int)⟩:=by
 refine⟨?_,?_,fun i hi=>?_⟩
 ·show (0:Int)≤(a:Int);omega
 ·show (0:Int)≤(b:Int);omega
 ·show SlcP (el i)
  have hi':i<ss.length:=hi
  rw[hel i _ (List.getElem?_eq_getElem hi')]
  exact slcP_row (h7 _ (List.getElem_mem hi'))
end Go.Sim.Lg

namespace Go.Sim.Lg
open Go.Proofs
open Go.Sim.Le (Cav Slc Span Stg Sl sl eCav eSlc eSpan eInt eStg CavOk SlcOk tkOut_ret tkBool_b tkInt_i tkAgg_a tkTup_t tkRow_r tkCons_c tkHv_h tkSCons_c tkSNil_n tkBox_b tkArr_a tkSl_r tkSl_o pT pF wr wrS)
variable (F d:Nat)
def WordsIs (ws:List (List UInt8)) (g:Nat→List V):Prop:=∀ (i:Nat) (w:List UInt8),ws[i]? = some w→g i=[.str (str w)]
theorem words_snoc {ws:List (List UInt8)} {w:List UInt8} {k:Nat} {g:Nat→List V} (hk:k=ws.length) (h:WordsIs ws g):WordsIs (ws ++ [w]) (appGet k g fun _=>[.str (str w)]):=by
 intro i m hm
 unfold appGet
 rcases Nat.lt_or_ge i ws.length with h1 | h1
 ·rw[if_pos (by omega),h i m (by rw[← hm,List.getElem?_append_left h1])]
 ·rw[if_neg (by omega)]
  rw[List.getElem?_append_right h1] at hm
  cases hi:i - ws.length with
  |zero=>rw[hi] at hm;cases hm;rfl
  |succ j=>rw[hi] at hm;cases hm
theorem words_upd {q:List (List UInt8)} {w w':List UInt8} {g:Nat→List V} (h:WordsIs (q ++ [w]) g):WordsIs (q ++ [w']) (updGet g q.length 0 [.str (str w')]):=by
 intro i m hm
 unfold updGet
 by_cases hi:i=q.length
 ·rw[if_pos hi]
  subst hi
  rw[List.getElem?_append_right (Nat.le_refl _),Nat.sub_self] at hm
  cases hm
  rw[h q.length w (by rw[List.getElem?_append_right (Nat.le_refl _),Nat.sub_self];rfl)]
  rfl
 ·rw[if_neg hi]
  refine h i m ?_
  rcases Nat.lt_or_ge i q.length with h1 | h1
  ·rw[List.getElem?_append_left h1] at hm ⊢
   exact hm
  ·rw[List.getElem?_append_right h1] at hm
   have:i - q.length ≠ 0:=by omega
   cases hj:i - q.length with
   |zero=>exact absurd hj this
   |succ j=>rw[hj] at hm;cases hm
theorem spl_snoc_eq (b:UInt8):∀ p:List UInt8,spl b (p ++ [b])=spl b p ++ [[]]
 |[]=>by simp[spl]
 |c :: p=>by
  rw[List.cons_append,spl,spl]
  by_cases h:c=b
  ·rw[if_pos h,if_pos h,spl_snoc_eq b p];rfl
  ·rw[if_neg h,if_neg h,spl_snoc_eq b p]
   cases hx:spl b p with
   |nil=>exact absurd hx (spl_ne b p)
   |cons x xs=>rfl
theorem spl_snoc_ne (b c:UInt8) (hc:c ≠ b):∀ p:List UInt8,∃ q w,spl b p=q ++ [w]∧spl b (p ++ [c])=q ++ [w ++ [c]]
 |[]=>⟨[],[],rfl,by rw[List.nil_append,spl,if_neg hc];rfl⟩
 |a :: p=>by
  obtain⟨q,w,h1,h2⟩:=spl_snoc_ne b c hc p
  rw[List.cons_append,spl,spl,h1,h2]
  by_cases h:a=b
  ·rw[if_pos h,if_pos h]
   exact⟨[] :: q,w,rfl,rfl⟩
  ·rw[if_neg h,if_neg h]
   cases q with
   |nil=>exact⟨[],a :: w,rfl,rfl⟩
   |cons x xs=>exact⟨(a :: x) :: xs,w,rfl,rfl⟩
theorem spl_le (b:UInt8):∀ p:List UInt8,(spl b p).length≤p.length+1
 |[]=>Nat.le_refl _
 |c :: p=>by
  have h:=spl_le b p
  rw[spl]
  split
  ·simp;omega
  ·simp;omega
theorem byte_int (c b:UInt8):(((c.toNat:Nat):Int)==((b.toNat:Nat):Int))=decide (c=b):=by
 by_cases h:c=b
 ·subst h;simp
 ·rw[dF h,beq_eq_false_iff_ne]
  intro e
  exact h (UInt8.toNat_inj.1 (by omega))
theorem l35 (env:Env) (t:List UInt8) (b:UInt8) (ht:t.length≤1000000):∀ (q p:List UInt8) (fu:Nat) (g:Nat→List V),t=p ++ q→q.length<fu→WordsIs (spl b p) g →
 ∃ g2,WordsIs (spl b t) g2∧L35x0 env F (str t) (b.toNat:Int) fu (spl b p).length (p.length:Int) (spl b p).length g=some (.ret (.row false (spl b t).length 1 g2)):=by
 intro q
 induction q with
 |nil =>
  intro p fu g h1 h2 h3
  obtain⟨fu,rfl⟩:=ex1 (n:=fu) (by omega)
  rw[List.append_nil] at h1
  subst h1
  refine⟨g,h3,?_⟩
  rw[L35x0s,size_str,dF (by omega),pF]
 |cons c q ih =>
  intro p fu g h1 h2 h3
  obtain⟨fu,rfl⟩:∃ k,fu=k+1:=⟨fu - 1,by simp at h2;omega⟩
  simp only[List.length_cons] at h2
  have hp:p.length+(q.length+1)=t.length:=by rw[h1];simp
  have hat:t[p.length]? = some c:=by rw[h1];simp
  have hw:IntKind.wrap .i64 ((p.length:Int)+1)=(((p ++ [c]).length:Nat):Int):=by rw[wrS (by omega)];simp
  have hw':((p ++ [c]).length:Nat)=p.length+1:=by simp
  have hle:=spl_le b p
  have hne:1≤(spl b p).length:=by
   cases hx:spl b p with
   |nil=>exact absurd hx (spl_ne b p)
   |cons x xs=>simp
  have hwk:IntKind.wrap .i64 (((spl b p).length:Int) - 1)=(((spl b p).length - 1:Nat):Int):=by rw[wr (by omega)];omega
  rw[L35x0s,size_str,dT (by omega),pT,byteAt_str,hat,tkByte_s,byte_int,hw]
  by_cases hc:c=b
  ·subst hc
   have e:=spl_snoc_eq c p
   obtain⟨g2,e1,e2⟩:=ih (p ++ [c]) fu (appGet (spl c p).length g fun _=>[.str (str [])]) (by rw[h1];simp) (by omega) (by rw[e];exact words_snoc rfl h3)
   refine⟨g2,e1,?_⟩
   rw[dT rfl,pT,dT (by omega),pT]
   rw[e] at e2
   rw[List.length_append,show ([[]]:List (List UInt8)).length=1 from rfl] at e2
   exact e2
  ·obtain⟨qs,w,e1,e2⟩:=spl_snoc_ne b c hc p
   rw[dF hc,pF,hwk]
   rw[e1] at h3 hne hle ⊢
   have hl:(qs ++ [w]).length - 1=qs.length:=by simp
   have hl2:(qs ++ [w]).length=qs.length+1:=by simp
   have hgw:g qs.length=[.str (str w)]:=h3 qs.length w (by rw[List.getElem?_append_right (Nat.le_refl _),Nat.sub_self];rfl)
   have hex:ByteArray.extract (str t) p.length (p ++ [c]).length=str [c]:=by
    rw[extract_str,h1,hw',Nat.add_sub_cancel_left]
    simp
   have hwl:w.length≤t.length:=by
    obtain⟨a1,a2,a3⟩:=(fun h=>spl_join b p.length p (qs ++ [w]).head! (qs ++ [w]).tail (Nat.le_refl _) h) (by rw[e1];cases qs<;>rfl)
    have:w ∈ spl b p:=by rw[e1];simp
    have h5:∀ (n:Nat) (p:List UInt8),p.length≤n→∀ w ∈ spl b p,w.length≤p.length:=by
     intro n
     induction n with
     |zero =>
      intro p hp w hw
      rw[List.length_eq_zero_iff.1 (Nat.le_zero.1 hp)] at hw ⊢
      simp[spl] at hw
      rw[hw];exact Nat.le_refl _
     |succ n ih =>
      intro p hp w hw
      rcases has_byte b p with hb | ⟨x,r,rfl,hb⟩
      ·rw[spl_free b p hb] at hw
       rw[List.mem_singleton.1 hw];exact Nat.le_refl _
      ·rw[spl_app b r x hb] at hw
       rcases List.mem_cons.1 hw with rfl | hw
       ·simp
       ·have:=ih r (by simp at hp;omega) w hw
        simp;omega
    have:=h5 p.length p (Nat.le_refl _) w this
    omega
   obtain⟨g2,f1,f2⟩:=ih (p ++ [c]) fu (updGet g qs.length 0 [.str (str (w ++ [c]))]) (by rw[h1];simp) (by omega) (by rw[e2];exact words_upd h3)
   refine⟨g2,f1,?_⟩
   rw[hl,hl2,tnC,tnC,tnC,hgw,hex,tkCons_c,tkStr_s,catS_str]
   rw[size_str,size_str]
   simp only[dT (show (0:Int)≤(qs.length:Int) by omega),dT (show (qs.length:Int)<((qs.length+1:Nat):Int) by omega),dT (show (0:Int)≤(((p ++ [c]).length:Nat):Int) by omega),dT (show (0:Int)≤(p.length:Int) by omega),
    dT (show p.length≤(p ++ [c]).length by omega),dT (show (p ++ [c]).length≤t.length by omega),dT (show w.length+[c].length≤9223372036854775807 by simp;omega),pT]
   rw[e2] at f2
   rw[show (qs ++ [w ++ [c]]).length=qs.length+1 by simp] at f2
   exact f2
theorem s35 {t:List UInt8} {b:UInt8} (ht:t.length≤1000000) (hF:t.length<F):∃ g,WordsIs (spl b t) g∧(E F (d+1)).pf 35 [.str (str t),.int .u8 (b.toNat:Int)]=some (.ret (.row false (spl b t).length 1 g)):=by
 rw[E_pf _ _ _ _ rfl rfl rfl,t35]
 exact l35 F (E F d) t b ht t [] F (fun _=>[.str (bs [])]) rfl hF (by intro i m hm;cases i with | zero=>cases hm;rfl | succ i=>cases hm)
theorem l60 (w:List UInt8) (hw:w.length≤14) (n0:Int) (hF:1000<F):∀ (q p:List UInt8) (fu acc:Nat),w=p ++ q→q.length<fu→acc<10 ^ p.length →
 L60x0 (E F (d+1)) F (str w) n0 fu (acc:Int) (p.length:Int)=(match Lib.decFrom acc q with | some n=>some (.ret (.tup [.int .i64 (n:Int),.bool (decide (dec n=w))])) | none=>some (.ret (.tup [.int .i64 0,.bool false]))):=by
 intro q
 induction q with
 |nil =>
  intro p fu acc h1 h2 h3
  obtain⟨fu,rfl⟩:=ex1 (n:=fu) (by omega)
  rw[List.append_nil] at h1
  subst h1
  have h4:(10:Nat) ^ w.length≤10 ^ 14:=Nat.pow_le_pow_right (by omega) hw
  have h5:acc<1000000000000000000:=by
   have:(10:Nat) ^ 14=100000000000000:=by decide
   omega
  rw[L60x0s,size_str,dF (by omega),pF,s56 F d h5 hF,tkOut_ret,tkStr_s,eqS_str]
  rfl
 |cons b q ih =>
  intro p fu acc h1 h2 h3
  obtain⟨fu,rfl⟩:∃ k,fu=k+1:=⟨fu - 1,by simp at h2;omega⟩
  simp only[List.length_cons] at h2
  have hp:p.length+(q.length+1)=w.length:=by rw[h1];simp
  have hat:w[p.length]? = some b:=by rw[h1];simp
  have hwr:IntKind.wrap .i64 ((p.length:Int)+1)=(((p ++ [b]).length:Nat):Int):=by rw[wrS (by omega)];simp
  rw[L60x0s,size_str,dT (by omega),pT,byteAt_str,hat,tkByte_s,tkByte_s,tkByte_s]
  unfold Lib.decFrom Lib.digitVal
  by_cases c1:b.toNat<48
  ·rw[dT (by omega),pT,if_neg (by omega)]
  ·rw[dF (by omega),pF]
   by_cases c2:57<b.toNat
   ·rw[dT (by omega),pT,if_neg (by omega)]
   ·rw[dF (by omega),pF,if_pos (by omega),hwr]
    have h4:(10:Nat) ^ (p.length+1)≤10 ^ 14:=Nat.pow_le_pow_right (by omega) (by omega)
    have h5:(10:Nat) ^ 14=100000000000000:=by decide
    have h6:(10:Nat) ^ (p.length+1)=10 ^ p.length*10:=Nat.pow_succ ..
    have e1:IntKind.wrap .i64 ((10:Int)*(acc:Int))=((10*acc:Nat):Int):=by rw[wr (by omega)];omega
    have e2:IntKind.wrap .u8 (((b.toNat:Nat):Int) - 48)=((b.toNat - 48:Nat):Int):=by
     rw[IntKind.wrap_u8];omega
    have e3:IntKind.wrap .i64 ((b.toNat - 48:Nat):Int)=((b.toNat - 48:Nat):Int):=wr (by omega)
    have e4:IntKind.wrap .i64 (((10*acc:Nat):Int)+((b.toNat - 48:Nat):Int))=((acc*10+(b.toNat - 48):Nat):Int):=by rw[wr (by omega)];omega
    rw[e1,e2,e3,e4]
    exact ih (p ++ [b]) fu _ (by rw[h1];simp) (by omega) (by rw[show (p ++ [b]).length=p.length+1 by simp];omega)
theorem s60 {w:List UInt8} (hF:1000<F):∃ m:Int,∃ b:Bool,(E F (d+2)).pf 60 [.str (str w),.int .i64 14]=some (.ret (.tup [.int .i64 m,.bool b]))∧(match numOf w with | some n=>m=n∧b=true | none=>b=false):=by
 rw[E_pf _ _ _ _ rfl rfl rfl,t60,size_str]
 by_cases h0:w=[]
 ·subst h0
  refine⟨0,false,rfl,?_⟩
  cases hn:numOf [] with
  |none=>rfl
  |some n =>
   have:=(numOf_some.1 hn).1
   exact absurd this.symm (dec_ne n)
 ·have h1:w.length ≠ 0:=fun e=>h0 (List.length_eq_zero_iff.1 e)
  rw[show ((w.length:Int)==0)=false by rw[beq_eq_false_iff_ne];omega,pF]
  by_cases h2:w.length≤14
  ·rw[dF (by omega),pF]
   have e:=l60 F d w h2 14 hF w [] F 0 rfl (by omega) (by simp)
   rw[show ((([]:List UInt8).length:Nat):Int)=0 from rfl,show ((0:Nat):Int)=0 from rfl] at e
   rw[e]
   cases hx:Lib.decFrom 0 w with
   |none =>
    refine⟨0,false,rfl,?_⟩
    cases hn:numOf w with
    |none=>rfl
    |some n =>
     have h3:=numOf_some.1 hn
     have h4:=((num_spec w n).2 h3).2.2.1
     rw[hx] at h4
     cases h4
   |some n =>
    refine⟨n,decide (dec n=w),rfl,?_⟩
    cases hn:numOf w with
    |none =>
     refine dF fun e=>?_
     exact numOf_none hn n ⟨e.symm,h2⟩
    |some m =>
     have h3:=numOf_some.1 hn
     have h4:=((num_spec w m).2 h3).2.2.1
     rw[hx] at h4
     cases h4
     exact⟨rfl,dT h3.1.symm⟩
  ·rw[dT (by omega),pT]
   refine⟨0,false,rfl,?_⟩
   cases hn:numOf w with
   |none=>rfl
   |some n=>exact absurd (numOf_some.1 hn).2 h2
end Go.Sim.Lg

namespace Go.Sim.Lg
open Go.Proofs
open Go.Sim.Le (Cav Slc Span Stg Sl sl eCav eSlc eSpan eInt eStg CavOk SlcOk tkOut_ret tkBool_b tkInt_i tkAgg_a tkTup_t tkRow_r tkCons_c tkHv_h tkSCons_c tkSNil_n tkBox_b tkArr_a tkSl_r tkSl_o pT pF wr wrS)
variable (F d:Nat)
def nilR:V:=.row true 0 0 (fun _=>[])
theorem l36x1 (t u:ByteArray) (n0:Int) (G:Nat→List V) (ws:List (List UInt8)) (hG:WordsIs ws G) (hL:ws.length≤1000) (hF:1000<F) :
 ∀ (q p:List (List UInt8)) (fu:Nat) (ns:List Nat) (g:Nat→List V),ws=p ++ q→q.length<fu→RowIs ns g→ns.length+1=p.length →
  (match numsOf q with
   |some ms=>∃ g2,RowIs (ns ++ ms) g2∧L36x1 (E F (d+2)) F t u n0 fu false ws.length 1 G ns.length (p.length:Int) ns.length g=some (.ret (.tup [.row false (ns ++ ms).length 1 g2,.bool true]))
   |none=>L36x1 (E F (d+2)) F t u n0 fu false ws.length 1 G ns.length (p.length:Int) ns.length g=some (.ret (.tup [nilR,.bool false]))):=by
 intro q
 induction q with
 |nil =>
  intro p fu ns g h1 h2 h3 h4
  obtain⟨fu,rfl⟩:=ex1 (n:=fu) (by omega)
  have hp:p.length=ws.length:=by rw[h1];simp
  refine⟨g,by rwa [List.append_nil],?_⟩
  rw[L36x1s,dF (by omega),pF,List.append_nil]
 |cons w q ih =>
  intro p fu ns g h1 h2 h3 h4
  obtain⟨fu,rfl⟩:∃ k,fu=k+1:=⟨fu - 1,by simp at h2;omega⟩
  simp only[List.length_cons] at h2
  have hp:p.length+(q.length+1)=ws.length:=by rw[h1];simp
  have hat:ws[p.length]? = some w:=by rw[h1];simp
  have hwr:IntKind.wrap .i64 ((p.length:Int)+1)=(((p ++ [w]).length:Nat):Int):=by rw[wrS (by omega)];simp
  obtain⟨m,b,e1,e2⟩:=s60 F d (w:=w) hF
  rw[L36x1s,dT (show (p.length:Int)<((ws.length:Nat):Int) by omega),pT,z11,pT,dT (show (0:Int)≤(p.length:Int) by omega),pT,pT,tnC,hG _ _ hat,tkCons_c,tkStr_s,e1,tkOut_ret]
  simp only[tkTup_t,tkCons_c,tkInt_i,tkBool_b,tkNil_0]
  unfold numsOf
  cases hn:numOf w with
  |none =>
   rw[hn] at e2
   dsimp only at e2 ⊢
   rw[e2,Bool.not_false,pT]
   rfl
  |some n =>
   rw[hn] at e2
   obtain⟨rfl,rfl⟩:=e2
   dsimp only
   rw[Bool.not_true,pF,dT (show (ns.length+1)*8≤140737488355328 by omega),pT,hwr]
   have e:=ih (p ++ [w]) fu (ns ++ [n]) (appGet ns.length g fun _=>[.int .i64 (n:Int)]) (by rw[h1];simp) (by omega) (row_snoc rfl h3) (by simp;omega)
   rw[show (ns ++ [n]).length=ns.length+1 by simp] at e
   cases hq:numsOf q with
   |none=>rw[hq] at e;exact e
   |some ms =>
    rw[hq] at e
    obtain⟨g2,e1,e2⟩:=e
    rw[List.append_assoc] at e1 e2
    exact⟨g2,e1,e2⟩
theorem s36 {w l:List UInt8} {k:Nat} (hl:l.length≤1000000) (hk1:1≤k) (hk2:k≤100) (hF1:l.length<F) (hF:1000<F) :
 (∃ ns g,takeL w k l=some ns∧RowIs ns g∧(E F (d+3)).pf 36 [.str (str l),.str (str w),.int .i64 (k:Int)]=some (.ret (.tup [.row false k 1 g,.bool true]))) ∨
 (takeL w k l=none∧(E F (d+3)).pf 36 [.str (str l),.str (str w),.int .i64 (k:Int)]=some (.ret (.tup [nilR,.bool false]))):=by
 obtain⟨G,hG,hs⟩:=s35 F (d+1) (t:=l) (b:=32) hl hF1
 have h32:(((32:UInt8).toNat:Nat):Int)=32:=rfl
 rw[h32] at hs
 obtain⟨X,hX⟩:∃ X,X=(E F (d+3)).pf 36 [.str (str l),.str (str w),.int .i64 (k:Int)]:=⟨_,rfl⟩
 rw[← hX]
 rw[E_pf _ _ _ _ rfl rfl rfl,t36,hs,tkOut_ret,tkRow_r,z11,pT] at hX
 obtain⟨w0,ws,hsp⟩:∃ w0 ws,spl 32 l=w0 :: ws:=by
  cases hx:spl 32 l with
  |nil=>exact absurd hx (spl_ne _ _)
  |cons a l=>exact⟨a,l,rfl⟩
 have hT:takeL w k l=if w0=w then if ws.length+1=k+1 then numsOf ws else none else none:=by
  unfold takeL;rw[hsp];rfl
 rw[hT]
 rw[hsp] at hX hG
 rw[hG 0 w0 rfl] at hX
 simp only[List.length_cons] at hX
 rw[dT (show (0:Int)<((ws.length+1:Nat):Int) by omega),pT,tkCons_c,tkStr_s,eqS_str] at hX
 by_cases h0:w0=w
 ·rw[dT h0,Bool.not_true,pF,zwds k hk2] at hX
  rw[if_pos h0]
  by_cases h1:ws.length=k
  ·rw[if_pos (by omega)]
   rw[show (((ws.length+1:Nat):Int) != ((k+1:Nat):Int))=false by rw[h1];simp,pF] at hX
   obtain⟨x,xs,rfl⟩:∃ x xs,ws=x :: xs:=by
    cases ws with
    |nil=>simp at h1;omega
    |cons a l=>exact⟨a,l,rfl⟩
   obtain⟨fu,hfu⟩:∃ fu,F=fu+1:=⟨F - 1,by omega⟩
   have hxs:xs.length<900:=by simp at h1;omega
   have hx:G 1=[.str (str x)]:=hG 1 x rfl
   obtain⟨m,b,e1,e2⟩:=s60 F d (w:=x) hF
   have hL0:∀ f2,f2=fu+1→L36x0 (E F (d+2)) F (str l) (str w) k f2 false ((x :: xs).length+1) 1 G=X:=fun f2 e=>by rw[hX,e,hfu]
   have hL1:=hL0 _ rfl
   rw[L36x0s,dT (show (1:Int)<(((x :: xs).length+1:Nat):Int) by simp;omega),pT,z11,pT,pT,hx,tkCons_c,tkStr_s,e1,tkOut_ret] at hL1
   simp only[tkTup_t,tkCons_c,tkInt_i,tkBool_b,tkNil_0] at hL1
   rw[← hL1]
   unfold numsOf
   cases hn:numOf x with
   |none =>
    rw[hn] at e2
    dsimp only at e2 ⊢
    rw[e2,Bool.not_false,pT]
    exact Or.inr ⟨rfl,rfl⟩
   |some n =>
    rw[hn] at e2
    obtain⟨rfl,rfl⟩:=e2
    dsimp only
    rw[Bool.not_true,pF]
    have e:=l36x1 F d (str l) (str w) k G (w0 :: x :: xs) hG (by simp only[List.length_cons];omega) hF xs [w0,x] fu [n] (fun _=>[.int .i64 (n:Int)]) rfl (by omega) (by intro i m hm;cases i with | zero=>cases hm;rfl | succ i=>cases hm) rfl
    have h2:IntKind.wrap .i64 ((1:Int)+1)=(([w0,x]:List (List UInt8)).length:Int):=rfl
    rw[h2]
    cases hq:numsOf xs with
    |none=>rw[hq] at e;exact Or.inr ⟨rfl,e⟩
    |some ms =>
     rw[hq] at e
     obtain⟨g2,e1,e2⟩:=e
     have hlen:([n] ++ ms).length=k:=by
      have:=numsOf_len hq
      simp at h1 ⊢
      omega
     rw[hlen] at e2
     exact Or.inl ⟨n :: ms,g2,rfl,e1,e2⟩
  ·rw[if_neg (by omega)]
   rw[show (((ws.length+1:Nat):Int) != ((k+1:Nat):Int))=true by rw[bne_iff_ne];omega,pT] at hX
   exact Or.inr ⟨rfl,hX⟩
 ·rw[if_neg h0]
  rw[dF h0,Bool.not_false,pT] at hX
  exact Or.inr ⟨rfl,hX⟩
end Go.Sim.Lg

namespace Go.Sim.Lg
open Go.Proofs
open Go.Sim.Le (Cav Slc Span Stg Sl sl eCav eSlc eSpan eInt eStg CavOk SlcOk tkOut_ret tkBool_b tkInt_i tkAgg_a tkTup_t tkRow_r tkCons_c tkHv_h tkSCons_c tkSNil_n tkBox_b tkArr_a tkSl_r tkSl_o pT pF wr wrS)
variable (F d:Nat)
def zeroS:Slc:=⟨⟨0,0⟩,0,0,⟨0,0⟩,0⟩
def nilC (a b:Int):Cav:=⟨⟨true,0,fun _=>zeroS⟩,a,b⟩
def nilV (a b:Int):V:=.agg [.row true 0 0 (fun _=>[]),.int .i64 a,.int .i64 b]
def SameC (a b:Cav):Prop:=a.hold=b.hold∧a.oil=b.oil∧a.slices.len=b.slices.len∧∀ i,i<a.slices.len→a.slices.el i=b.slices.el i
theorem zbeq (a:Int):(a==a)=true:=by simp
theorem l12 {a b:Cav} (h:SameC a b) (hl:a.slices.len≤1000000) (env:Env):∀ (r i fu:Nat),i+r=a.slices.len→r<fu→L12x0 env F a b fu (i:Int)=some (.ret (.bool true)):=by
 obtain⟨_,_,h3,h4⟩:=h
 intro r
 induction r with
 |zero =>
  intro i fu h1 h2
  obtain⟨fu,rfl⟩:=ex1 (n:=fu) (by omega)
  rw[L12x0s,dF (by omega),pF]
 |succ r ih =>
  intro i fu h1 h2
  obtain⟨fu,rfl⟩:=ex1 (n:=fu) (by omega)
  have hw:IntKind.wrap .i64 ((i:Int)+1)=((i+1:Nat):Int):=wrS (by omega)
  have h5:=h4 i (by omega)
  rw[L12x0s]
  simp only[tnC,h5,zbeq,Bool.and_true,Bool.not_true]
  rw[dT (show (i:Int)<((a.slices.len:Nat):Int) by omega),pT,dT (show (0:Int)≤(i:Int) by omega),pT,pT,pT,dT (show (i:Int)<((b.slices.len:Nat):Int) by omega),pT,pF,hw]
  exact ih (i+1) fu (by omega) (by omega)
theorem zbne (a:Int):(a != a)=false:=by simp
theorem s12 {a b:Cav} (h:SameC a b) (hl:a.slices.len≤1000000) (hF:a.slices.len<F):(E F (d+1)).pf 12 [.agg (eCav a),.agg (eCav b)]=some (.ret (.bool true)):=by
 have h':=h
 obtain⟨h1,h2,h3,_⟩:=h'
 rw[E_pf _ _ _ _ rfl rfl rfl,t12,h1,h2,h3]
 simp only[zbne,pF]
 exact l12 F h hl _ a.slices.len 0 F (by omega) hF
theorem s12xnil:∀ {F d:Nat},0<F→(E F (d+1)).pf 12 [nilV 0 0,nilV 0 0]=some (.ret (.bool true)):=by
 intro F d hF
 have e:(E F (d+1)).pf 12 [nilV 0 0,nilV 0 0]=(E F (d+1)).pf 12 [.agg (eCav (nilC 0 0)),.agg (eCav (nilC 0 0))]:=E_fix F (d+1) 12 _ _ rfl
 rw[e]
 exact s12 F d ⟨rfl,rfl,rfl,fun _ _=>rfl⟩ (Nat.zero_le _) hF
theorem s6 (c:Cav):(E F (d+1)).pf 6 [.agg (eCav c)]=some (.ret (.bool (decide ((c.slices.len:Int)≤20)))):=by
 rw[E_pf _ _ _ _ rfl rfl rfl,t6]
def Fin11 (ss:List (List Nat)) (a b:Int) (s:Nat) (r:Option (List (List Nat) × List UInt8)) (X:Option Out):Prop:=match r with
 |none=>X=some (.ret (.tup [nilV 0 0,.int .i64 4]))
 |some y=>(¬ y.2=endL (s+(y.1.map List.sum).sum)∧X=some (.ret (.tup [nilV 0 0,.int .i64 4]))) ∨
  (y.2=endL (s+(y.1.map List.sum).sum)∧∃ el,RowsIs (ss ++ y.1) el∧X=some (.ret (.tup (if CavOk ⟨⟨false,(ss ++ y.1).length,el⟩,a,b⟩ then [.agg (eCav ⟨⟨false,(ss ++ y.1).length,el⟩,a,b⟩),.int .i64 0] else [nilV 0 0,.int .i64 2]))))
theorem fin_step {ss:List (List Nat)} {a b:Int} {s n:Nat} {ns:List Nat} {z r:List UInt8} {X:Option Out} (h:lineP sliceW 7 z=some (ns,r)) (hf:Fin11 (ss ++ [ns]) a b (s+ns.sum) (rowsP n r) X):Fin11 ss a b s (rowsP (n+1) z) X:=by
 have e:rowsP (n+1) z=match rowsP n r with | none=>none | some y=>some (ns :: y.1,y.2):=by
  cases hq:rowsP n r<;>simp only[rowsP,h,hq]
 rw[e]
 cases hr:rowsP n r with
 |none=>rw[hr] at hf;exact hf
 |some y =>
  rw[hr] at hf
  unfold Fin11 at hf ⊢
  dsimp only at hf ⊢
  rw[List.append_assoc,List.cons_append,List.nil_append] at hf
  rw[List.map_cons,List.sum_cons,← Nat.add_assoc]
  exact hf
theorem fin_none {ss:List (List Nat)} {a b:Int} {s n:Nat} {z:List UInt8} {X:Option Out} (h:lineP sliceW 7 z=none) (hX:X=some (.ret (.tup [nilV 0 0,.int .i64 4]))):Fin11 ss a b s (rowsP (n+1) z) X:=by
 have e:rowsP (n+1) z=none:=by
  conv=>lhs;unfold rowsP
  rw[h]
 rw[e]
 exact hX
theorem zall (x:ByteArray):List.all [V.str x] V.one=true:=rfl
theorem zone (x:ByteArray):(List.length [V.str x]==1)=true:=rfl
theorem zle1 (x:ByteArray):decide ((0+List.length [V.str x])≤1)=true:=rfl
theorem z83:((83:Nat)==83)=true:=rfl
theorem z31s:(Nat.beq 1 1 && Nat.beq 0 0)=true:=rfl
theorem z331:((Nat.beq 3 3 && Nat.beq 1 1) && (true==true))=true:=rfl
theorem zsl:bs [115,108,105,99,101]=str sliceW:=rfl
theorem zso:bs [115,111,110,97,114]=str sonarW:=rfl
theorem z7 (i:Nat) (h:i<7):decide ((i:Int)<((7:Nat):Int))=true:=dT (by omega)
theorem big_le {n:Nat} (h:n≤100000):n<Le.Big:=by unfold Le.Big;omega
theorem end_fits {s:Nat} (h:s<9000000000000000000):s<9223372036854775808:=by omega
theorem e11x1 (t:ByteArray) (a b:Int) (el:Nat→Slc) (N:Nat) (hN:N≤100000) (hF:1000000000<F) (fu s:Nat) (z:List UInt8) (hs:s<9000000000000000000) (ss:List (List Nat)) (hss:ss.length=N) (hel:RowsIs ss el) :
 Fin11 ss a b s (rowsP 0 z) (L11x1 (E F (d+2)) F t (fu+1) .i64 (N:Int) (N:Int) N .i64 a .i64 b (str z) .i64 (s:Int) N (fun j=>eSlc (el j))):=by
 have h28:=s28 F (d+1) (end_fits hs)
 rw[L11x1s,dF (show ¬ ((N:Int)<(N:Int)) by omega)]
 simp only[decide_true,pT,pF]
 rw[h28,tkOut_ret,tkStr_s,eqS_str]
 unfold rowsP Fin11
 dsimp only
 rw[List.map_nil,List.sum_nil,Nat.add_zero,List.append_nil]
 by_cases hz:z=endL s
 ·refine Or.inr ⟨hz,el,hel,?_⟩
  have hNF:N<F:=by clear hs;omega
  have hv:(E F (d+2)).pf 25 [.agg (eCav ⟨⟨false,N,el⟩,a,b⟩)]=some (.ret (.bool (decide (CavOk ⟨⟨false,N,el⟩,a,b⟩)))):=E_l rfl (Le.s66 F 35 ⟨⟨false,N,el⟩,a,b⟩ (big_le hN) hNF) rfl
  have ev:V.agg (eCav ⟨⟨false,N,el⟩,a,b⟩) = .agg [.row false N 7 (fun j=>eSlc (el j)),.int .i64 a,.int .i64 b]:=rfl
  rw[ev] at hv
  rw[dT hz,Bool.not_true,pF,hv,tkOut_ret,tkBool_b,hss]
  by_cases hc:CavOk ⟨⟨false,N,el⟩,a,b⟩
  ·rw[dT hc,Bool.not_true,pF,if_pos hc]
  ·rw[dF hc,Bool.not_false,pT,if_neg hc]
   rfl
 ·rw[dF hz,Bool.not_false,pT]
  exact Or.inl ⟨hz,rfl⟩
theorem l11x1 (t:ByteArray) (a b:Int) (N:Nat) (hF:1000000000<F) (hF1:1000<F) :
 ∀ (fu n i s:Nat) (z:List UInt8) (ss:List (List Nat)) (el:Nat→Slc),i+n=N→z.length<fu→ss.length=i→RowsIs ss el→i+z.length≤50000→s+100000000000000*z.length≤5000000000000000000 →
  Fin11 ss a b s (rowsP n z) (L11x1 (E F (d+2)) F t fu .i64 (N:Int) (i:Int) i .i64 a .i64 b (str z) .i64 (s:Int) i (fun j=>eSlc (el j))):=by
 intro fu
 induction fu with
 |zero=>intro n i s z ss el _ h;exact absurd h (Nat.not_lt_zero _)
 |succ fu ih =>
  intro n i s z ss el h1 h2 h3 h4 h5 h6
  cases n with
  |zero =>
   obtain rfl:i=N:=h1
   exact e11x1 F d t a b el i (by omega) hF fu s z (by omega) ss h3 h4
  |succ n =>
   have hw:IntKind.wrap .i64 ((i:Int)+1)=((i+1:Nat):Int):=wrS (by omega)
   have h34:=s34 F d (w:=sliceW) (t:=z) (k:=7) (s:=s) (by omega) (by omega) (by omega) (by omega) hF1
   rw[show (((7:Nat):Int))=7 from rfl] at h34
   have hlt:decide ((i:Int)<(N:Int))=true:=dT (by omega)
   rcases h34 with⟨ns,r,g,e1,e2,e3⟩ | ⟨e1,x,e3⟩
   ·have hls:=line_sum sliceW_no e1
    have h7:Row7 ns:=by
     obtain⟨a1,a2,_⟩:=(lineP_iff sliceW_no.1 sliceW_no.2).1 e1
     exact⟨a1,a2⟩
    obtain⟨x0,x1,x2,x3,x4,x5,x6,hns⟩:=row7 h7
    have g0:g 0=[.int .i64 (x0:Int)]:=e2 0 x0 (by rw[hns];rfl)
    have g1:g 1=[.int .i64 (x1:Int)]:=e2 1 x1 (by rw[hns];rfl)
    have g2:g 2=[.int .i64 (x2:Int)]:=e2 2 x2 (by rw[hns];rfl)
    have g3:g 3=[.int .i64 (x3:Int)]:=e2 3 x3 (by rw[hns];rfl)
    have g4:g 4=[.int .i64 (x4:Int)]:=e2 4 x4 (by rw[hns];rfl)
    have g5:g 5=[.int .i64 (x5:Int)]:=e2 5 x5 (by rw[hns];rfl)
    have g6:g 6=[.int .i64 (x6:Int)]:=e2 6 x6 (by rw[hns];rfl)
    refine fin_step e1 ?_
    rw[L11x1s,hlt,zsl,e3]
    have hfin:=ih n (i+1) (s+ns.sum) r (ss ++ [ns]) (fun j=>if j<i then el j else slcOf ns) (by omega) (by omega) (by simp[h3]) (by rw[← h3];exact rows_snoc h4 ns) (by omega) (by omega)
    have hv:[V.int .i64 (x0:Int),.int .i64 (x1:Int),.int .i64 (x2:Int),.int .i64 (x3:Int),.int .i64 (x4:Int),.int .i64 (x5:Int),.int .i64 (x6:Int)]=eSlc (slcOf ns):=by rw[hns];rfl
    simp only[decide_true,pT,tkHvP_r,tkSl_o,z31s,tkSCons_c,tkBox_b,z86,tkCons_c,tkStr_s,tkInt_i,tkNil_0,tkArr_a,z331,tkSNil_n,g0,g1,g2,g3,g4,g5,g6,hw,
     show decide ((0:Int)<((7:Nat):Int))=true from rfl,show decide ((1:Int)<((7:Nat):Int))=true from rfl,show decide ((2:Int)<((7:Nat):Int))=true from rfl,show decide ((3:Int)<((7:Nat):Int))=true from rfl,show decide ((4:Int)<((7:Nat):Int))=true from rfl,show decide ((5:Int)<((7:Nat):Int))=true from rfl,show decide ((6:Int)<((7:Nat):Int))=true from rfl,
     dT (show (i+1)*56≤140737488355328 by omega)]
    rw[hv,app_slc]
    exact hfin
   ·refine fin_none e1 ?_
    rw[L11x1s,hlt,zsl,e3]
    simp only[decide_true,pT,tkHvP_p,tkIfc_i,zflat,z83,tkAgg_a,zall,zone,zle1]
    rfl
end Go.Sim.Lg

namespace Go.Sim.Lg
open Go.Proofs
open Go.Sim.Le (Cav Slc Span Stg Sl sl eCav eSlc eSpan eInt eStg CavOk SlcOk tkOut_ret tkBool_b tkInt_i tkAgg_a tkTup_t tkRow_r tkCons_c tkHv_h tkSCons_c tkSNil_n tkBox_b tkArr_a tkSl_r tkSl_o pT pF wr wrS)
variable (F d:Nat)
def Read11 (t:List UInt8) (X:Option Out):Prop:=match readP t with
 |none=>X=some (.ret (.tup [nilV 0 0,.int .i64 4]))
 |some y=>∃ c:Cav,CavQ c∧hN c=y.1∧rowsN c=y.2∧X=some (.ret (.tup (if CavOk c then [.agg (eCav c),.int .i64 0] else [nilV 0 0,.int .i64 2])))
theorem nil_not (a b:Int):¬ CavOk (nilC a b):=fun h=>Nat.not_succ_le_zero 0 h.1.1
theorem v25xnil (a b:Int) (hF:0<F):(E F (d+2)).pf 25 [nilV a b]=some (.ret (.bool false)):=by
 have e:(E F (d+2)).pf 25 [nilV a b]=(E F (d+2)).pf 25 [.agg (eCav (nilC a b))]:=E_fix F (d+2) 25 _ _ rfl
 have hv:(E F (d+2)).pf 25 [.agg (eCav (nilC a b))]=some (.ret (.bool (decide (CavOk (nilC a b))))):=E_l rfl (Le.s66 F 35 (nilC a b) (big_le (Nat.zero_le _)) hF) rfl
 rw[e,hv,dF (nil_not a b)]
theorem h3 {h:List Nat} (hh:h.length=3):∃ a b c,h=[a,b,c]:=by
 match h,hh with
 |[a,b,c],_=>exact⟨a,b,c,rfl⟩
def Mid11 (N a b s:Nat) (z:List UInt8) (X:Option Out):Prop:=match rowsP N z with
 |none=>X=some (.ret (.tup [nilV 0 0,.int .i64 4]))
 |some y=>if y.2=endL (s+(y.1.map List.sum).sum) then ∃ c:Cav,CavQ c∧hN c=[N,a,b]∧rowsN c=y.1∧X=some (.ret (.tup (if CavOk c then [.agg (eCav c),.int .i64 0] else [nilV 0 0,.int .i64 2])))
  else X=some (.ret (.tup [nilV 0 0,.int .i64 4]))
theorem mid_of {N a b s:Nat} {ns:List Nat} {z r:List UInt8} {X:Option Out} (h:lineP sliceW 7 z=some (ns,r)) (hf:Fin11 [ns] a b (s+ns.sum) (rowsP N r) X):Mid11 (N+1) a b s z X:=by
 have e:rowsP (N+1) z=match rowsP N r with | none=>none | some y=>some (ns :: y.1,y.2):=by
  cases hq:rowsP N r<;>simp only[rowsP,h,hq]
 have h7:Row7 ns:=by
  obtain⟨a1,a2,_⟩:=(lineP_iff sliceW_no.1 sliceW_no.2).1 h
  exact⟨a1,a2⟩
 unfold Mid11
 rw[e]
 cases hr:rowsP N r with
 |none=>rw[hr] at hf;exact hf
 |some y =>
  rw[hr] at hf
  obtain⟨y1,y2⟩:=y
  obtain⟨b1,b2,b3⟩:=rowsP_iff.1 hr
  unfold Fin11 at hf
  dsimp only at hf ⊢
  rw[List.map_cons,List.sum_cons,← Nat.add_assoc]
  rcases hf with⟨f1,f2⟩ | ⟨f1,el,f2,f3⟩
  ·rw[if_neg f1];exact f2
  ·rw[if_pos f1]
   have hr7:∀ s ∈ [ns] ++ y1,Row7 s:=by
    intro x hx
    rcases List.mem_cons.1 hx with rfl | hx
    ·exact h7
    ·exact b2 x hx
   refine⟨_,cavQ_rows hr7 f2 a b false,?_,rows_N hr7 f2 false _ _,f3⟩
   ·show [([ns] ++ y1).length,(a:Int).toNat,(b:Int).toNat]=_
    rw[tnC,tnC]
    simp[b1,Nat.add_comm]
theorem e11x0 (t:ByteArray) (a b:Nat) (hF:1000000000<F) (fu s:Nat) (z:List UInt8) (hs:s<9000000000000000000) :
 Mid11 0 a b s z (L11x0 (E F (d+2)) F t (fu+1) .i64 ((0:Nat):Int) .i64 (a:Int) .i64 (b:Int) (str z) .i64 (s:Int)):=by
 have h28:=s28 F (d+1) (end_fits hs)
 have hv:=v25xnil F d (a:Int) (b:Int) (Nat.lt_trans (by decide) hF)
 unfold nilV at hv
 rw[L11x0s,dF (show ¬ ((0:Int)<((0:Nat):Int)) by omega)]
 simp only[decide_true,pT,pF]
 rw[h28,tkOut_ret,tkStr_s,eqS_str]
 unfold Mid11 rowsP
 dsimp only
 rw[List.map_nil,List.sum_nil,Nat.add_zero]
 by_cases hz:z=endL s
 ·rw[if_pos hz]
  refine⟨nilC a b,⟨?_,?_,fun i hi=>absurd hi (Nat.not_lt_zero _)⟩,?_,rfl,?_⟩
  ·show (0:Int)≤(a:Int);omega
  ·show (0:Int)≤(b:Int);omega
  ·show [0,(a:Int).toNat,(b:Int).toNat]=_
   rw[tnC,tnC]
  ·rw[dT hz,Bool.not_true,pF,hv,tkOut_ret,tkBool_b,Bool.not_false,pT,if_neg (nil_not a b)]
   rfl
 ·rw[dF hz,Bool.not_false,pT,if_neg hz]
  rfl
theorem l11x0 (t:ByteArray) (a b:Nat) (hF:1000000000<F) (hF1:1000<F) (hF2:50000<F) (fu N s:Nat) (z:List UInt8) (h2:50000<fu) (h5:z.length≤40000) (h6:s+100000000000000*z.length≤5000000000000000000) :
 Mid11 N a b s z (L11x0 (E F (d+2)) F t fu .i64 (N:Int) .i64 (a:Int) .i64 (b:Int) (str z) .i64 (s:Int)):=by
 obtain⟨fu,rfl⟩:=ex1 (n:=fu) (by omega)
 cases N with
 |zero=>exact e11x0 F d t a b hF fu s z (by omega)
 |succ n =>
  have h34:=s34 F d (w:=sliceW) (t:=z) (k:=7) (s:=s) (by omega) (by omega) (by omega) (by omega) hF1
  rw[show (((7:Nat):Int))=7 from rfl] at h34
  have hlt:decide ((0:Int)<((n+1:Nat):Int))=true:=dT (by omega)
  rcases h34 with⟨ns,r,g,e1,e2,e3⟩ | ⟨e1,x,e3⟩
  ·have hls:=line_sum sliceW_no e1
   have h7:Row7 ns:=by
    obtain⟨a1,a2,_⟩:=(lineP_iff sliceW_no.1 sliceW_no.2).1 e1
    exact⟨a1,a2⟩
   obtain⟨x0,x1,x2,x3,x4,x5,x6,hns⟩:=row7 h7
   have g0:g 0=[.int .i64 (x0:Int)]:=e2 0 x0 (by rw[hns];rfl)
   have g1:g 1=[.int .i64 (x1:Int)]:=e2 1 x1 (by rw[hns];rfl)
   have g2:g 2=[.int .i64 (x2:Int)]:=e2 2 x2 (by rw[hns];rfl)
   have g3:g 3=[.int .i64 (x3:Int)]:=e2 3 x3 (by rw[hns];rfl)
   have g4:g 4=[.int .i64 (x4:Int)]:=e2 4 x4 (by rw[hns];rfl)
   have g5:g 5=[.int .i64 (x5:Int)]:=e2 5 x5 (by rw[hns];rfl)
   have g6:g 6=[.int .i64 (x6:Int)]:=e2 6 x6 (by rw[hns];rfl)
   refine mid_of e1 ?_
   have hfin:=l11x1 F d t (a:Int) (b:Int) (n+1) hF hF1 fu n 1 (s+ns.sum) r [ns] (fun _=>slcOf ns) (Nat.add_comm 1 n) (by omega) rfl (by intro i m hm;cases i with | zero=>cases hm;rfl | succ i=>cases hm) (by omega) (by omega)
   rw[L11x0s,hlt,zsl,e3]
   have hv:[V.int .i64 (x0:Int),.int .i64 (x1:Int),.int .i64 (x2:Int),.int .i64 (x3:Int),.int .i64 (x4:Int),.int .i64 (x5:Int),.int .i64 (x6:Int)]=eSlc (slcOf ns):=by rw[hns];rfl
   have hw:IntKind.wrap .i64 ((0:Int)+1)=((1:Nat):Int):=rfl
   simp only[decide_true,pT,tkHvP_r,tkSl_o,z31s,tkSCons_c,tkBox_b,z86,tkCons_c,tkStr_s,tkInt_i,tkNil_0,tkArr_a,z331,tkSNil_n,g0,g1,g2,g3,g4,g5,g6,hw,
    show decide ((0:Int)<((7:Nat):Int))=true from rfl,show decide ((1:Int)<((7:Nat):Int))=true from rfl,show decide ((2:Int)<((7:Nat):Int))=true from rfl,show decide ((3:Int)<((7:Nat):Int))=true from rfl,show decide ((4:Int)<((7:Nat):Int))=true from rfl,show decide ((5:Int)<((7:Nat):Int))=true from rfl,show decide ((6:Int)<((7:Nat):Int))=true from rfl]
   rw[hv]
   exact hfin
  ·have e:rowsP (n+1) z=none:=by
    conv=>lhs;unfold rowsP
    rw[e1]
   unfold Mid11
   rw[e]
   dsimp only
   rw[L11x0s,hlt,zsl,e3]
   simp only[decide_true,pT,tkHvP_p,tkIfc_i,zflat,z83,tkAgg_a,zall,zone,zle1]
   rfl
theorem s11 {t:List UInt8} (ht:t.length≤20000) (hF:1000000000<F):Read11 t ((E F (d+3)).pf 11 [.str (str t)]):=by
 have hF1:1000<F:=by clear ht;omega
 have hF2:50000<F:=by clear ht;omega
 have h34:=s34 F d (w:=sonarW) (t:=t) (k:=3) (s:=0) (by omega) (by omega) (by omega) (by omega) hF1
 rw[show (((3:Nat):Int))=3 from rfl,show (((0:Nat):Int))=0 from rfl] at h34
 rw[E_pf _ _ _ _ rfl rfl rfl,t11,size_str,dF (by omega),pF,zso]
 unfold Read11 readP
 rcases h34 with⟨ns,r,g,e1,e2,e3⟩ | ⟨e1,x,e3⟩
 ·have hls:=line_sum sonarW_no e1
  obtain⟨a1,a2,_⟩:=(lineP_iff sonarW_no.1 sonarW_no.2).1 e1
  obtain⟨x0,x1,x2,hns⟩:=h3 a1
  have g0:g 0=[.int .i64 (x0:Int)]:=e2 0 x0 (by rw[hns];rfl)
  have g1:g 1=[.int .i64 (x1:Int)]:=e2 1 x1 (by rw[hns];rfl)
  have g2:g 2=[.int .i64 (x2:Int)]:=e2 2 x2 (by rw[hns];rfl)
  have hmid:=l11x0 F d (str t) x1 x2 hF hF1 hF2 F x0 (0+ns.sum) r hF2 (by omega) (by omega)
  rw[e3,e1]
  simp only[decide_true,pT,tkHvP_r,tkSl_o,z31s,tkSCons_c,tkBox_b,z86,tkCons_c,tkStr_s,tkInt_i,tkNil_0,tkArr_a,z331,tkSNil_n,g0,g1,g2,
   show decide ((0:Int)<((3:Nat):Int))=true from rfl,show decide ((1:Int)<((3:Nat):Int))=true from rfl,show decide ((2:Int)<((3:Nat):Int))=true from rfl]
  generalize L11x0 (E F (d+2)) F (str t) F .i64 (x0:Int) .i64 (x1:Int) .i64 (x2:Int) (str r) .i64 ((0+ns.sum:Nat):Int)=X at hmid ⊢
  unfold Mid11 at hmid
  rw[Nat.zero_add] at hmid
  rw[show ns.getD 0 0=x0 by rw[hns];rfl]
  cases hr:rowsP x0 r with
  |none=>rw[hr] at hmid;exact hmid
  |some y =>
   rw[hr] at hmid
   dsimp only at hmid ⊢
   unfold sumL
   by_cases hz:y.2=endL (ns.sum+(y.1.map List.sum).sum)
   ·rw[if_pos hz] at hmid ⊢
    rw[← hns] at hmid
    exact hmid
   ·rw[if_neg hz] at hmid ⊢
    exact hmid
 ·rw[e3,e1]
  dsimp only
  simp only[decide_true,pT,tkHvP_p,tkIfc_i,zflat,z83,tkAgg_a,zall,zone,zle1]
  rfl
theorem s11xlong {t:List UInt8} (ht:20000<t.length):(E F (d+1)).pf 11 [.str (str t)]=some (.ret (.tup [nilV 0 0,.int .i64 3])):=by
 rw[E_pf _ _ _ _ rfl rfl rfl,t11,size_str,dT (by omega),pT]
 rfl
end Go.Sim.Lg

namespace Go.Sim.Lg
open Go.Proofs
open Go.Sim.Le (Cav Slc Span Stg Sl sl eCav eSlc eSpan eInt eStg CavOk SlcOk tkOut_ret tkBool_b tkInt_i tkAgg_a tkTup_t tkRow_r tkCons_c tkHv_h tkSCons_c tkSNil_n tkBox_b tkArr_a tkSl_r tkSl_o pT pF wr wrS)
variable (F d:Nat)
theorem l10x1 (c:Cav) (h:CavP c) (m0 i:Nat) (hi:i≤c.slices.len) (z:ByteArray) :
 ∀ (r p:List Nat) (fu s:Nat),nsAt c i=p ++ r→r.length<fu→s+r.sum<9000000000000000000 →
  L10x1 (E F d) F c m0 fu false (c.slices.len+1) 1 (gK c c.slices.len) z (s:Int) (i:Int) (p.length:Int) =
   L10x0 (E F d) F c m0 false (c.slices.len+1) 1 (gK c c.slices.len) z ((s+r.sum:Nat):Int) ((i+1:Nat):Int):=by
 have hg:=gK_at c c.slices.len i hi
 have hlen:=h.len
 have h7:=row_le (c:=c) i
 intro r
 induction r with
 |nil =>
  intro p fu s h1 h2 h3
  obtain⟨fu,rfl⟩:=ex1 (n:=fu) (by omega)
  have hp:p.length=(rowAt c i).len:=by rw[row_len,h1];simp
  have hw:IntKind.wrap .i64 ((i:Int)+1)=((i+1:Nat):Int):=wrS (by omega)
  rw[L10x1s,show ((1:Nat)==1)=true from rfl,pT,dT (by omega),pT,dT (by omega),pT,tnC,hg,tkCons_c,tkRow_r,dF (by omega),pF,hw]
  simp
 |cons n r ih =>
  intro p fu s h1 h2 h3
  obtain⟨fu,rfl⟩:∃ k,fu=k+1:=⟨fu - 1,by simp at h2;omega⟩
  have hp:p.length+(r.length+1)=(rowAt c i).len:=by rw[row_len,h1];simp
  have hp2:p.length<8:=by rw[h1] at h7;simp at h7;omega
  have hat:(nsAt c i)[p.length]? = some n:=by rw[h1];simp
  have he:=row_el h hi p.length n hat
  simp only[List.length_cons] at h2
  simp only[List.sum_cons] at h3
  have hw:IntKind.wrap .i64 ((p.length:Int)+1)=(((p ++ [n]).length:Nat):Int):=by rw[wrS (by omega)];simp
  have hws:IntKind.wrap .i64 ((s:Int)+(n:Int))=((s+n:Nat):Int):=by rw[wr (by omega)];omega
  rw[L10x1s]
  simp only[show ((1:Nat)==1)=true from rfl,dT (show (0:Int)≤(i:Int) by omega),dT (show (i:Int)<((c.slices.len+1:Nat):Int) by omega),dT (show (p.length:Int)<(((rowAt c i).len:Nat):Int) by omega),
   dT (show (0:Int)≤(p.length:Int) by omega),pT,tnC,hg,tkCons_c,tkRow_r,he,tkInt_i,decide_true,hw,hws]
  rw[ih (p ++ [n]) fu (s+n) (by rw[h1];simp) (by omega) (by omega)]
  simp[Nat.add_assoc]
def wordAt:Nat→List UInt8
 |0=>sonarW
 |_+1=>sliceW
def linesF (c:Cav) (p r:Nat):List UInt8:=(List.range' p r).flatMap fun i=>lineL (wordAt i) (nsAt c i)
def sumF (c:Cav) (p r:Nat):Nat:=((List.range' p r).map fun i=>(nsAt c i).sum).sum
theorem l10x0 (c:Cav) (h:CavP c) (hF:1000000000<F) (hF1:1000<F):∀ (r i fu s:Nat) (z:List UInt8),i+r=c.slices.len+1→r<fu→s+1000000000000000*r<9000000000000000000→z.length+200*r≤1000000 →
 L10x0 (E F (d+2)) F c fu false (c.slices.len+1) 1 (gK c c.slices.len) (str z) (s:Int) (i:Int)=some (.ret (.str (str (z ++ linesF c i r ++ endL (s+sumF c i r))))):=by
 have hlen:=h.len
 intro r
 induction r with
 |zero =>
  intro i fu s z h1 h2 h3 h4
  obtain⟨fu,rfl⟩:=ex1 (n:=fu) (by omega)
  have e0:Int.tmod (s:Int) 97=((s % 97:Nat):Int):=by rw[Int.tmod_eq_emod_of_nonneg (by omega)];omega
  have e1:Int.tdiv ((s % 97:Nat):Int) 10=((s % 97 / 10:Nat):Int):=by rw[Int.tdiv_eq_ediv_of_nonneg (by omega)];omega
  have e2:Int.tmod ((s % 97:Nat):Int) 10=((s % 97 % 10:Nat):Int):=by rw[Int.tmod_eq_emod_of_nonneg (by omega)];omega
  have e3:IntKind.wrap .i64 ((s % 97 / 10:Nat):Int)=((s % 97 / 10:Nat):Int):=wr (by omega)
  have e4:IntKind.wrap .u8 (IntKind.wrap .i64 (48+((s % 97 / 10:Nat):Int)))=((48+s % 97 / 10:Nat):Int):=by
   have:=digit_u8 (m:=s % 97 / 10)
   rw[Nat.mod_eq_of_lt (show s % 97 / 10<10 by omega)] at this
   exact this
  have e5:=digit_u8 (m:=s % 97)
  have hb:bytesOf [((48+s % 97 / 10:Nat):Int),((48+s % 97 % 10:Nat):Int)]=str [UInt8.ofNat (48+s % 97 / 10),UInt8.ofNat (48+s % 97 % 10)]:=by rw[bytesOf_str];rfl
  rw[L10x0s,dF (by omega),pF,size_str,dT (by omega),pT,e0,e1,e2,e3,e4,e5,bs_str,catS_str,hb,catS_str,size_str,size_str,size_str,dT (by simp;omega),pT,dT (by simp;omega),pT,bs_str,catS_str]
  simp only[linesF,sumF,List.range'_zero,List.flatMap_nil,List.map_nil,List.sum_nil,Nat.add_zero,List.append_nil]
  unfold endL
  rw[dec_small (show s % 97 / 10<10 by omega),dec_small (show s % 97 % 10<10 by omega)]
  simp
 |succ r ih =>
  intro i fu s z h1 h2 h3 h4
  obtain⟨fu,rfl⟩:=ex1 (n:=fu) (by omega)
  have hi:i≤c.slices.len:=by omega
  have hg:=gK_at c c.slices.len i hi
  have hs:=row_sum h hi
  have h7:=row_le (c:=c) i
  have hll:=line_len (w:=wordAt i) (row_lt h hi)
  have hw5:(wordAt i).length=5:=by cases i<;>rfl
  have e:=s32 F d (w:=wordAt i) (l:=rowAt c i) (ns:=nsAt c i) (row_len c i) (row_el h hi) (row_lt h hi) hF1 (by omega) (by omega)
  have e':(E F (d+2)).pf 32 [.str (str (wordAt i)),.row (rowAt c i).nl (rowAt c i).len 1 fun j=>eInt ((rowAt c i).el j)]=some (.ret (.str (str (lineL (wordAt i) (nsAt c i))))):=e
  have e2:=l10x1 F (d+2) c h fu i hi (str (z ++ lineL (wordAt i) (nsAt c i))) (nsAt c i) [] F s rfl (by omega) (by omega)
  rw[show ((([]:List Nat).length:Nat):Int)=0 from rfl] at e2
  have hfin:=ih (i+1) fu (s+(nsAt c i).sum) (z ++ lineL (wordAt i) (nsAt c i)) (by omega) (by omega) (by omega) (by simp;omega)
  have hsz:(str z).size+(str (lineL (wordAt i) (nsAt c i))).size≤9223372036854775807:=by rw[size_str,size_str];omega
  rw[L10x0s,dT (by omega),pT]
  have fin:L10x1 (E F (d+2)) F c fu F false (c.slices.len+1) 1 (gK c c.slices.len) (catS (str z) (str (lineL (wordAt i) (nsAt c i)))) (s:Int) (i:Int) 0=some (.ret (.str (str (z ++ linesF c i (r+1) ++ endL (s+sumF c i (r+1)))))):=by
   rw[catS_str,e2,hfin]
   simp only[linesF,sumF,List.range'_succ,List.flatMap_cons,List.map_cons,List.sum_cons,List.append_assoc,Nat.add_assoc]
  cases i with
  |zero =>
   rw[show (((0:Nat):Int)==0)=true from rfl,pT]
   simp only[show ((1:Nat)==1)=true from rfl,pT,dT (show (0:Int)≤((0:Nat):Int) by omega),tnC,hg,tkCons_c,tkRow_r]
   rw[bs_str,show (str ([115,111,110,97,114].map UInt8.ofNat))=str (wordAt 0) from rfl,e',tkOut_ret,tkStr_s,dT hsz,pT]
   exact fin
  |succ i =>
   rw[show (((i+1:Nat):Int)==0)=false by simp;omega,pF]
   simp only[show ((1:Nat)==1)=true from rfl,pT,dT (show (0:Int)≤((i+1:Nat):Int) by omega),tnC,hg,tkCons_c,tkRow_r]
   rw[bs_str,show (str ([115,108,105,99,101].map UInt8.ofNat))=str (wordAt (i+1)) from rfl,e',tkOut_ret,tkStr_s,dT hsz,pT]
   exact fin
theorem lines_log (c:Cav):linesF c 0 (c.slices.len+1) ++ endL (sumF c 0 (c.slices.len+1))=logL (hN c) (rowsN c):=by
 have e:List.range' 0 (c.slices.len+1)=0 :: (List.range c.slices.len).map (· + 1):=by
  rw[← List.range_eq_range',List.range_succ_eq_map]
 unfold linesF sumF logL bodyL sumL rowsN
 rw[e]
 simp only[List.flatMap_cons,List.map_cons,List.sum_cons,List.flatMap_map,List.map_map]
 rfl
theorem s10 (c:Cav) (h:CavP c) (hF:1000000000<F):(E F (d+3)).pf 10 [.agg (eCav c)]=some (.ret (.str (str (logL (hN c) (rowsN c))))):=by
 have hlen:=h.len
 have h4:1000<F:=by clear hlen;omega
 have h3:c.slices.len+1<F:=by omega
 have h6:c.slices.len<F:=by omega
 have h1:0+1000000000000000*(c.slices.len+1)<9000000000000000000:=by
  have:1000000000000000*(c.slices.len+1)≤1000000000000000*2001:=Nat.mul_le_mul_left _ (by omega)
  clear hF h4 h3 h6
  omega
 have h2:([]:List UInt8).length+200*(c.slices.len+1)≤1000000:=by clear hF;simp only[List.length_nil];omega
 have e:=l10x0 F d c h hF h4 (c.slices.len+1) 0 F 0 [] (Nat.zero_add _) h3 h1 h2
 rw[List.nil_append,Nat.zero_add,lines_log] at e
 rw[E_pf _ _ _ _ rfl rfl rfl,t10,s31 F (d+1) c (Nat.le_trans hlen (by decide)) h6,tkOut_ret,tkRow_r]
 exact e
end Go.Sim.Lg

namespace Go.Sim.Lg
open Go.Proofs
open Go.Sim.Le (Cav Slc Span Stg Sl sl eCav eSlc eSpan eInt eStg CavOk SlcOk tkOut_ret tkBool_b tkInt_i tkAgg_a tkTup_t tkRow_r tkCons_c tkHv_h tkSCons_c tkSNil_n tkBox_b tkArr_a tkSl_r tkSl_o pT pF wr wrS)
noncomputable def takes:List (List UInt8)→Option (List (List Nat))
 |[]=>some []
 |l :: ls=>match takeL sliceW 7 l with | none=>none | some ns=>match takes ls with | none=>none | some ss=>some (ns :: ss)
theorem takes_some:∀ {ls:List (List UInt8)} {ss:List (List Nat)},takes ls=some ss↔(∀ s ∈ ss,Row7 s)∧ls=ss.map fun s=>sliceW ++ numsL s
 |[],ss=>by
  constructor
  ·intro h;cases h;exact⟨by simp,rfl⟩
  ·rintro⟨_,h⟩
   cases ss with
   |nil=>rfl
   |cons _ _=>cases h
 |l :: ls,ss=>by
  constructor
  ·intro h
   unfold takes at h
   split at h
   ·cases h
   ·rename_i ns hn
    split at h
    ·cases h
    ·rename_i ms hm
     cases h
     obtain⟨h1,h2⟩:=takes_some.1 hm
     obtain⟨h3,h4,h5⟩:=(takeL_iff sliceW_no.1).1 hn
     subst h2;subst h5
     refine⟨fun x hx=>?_,rfl⟩
     rcases List.mem_cons.1 hx with rfl | hx
     ·exact⟨h3,h4⟩
     ·exact h1 x hx
  ·rintro⟨h1,h2⟩
   cases ss with
   |nil=>cases h2
   |cons s ss =>
    cases h2
    have e:takes (ss.map fun s=>sliceW ++ numsL s)=some ss:=takes_some.2 ⟨fun x hx=>h1 x (List.mem_cons_of_mem _ hx),rfl⟩
    have h7:=h1 s (List.mem_cons_self ..)
    have e2:takeL sliceW 7 (sliceW ++ numsL s)=some s:=(takeL_iff sliceW_no.1).2 ⟨h7.1,h7.2,rfl⟩
    show (match takeL sliceW 7 (sliceW ++ numsL s) with | none=>none | some n=>_)=_
    rw[e2]
    dsimp only
    rw[e]
theorem takes_len {ls:List (List UInt8)} {ss:List (List Nat)} (h:takes ls=some ss):ss.length=ls.length:=by
 rw[(takes_some.1 h).2,List.length_map]
theorem takes_big:∀ {ls:List (List UInt8)} {ss:List (List Nat)},takes ls=some ss→20*ls.length≤(ls.flatMap ((10:UInt8) :: ·)).length
 |[],_,_=>Nat.le_refl _
 |l :: ls,ss,h=>by
  obtain⟨h1,h2⟩:=takes_some.1 h
  cases ss with
  |nil=>cases h2
  |cons s ss =>
   cases h2
   have e:=takes_big (takes_some.2 ⟨fun x hx=>h1 x (List.mem_cons_of_mem _ hx),rfl⟩:takes (ss.map fun s=>sliceW ++ numsL s)=some ss)
   obtain⟨a,b,c,d,e',f,g,rfl⟩:=row7 (h1 s (List.mem_cons_self ..))
   have hpos:∀ n,1≤(dec n).length:=fun n=>by
    cases hx:dec n with
    |nil=>exact absurd hx (dec_ne n)
    |cons x xs=>simp
   have h5:14≤(numsL [a,b,c,d,e',f,g]).length:=by
    have ha:=hpos a
    have hb:=hpos b
    have hc:=hpos c
    have hd:=hpos d
    have he:=hpos e'
    have hf:=hpos f
    have hg:=hpos g
    simp only[numsL,List.flatMap_cons,List.flatMap_nil,List.length_append,List.length_cons,List.length_nil]
    omega
   have h6:sliceW.length=5:=rfl
   rw[List.flatMap_cons,List.length_append,List.length_cons,List.length_cons,List.length_append]
   omega
theorem readP_lines {t:List UInt8} {l0:List UInt8} {ls:List (List UInt8)} (hs:spl 10 t=l0 :: ls) {h:List Nat} {ss:List (List Nat)} :
 readP t=some (h,ss)↔takeL sonarW 3 l0=some h∧h.getD 0 0+2=ls.length∧takes (ls.take (h.getD 0 0))=some ss∧logL h ss=t:=by
 rw[readP_iff]
 constructor
 ·rintro⟨⟨h1,h2⟩,h3,h4,h5⟩
  have e1:t=(sonarW ++ numsL h) ++ ((ss.map fun s=>sliceW ++ numsL s) ++ [([101,110,100,32]:List UInt8) ++ dec (sumL h ss % 97 / 10) ++ dec (sumL h ss % 97 % 10),[]]).flatMap ((10:UInt8) :: ·):=by
   rw[h5]
   have hx:∀ (ss:List (List Nat)) (z:List UInt8),(10:UInt8) :: ss.flatMap (lineL sliceW) ++ z=(ss.map fun s=>sliceW ++ numsL s).flatMap ((10:UInt8) :: ·) ++ 10 :: z:=by
    intro ss
    induction ss with
    |nil=>intro z;rfl
    |cons s ss ih =>
     intro z
     have:=ih z
     simp only[List.cons_append] at this
     simp only[List.flatMap_cons,List.map_cons,lineL,List.append_assoc,List.cons_append,List.nil_append]
     rw[this]
   have hy:=hx ss (endL (sumL h ss))
   have hend:(10:UInt8) :: endL (sumL h ss)=[([101,110,100,32]:List UInt8) ++ dec (sumL h ss % 97 / 10) ++ dec (sumL h ss % 97 % 10),[]].flatMap ((10:UInt8) :: ·):=by
    simp[endL]
   rw[List.flatMap_append,← hend,← hy]
   simp[logL,bodyL,lineL]
  have e2:spl 10 t=(sonarW ++ numsL h) :: ((ss.map fun s=>sliceW ++ numsL s) ++ [([101,110,100,32]:List UInt8) ++ dec (sumL h ss % 97 / 10) ++ dec (sumL h ss % 97 % 10),[]]):=by
   have:=spl_of 10 ((ss.map fun s=>sliceW ++ numsL s) ++ [([101,110,100,32]:List UInt8) ++ dec (sumL h ss % 97 / 10) ++ dec (sumL h ss % 97 % 10),[]]) (sonarW ++ numsL h) (line_no sonarW_no.2) ?_
   ·rw[← e1] at this;exact this
   ·intro x hx
    rcases List.mem_append.1 hx with hx | hx
    ·obtain⟨s,_,rfl⟩:=List.mem_map.1 hx
     exact line_no sliceW_no.2
    ·rcases List.mem_cons.1 hx with rfl | hx
     ·intro hh
      rcases List.mem_append.1 hh with hh | hh
      ·rcases List.mem_append.1 hh with hh | hh
       ·exact absurd hh (by decide)
       ·exact dec_no (by decide) hh
      ·exact dec_no (by decide) hh
     ·rcases List.mem_cons.1 hx with rfl | hx
      ·simp
      ·cases hx
  rw[hs] at e2
  cases e2
  refine⟨(takeL_iff sonarW_no.1).2 ⟨h1,h2,rfl⟩,by simp[h3],?_,h5.symm⟩
  rw[List.take_left' (by simp[h3])]
  exact takes_some.2 ⟨h4,rfl⟩
 ·rintro⟨h1,h2,h3,h4⟩
  obtain⟨a1,a2,a3⟩:=(takeL_iff sonarW_no.1).1 h1
  obtain⟨b1,b2⟩:=takes_some.1 h3
  have b3:=takes_len h3
  exact⟨⟨a1,a2⟩,by rw[b3,List.length_take];omega,b1,h4.symm⟩
end Go.Sim.Lg

namespace Go.Sim.Lg
open Go.Proofs
open Go.Sim.Le (Cav Slc Span Stg Sl sl eCav eSlc eSpan eInt eStg CavOk SlcOk tkOut_ret tkBool_b tkInt_i tkAgg_a tkTup_t tkRow_r tkCons_c tkHv_h tkSCons_c tkSNil_n tkBox_b tkArr_a tkSl_r tkSl_o pT pF wr wrS)
variable (F d:Nat)
def CavV (v:V) (c:Cav):Prop:=v = .agg (eCav c)∨∃ a b,c=nilC a b∧v=nilV a b
def Fin13 (t:List UInt8) (N a b:Nat) (ss:List (List Nat)) (r:Option (List (List Nat))) (X:Option Out):Prop:=match r with
 |none=>∃ v c,CavV v c∧X=some (.ret (.tup [v,.bool false]))
 |some y=>∃ el,RowsIs (ss ++ y) el∧X=some (.ret (.tup [.agg (eCav ⟨⟨false,(ss ++ y).length,el⟩,(a:Int),(b:Int)⟩),.bool (decide (logL [N,a,b] (ss ++ y)=t))]))
theorem fin13xstep {t:List UInt8} {N a b:Nat} {ss:List (List Nat)} {l:List UInt8} {q:List (List UInt8)} {ns:List Nat} {X:Option Out} (h:takeL sliceW 7 l=some ns) (hf:Fin13 t N a b (ss ++ [ns]) (takes q) X):Fin13 t N a b ss (takes (l :: q)) X:=by
 have e:takes (l :: q)=match takes q with | none=>none | some y=>some (ns :: y):=by
  cases hq:takes q<;>simp only[takes,h,hq]
 rw[e]
 cases hr:takes q with
 |none=>rw[hr] at hf;exact hf
 |some y =>
  rw[hr] at hf
  unfold Fin13 at hf ⊢
  dsimp only at hf ⊢
  rw[List.append_assoc,List.cons_append,List.nil_append] at hf
  exact hf
theorem fin13xnone {t:List UInt8} {N a b:Nat} {ss:List (List Nat)} {l:List UInt8} {q:List (List UInt8)} {X:Option Out} (h:takeL sliceW 7 l=none) (hX:X=some (.ret (.tup [nilV 0 0,.bool false]))):Fin13 t N a b ss (takes (l :: q)) X:=by
 have e:takes (l :: q)=none:=by
  conv=>lhs;unfold takes
  rw[h]
 rw[e]
 exact⟨nilV 0 0,nilC 0 0,Or.inr ⟨0,0,rfl,rfl⟩,hX⟩
theorem cavP_rows {ss:List (List Nat)} (h7:∀ s ∈ ss,Row7 s) {el:Nat→Slc} (hel:RowsIs ss el) {a b:Nat} (ha:a<100000000000000) (hb:b<100000000000000) (hl:ss.length≤2000) (nl:Bool):CavP ⟨⟨nl,ss.length,el⟩,(a:Int),(b:Int)⟩:=by
 refine⟨⟨?_,?_⟩,⟨?_,?_⟩,hl,fun i hi=>?_⟩
 ·show (0:Int)≤(a:Int);omega
 ·show (a:Int)<100000000000000;omega
 ·show (0:Int)≤(b:Int);omega
 ·show (b:Int)<100000000000000;omega
 ·show SlcP (el i)
  have hi':i<ss.length:=hi
  rw[hel i _ (List.getElem?_eq_getElem hi')]
  exact slcP_row (h7 _ (List.getElem_mem hi'))
theorem z0lt3:decide ((0:Int)<((3:Nat):Int))=true:=rfl
theorem l13x1 (tb:ByteArray) (t:List UInt8) (htb:tb=str t) (N a b:Nat) (ha:a<100000000000000) (hb:b<100000000000000) (hF:1000000000<F) (hF1:1000<F) (ws:List (List UInt8)) (G g:Nat→List V) (hG:WordsIs ws G) (hL:ws.length≤100000) (hg0:g 0=[.int .i64 (N:Int)]) (hNw:N<ws.length) (hwl:∀ w ∈ ws,w.length≤100000) :
 ∀ (q p tail:List (List UInt8)) (fu:Nat) (ss:List (List Nat)) (el:Nat→Slc),ws=p ++ (q ++ tail)→q.length<fu→ss.length+1=p.length→p.length+q.length=N+1→RowsIs ss el→(∀ s ∈ ss,Row7 s)→(∀ y,takes q=some y→N≤2000) →
  Fin13 t N a b ss (takes q) (L13x1 (E F (d+3)) F tb fu false ws.length 1 G false 3 1 g (p.length:Int) ss.length .i64 (a:Int) .i64 (b:Int) ss.length (fun i=>eSlc (el i))):=by
 intro q
 induction q with
 |nil =>
  intro p tail fu ss el h1 h2 h3 h4 h5 h6 h7
  obtain⟨fu,rfl⟩:=ex1 (n:=fu) (by omega)
  have hp:p.length=N+1:=h4
  have hN2:N≤2000:=h7 [] rfl
  have hss:ss.length=N:=by omega
  have hcp:=cavP_rows h6 h5 ha hb (by omega) false
  have e10:=s10 F d _ hcp hF
  have ev:V.agg (eCav ⟨⟨false,ss.length,el⟩,(a:Int),(b:Int)⟩) = .agg [.row false ss.length 7 (fun j=>eSlc (el j)),.int .i64 (a:Int),.int .i64 (b:Int)]:=rfl
  have eh:hN ⟨⟨false,ss.length,el⟩,(a:Int),(b:Int)⟩=[N,a,b]:=by
   show [ss.length,(a:Int).toNat,(b:Int).toNat]=_
   rw[tnC,tnC,hss]
  rw[ev,eh,rows_N h6 h5 false _ _] at e10
  refine⟨el,by rwa [List.append_nil],?_⟩
  rw[L13x1s,z11,pT,z0lt3,pT,hg0,tkCons_c,tkInt_i]
  simp only[decide_true,pT]
  rw[dF (show ¬ ((p.length:Int)≤(N:Int)) by omega),pF,e10,tkOut_ret,tkStr_s,htb,eqS_str,List.append_nil]
 |cons l q ih =>
  intro p tail fu ss el h1 h2 h3 h4 h5 h6 h7
  obtain⟨fu,rfl⟩:∃ k,fu=k+1:=⟨fu - 1,by simp at h2;omega⟩
  simp only[List.length_cons] at h2 h4
  have hat:ws[p.length]? = some l:=by rw[h1];simp
  have hl0:=hwl l (List.mem_of_getElem? hat)
  have hwr:IntKind.wrap .i64 ((p.length:Int)+1)=(((p ++ [l]).length:Nat):Int):=by rw[wrS (by omega)];simp
  have hlF:l.length<F:=by omega
  have h36:=s36 F d (w:=sliceW) (l:=l) (k:=7) (by omega) (by omega) (by omega) hlF hF1
  rw[show (((7:Nat):Int))=7 from rfl] at h36
  have d1:decide ((p.length:Int)≤(N:Int))=true:=dT (by omega)
  have d2:decide ((0:Int)≤(p.length:Int))=true:=dT (by omega)
  have d3:decide ((p.length:Int)<((ws.length:Nat):Int))=true:=dT (by omega)
  rcases h36 with⟨ns,g',e1,e2,e3⟩ | ⟨e1,e3⟩
  ·obtain⟨a1,a2,_⟩:=(takeL_iff sliceW_no.1).1 e1
   have hr7:Row7 ns:=⟨a1,a2⟩
   obtain⟨x0,x1,x2,x3,x4,x5,x6,hns⟩:=row7 hr7
   have g0:g' 0=[.int .i64 (x0:Int)]:=e2 0 x0 (by rw[hns];rfl)
   have g1:g' 1=[.int .i64 (x1:Int)]:=e2 1 x1 (by rw[hns];rfl)
   have g2:g' 2=[.int .i64 (x2:Int)]:=e2 2 x2 (by rw[hns];rfl)
   have g3:g' 3=[.int .i64 (x3:Int)]:=e2 3 x3 (by rw[hns];rfl)
   have g4:g' 4=[.int .i64 (x4:Int)]:=e2 4 x4 (by rw[hns];rfl)
   have g5:g' 5=[.int .i64 (x5:Int)]:=e2 5 x5 (by rw[hns];rfl)
   have g6:g' 6=[.int .i64 (x6:Int)]:=e2 6 x6 (by rw[hns];rfl)
   refine fin13xstep e1 ?_
   have hfin:=ih (p ++ [l]) tail fu (ss ++ [ns]) (fun j=>if j<ss.length then el j else slcOf ns) (by rw[h1];simp) (by omega) (by simp;omega) (by simp;omega) (rows_snoc h5 ns)
    (by
     intro s hs;rcases List.mem_append.1 hs with hs | hs
     ·exact h6 s hs
     ·rw[List.mem_singleton.1 hs];exact hr7)
    (by
     intro y hy
     refine h7 (ns :: y) ?_
     show (match takeL sliceW 7 l with | none=>none | some n=>_)=_
     rw[e1]
     dsimp only
     rw[hy])
   have hv:[V.int .i64 (x0:Int),.int .i64 (x1:Int),.int .i64 (x2:Int),.int .i64 (x3:Int),.int .i64 (x4:Int),.int .i64 (x5:Int),.int .i64 (x6:Int)]=eSlc (slcOf ns):=by rw[hns];rfl
   rw[L13x1s,z11,pT,z0lt3,pT,hg0,tkCons_c,tkInt_i,d1,d2,d3]
   simp only[decide_true,pT]
   rw[tnC,hG _ _ hat,tkCons_c,tkStr_s,zsl,e3,tkOut_ret]
   simp only[pT,tkTup_t,tkCons_c,tkRow_r,tkBool_b,tkNil_0,tkInt_i,Bool.not_true,pF,z11,g0,g1,g2,g3,g4,g5,g6,hwr,
    show decide ((0:Int)<((7:Nat):Int))=true from rfl,show decide ((1:Int)<((7:Nat):Int))=true from rfl,show decide ((2:Int)<((7:Nat):Int))=true from rfl,show decide ((3:Int)<((7:Nat):Int))=true from rfl,show decide ((4:Int)<((7:Nat):Int))=true from rfl,show decide ((5:Int)<((7:Nat):Int))=true from rfl,show decide ((6:Int)<((7:Nat):Int))=true from rfl,
    dT (show (ss.length+1)*56≤140737488355328 by omega)]
   rw[hv,app_slc]
   rw[show (ss ++ [ns]).length=ss.length+1 by simp] at hfin
   exact hfin
  ·refine fin13xnone e1 ?_
   rw[L13x1s,z11,pT,z0lt3,pT,hg0,tkCons_c,tkInt_i,d1,d2,d3]
   simp only[decide_true,pT]
   rw[tnC,hG _ _ hat,tkCons_c,tkStr_s,zsl,e3,tkOut_ret]
   simp only[nilR,pT,tkTup_t,tkCons_c,tkRow_r,tkBool_b,tkNil_0,Bool.not_false]
   rfl
end Go.Sim.Lg

namespace Go.Sim.Lg
open Go.Proofs
open Go.Sim.Le (Cav Slc Span Stg Sl sl eCav eSlc eSpan eInt eStg CavOk SlcOk tkOut_ret tkBool_b tkInt_i tkAgg_a tkTup_t tkRow_r tkCons_c tkHv_h tkSCons_c tkSNil_n tkBox_b tkArr_a tkSl_r tkSl_o pT pF wr wrS)
variable (F d:Nat)
def Read13 (t:List UInt8) (X:Option Out):Prop:=match readP t with
 |some y=>∃ v c,CavV v c∧CavQ c∧hN c=y.1∧rowsN c=y.2∧X=some (.ret (.tup [v,.bool true]))
 |none=>∃ v c,CavV v c∧X=some (.ret (.tup [v,.bool false]))
theorem read13xnone {t:List UInt8} (h:∀ y,readP t ≠ some y) {v:V} {c:Cav} (hv:CavV v c) {X:Option Out} (hX:X=some (.ret (.tup [v,.bool false]))):Read13 t X:=by
 unfold Read13
 cases hr:readP t with
 |none=>exact⟨v,c,hv,hX⟩
 |some y=>exact absurd hr (h y)
theorem read13xdec {t:List UInt8} {h:List Nat} {ss:List (List Nat)} {v:V} {c:Cav} (hv:CavV v c) (hq:CavQ c) (h1:hN c=h) (h2:rowsN c=ss) (ho:logL h ss=t→readP t=some (h,ss)) (hn:∀ y,readP t=some y→y=(h,ss)∧logL h ss=t)
 {X:Option Out} (hX:X=some (.ret (.tup [v,.bool (decide (logL h ss=t))]))):Read13 t X:=by
 unfold Read13
 by_cases he:logL h ss=t
 ·rw[ho he]
  rw[dT he] at hX
  exact⟨v,c,hv,hq,h1,h2,hX⟩
 ·cases hr:readP t with
  |none=>rw[dF he] at hX;exact⟨v,c,hv,hX⟩
  |some y=>exact absurd (hn y hr).2 he
theorem read13xof {t:List UInt8} {l0:List UInt8} {ls:List (List UInt8)} (hs:spl 10 t=l0 :: ls) {N a b:Nat} (hh:takeL sonarW 3 l0=some [N,a,b]) (hNl:N+2=ls.length) {X:Option Out} (hX:Fin13 t N a b [] (takes (ls.take N)) X):Read13 t X:=by
 unfold Fin13 at hX
 cases ht:takes (ls.take N) with
 |none =>
  rw[ht] at hX
  obtain⟨v,c,hv,hX⟩:=hX
  refine read13xnone (fun y hr=>?_) hv hX
  obtain⟨h,ss⟩:=y
  obtain⟨e1,e2,e3,e4⟩:=(readP_lines hs).1 hr
  rw[hh] at e1
  cases e1
  rw[show [N,a,b].getD 0 0=N from rfl,ht] at e3
  cases e3
 |some ss =>
  rw[ht] at hX
  obtain⟨el,hel,hX⟩:=hX
  have hlen:ss.length=N:=by rw[takes_len ht,List.length_take];omega
  rw[List.nil_append] at hel hX
  refine read13xdec (Or.inl rfl) (cavQ_rows (takes_some.1 ht).1 hel a b false) ?_ (rows_N (takes_some.1 ht).1 hel false _ _) (fun e=>?_) (fun y hr=>?_) hX
  ·show [ss.length,(a:Int).toNat,(b:Int).toNat]=_
   rw[tnC,tnC,hlen]
  ·exact (readP_lines hs).2 ⟨hh,hNl,ht,e⟩
  ·obtain⟨h,ss'⟩:=y
   obtain⟨e1,e2,e3,e4⟩:=(readP_lines hs).1 hr
   rw[hh] at e1
   cases e1
   rw[show [N,a,b].getD 0 0=N from rfl,ht] at e3
   cases e3
   exact⟨rfl,e4⟩
theorem e13x0 (t:List UInt8) {l0:List UInt8} {ls:List (List UInt8)} (hs:spl 10 t=l0 :: ls) (a b:Nat) (ha:a<100000000000000) (hb:b<100000000000000) (hh:takeL sonarW 3 l0=some [0,a,b]) (hNl:0+2=ls.length) (hF:1000000000<F) (G g:Nat→List V) (hg0:g 0=[.int .i64 ((0:Nat):Int)]) (fu k:Nat) :
 Read13 t (L13x0 (E F (d+3)) F (str t) (fu+1) false k 1 G false 3 1 g .i64 (a:Int) .i64 (b:Int)):=by
 have hcp:CavP (nilC (a:Int) (b:Int)):=by
  refine⟨⟨?_,?_⟩,⟨?_,?_⟩,Nat.zero_le _,fun i hi=>absurd hi (Nat.not_lt_zero _)⟩
  ·show (0:Int)≤(a:Int);omega
  ·show (a:Int)<100000000000000;omega
  ·show (0:Int)≤(b:Int);omega
  ·show (b:Int)<100000000000000;omega
 have e10:=s10 F d _ hcp hF
 have e:(E F (d+3)).pf 10 [nilV (a:Int) (b:Int)]=(E F (d+3)).pf 10 [.agg (eCav (nilC (a:Int) (b:Int)))]:=E_fix F (d+3) 10 _ _ rfl
 rw[← e] at e10
 unfold nilV at e10
 have eh:hN (nilC (a:Int) (b:Int))=[0,a,b]:=by
  show [0,(a:Int).toNat,(b:Int).toNat]=_
  rw[tnC,tnC]
 have er:rowsN (nilC (a:Int) (b:Int))=[]:=rfl
 refine read13xdec (v:=nilV (a:Int) (b:Int)) (Or.inr ⟨a,b,rfl,rfl⟩) ⟨hcp.hold.1,hcp.oil.1,hcp.slc⟩ eh er (fun e=>?_) (fun y hr=>?_) ?_
 ·exact (readP_lines hs).2 ⟨hh,hNl,rfl,e⟩
 ·obtain⟨h,ss'⟩:=y
  obtain⟨e1,e2,e3,e4⟩:=(readP_lines hs).1 hr
  rw[hh] at e1
  cases e1
  cases e3
  exact⟨rfl,e4⟩
 ·rw[eh,er] at e10
  rw[L13x0s,z11,pT,z0lt3,pT,hg0,tkCons_c,tkInt_i]
  simp only[decide_true,pT]
  rw[dF (show ¬ ((1:Int)≤((0:Nat):Int)) by omega),pF,e10,tkOut_ret,tkStr_s,eqS_str]
  rfl
theorem join_len (b:UInt8):∀ (ws:List (List UInt8)),∀ w ∈ ws,w.length+1≤(ws.flatMap (b :: ·)).length
 |[],w,h=>by cases h
 |x :: xs,w,h=>by
  rw[List.flatMap_cons,List.length_append,List.length_cons]
  rcases List.mem_cons.1 h with rfl | h
  ·omega
  ·have:=join_len b xs w h;omega
theorem join_many (b:UInt8):∀ (ws:List (List UInt8)),ws.length≤(ws.flatMap (b :: ·)).length
 |[]=>Nat.le_refl _
 |x :: xs=>by
  rw[List.flatMap_cons,List.length_append,List.length_cons,List.length_cons]
  have:=join_many b xs
  omega
theorem join_take (b:UInt8) (n:Nat) (ws:List (List UInt8)):((ws.take n).flatMap (b :: ·)).length≤(ws.flatMap (b :: ·)).length:=by
 conv=>rhs;rw[← List.take_append_drop n ws,List.flatMap_append,List.length_append]
 omega
theorem s13 {t:List UInt8} (ht:t.length≤20100) (hF:1000000000<F):Read13 t ((E F (d+4)).pf 13 [.str (str t)]):=by
 have hF1:1000<F:=by clear ht;omega
 have hF2:50000<F:=by clear ht;omega
 obtain⟨G,hG,h35⟩:=s35 F (d+2) (t:=t) (b:=10) (by omega) (by omega)
 rw[show (((10:UInt8).toNat:Nat):Int)=10 from rfl] at h35
 obtain⟨l0,ls,hs⟩:∃ l0 ls,spl 10 t=l0 :: ls:=by
  cases hx:spl 10 t with
  |nil=>exact absurd hx (spl_ne _ _)
  |cons a l=>exact⟨a,l,rfl⟩
 obtain⟨hj,hj2,hj3⟩:=spl_join 10 t.length t l0 ls (Nat.le_refl _) hs
 have hjl:t.length=l0.length+(ls.flatMap ((10:UInt8) :: ·)).length:=by
  conv=>lhs;rw[hj]
  rw[List.length_append]
 have hmany:=join_many 10 ls
 have hwl:∀ w ∈ l0 :: ls,w.length≤100000:=by
  intro w hw
  rcases List.mem_cons.1 hw with rfl | hw
  ·omega
  ·have:=join_len 10 ls w hw;omega
 rw[hs] at h35 hG
 have hk:(l0 :: ls).length≤100000:=by rw[List.length_cons];omega
 rw[E_pf _ _ _ _ rfl rfl rfl,t13,h35,tkOut_ret,tkRow_r,z11,pT,zso]
 have h36:=s36 F d (w:=sonarW) (l:=l0) (k:=3) (by omega) (by omega) (by omega) (by omega) hF1
 rw[show (((3:Nat):Int))=3 from rfl] at h36
 rw[dT (show (0:Int)<(((l0 :: ls).length:Nat):Int) by rw[List.length_cons];omega),pT,hG 0 l0 rfl,tkCons_c,tkStr_s]
 have hlen3:IntKind.wrap .i64 ((((l0 :: ls).length:Nat):Int) - 3)=(((l0 :: ls).length:Nat):Int) - 3:=wr (by omega)
 rcases h36 with⟨h,g,e1,e2,e3⟩ | ⟨e1,e3⟩
 ·obtain⟨a1,a2,_⟩:=(takeL_iff sonarW_no.1).1 e1
  obtain⟨N,a,b,rfl⟩:=h3 a1
  have hlt:∀ n ∈ [N,a,b],n<100000000000000:=fun n hn=>by
   have:=dec_lt n 14 (a2 n hn)
   exact this
  have ha:=hlt a (by simp)
  have hb:=hlt b (by simp)
  have g0:g 0=[.int .i64 (N:Int)]:=e2 0 N rfl
  have g1:g 1=[.int .i64 (a:Int)]:=e2 1 a rfl
  have g2:g 2=[.int .i64 (b:Int)]:=e2 2 b rfl
  rw[e3,tkOut_ret]
  simp only[tkTup_t,tkCons_c,tkRow_r,tkBool_b,tkNil_0,Bool.not_true,pF,z11,pT,z0lt3,g0,g1,g2,tkInt_i,decide_true,hlen3,show decide ((1:Int)<((3:Nat):Int))=true from rfl,show decide ((2:Int)<((3:Nat):Int))=true from rfl]
  by_cases hNl:N+2=ls.length
  ·rw[show ((N:Int) != (((l0 :: ls).length:Nat):Int) - 3)=false by rw[bne_eq_false_iff_eq,List.length_cons];omega,pF]
   obtain⟨fu,hfu⟩:∃ fu,F=fu+1:=⟨F - 1,by omega⟩
   suffices ∀ f2,f2=fu+1→Read13 t (L13x0 (E F (d+3)) F (str t) f2 false (l0 :: ls).length 1 G false 3 1 g .i64 (a:Int) .i64 (b:Int)) by
    exact this F hfu
   rintro _ rfl
   cases N with
   |zero=>exact e13x0 F d t hs a b ha hb e1 hNl hF G g g0 fu _
   |succ n =>
    obtain⟨l1,ls',rfl⟩:∃ l1 ls',ls=l1 :: ls':=by
     cases ls with
     |nil=>simp at hNl
     |cons x xs=>exact⟨x,xs,rfl⟩
    simp only[List.length_cons] at hNl hmany
    refine read13xof hs e1 (by simp;omega) ?_
    rw[List.take_succ_cons]
    have hl1:=hwl l1 (by simp)
    have hl1F:l1.length<F:=by omega
    have h36:=s36 F d (w:=sliceW) (l:=l1) (k:=7) (by omega) (by omega) (by omega) hl1F hF1
    rw[show (((7:Nat):Int))=7 from rfl] at h36
    have d1:decide ((1:Int)≤((n+1:Nat):Int))=true:=dT (by omega)
    have d3:decide ((1:Int)<(((l0 :: l1 :: ls').length:Nat):Int))=true:=dT (by simp only[List.length_cons];omega)
    have hG1:G 1=[.str (str l1)]:=hG 1 l1 rfl
    rcases h36 with⟨ns,g',f1,f2,f3⟩ | ⟨f1,f3⟩
    ·obtain⟨c1,c2,_⟩:=(takeL_iff sliceW_no.1).1 f1
     have hr7:Row7 ns:=⟨c1,c2⟩
     obtain⟨x0,x1,x2,x3,x4,x5,x6,hns⟩:=row7 hr7
     have k0:g' 0=[.int .i64 (x0:Int)]:=f2 0 x0 (by rw[hns];rfl)
     have k1:g' 1=[.int .i64 (x1:Int)]:=f2 1 x1 (by rw[hns];rfl)
     have k2:g' 2=[.int .i64 (x2:Int)]:=f2 2 x2 (by rw[hns];rfl)
     have k3:g' 3=[.int .i64 (x3:Int)]:=f2 3 x3 (by rw[hns];rfl)
     have k4:g' 4=[.int .i64 (x4:Int)]:=f2 4 x4 (by rw[hns];rfl)
     have k5:g' 5=[.int .i64 (x5:Int)]:=f2 5 x5 (by rw[hns];rfl)
     have k6:g' 6=[.int .i64 (x6:Int)]:=f2 6 x6 (by rw[hns];rfl)
     refine fin13xstep f1 ?_
     have hcap:∀ y,takes (ls'.take n)=some y→n+1≤2000:=by
      intro y hy
      have h1:=takes_big hy
      have h2:=join_take 10 n ls'
      rw[List.length_take] at h1
      rw[List.flatMap_cons,List.length_append] at hjl
      omega
     have hq:(ls'.take n).length<fu:=by rw[List.length_take];omega
     have hfin:=l13x1 F d (str t) t rfl (n+1) a b ha hb hF hF1 (l0 :: l1 :: ls') G g hG hk g0 (by simp only[List.length_cons];omega) hwl (ls'.take n) [l0,l1] (ls'.drop n) fu [ns] (fun _=>slcOf ns) (by rw[List.take_append_drop];rfl) hq rfl (by rw[List.length_take];simp;omega) (by intro i m hm;cases i with | zero=>cases hm;rfl | succ i=>cases hm) (by intro s hs;rw[List.mem_singleton.1 hs];exact hr7) hcap
     have hv:[V.int .i64 (x0:Int),.int .i64 (x1:Int),.int .i64 (x2:Int),.int .i64 (x3:Int),.int .i64 (x4:Int),.int .i64 (x5:Int),.int .i64 (x6:Int)]=eSlc (slcOf ns):=by rw[hns];rfl
     have hw2:IntKind.wrap .i64 ((1:Int)+1)=(([l0,l1]:List (List UInt8)).length:Int):=rfl
     rw[L13x0s,z11,pT,z0lt3,pT,g0,tkCons_c,tkInt_i,d1,d3]
     simp only[decide_true,pT]
     rw[hG1,tkCons_c,tkStr_s,zsl,f3,tkOut_ret]
     simp only[pT,tkTup_t,tkCons_c,tkRow_r,tkBool_b,tkNil_0,tkInt_i,Bool.not_true,pF,z11,k0,k1,k2,k3,k4,k5,k6,hw2,
      show decide ((0:Int)<((7:Nat):Int))=true from rfl,show decide ((1:Int)<((7:Nat):Int))=true from rfl,show decide ((2:Int)<((7:Nat):Int))=true from rfl,show decide ((3:Int)<((7:Nat):Int))=true from rfl,show decide ((4:Int)<((7:Nat):Int))=true from rfl,show decide ((5:Int)<((7:Nat):Int))=true from rfl,show decide ((6:Int)<((7:Nat):Int))=true from rfl]
     rw[hv]
     exact hfin
    ·refine fin13xnone f1 ?_
     rw[L13x0s,z11,pT,z0lt3,pT,g0,tkCons_c,tkInt_i,d1,d3]
     simp only[decide_true,pT]
     rw[hG1,tkCons_c,tkStr_s,zsl,f3,tkOut_ret]
     simp only[nilR,pT,tkTup_t,tkCons_c,tkRow_r,tkBool_b,tkNil_0,Bool.not_false]
     rfl
  ·rw[show ((N:Int) != (((l0 :: ls).length:Nat):Int) - 3)=true by rw[bne_iff_ne,List.length_cons];omega,pT]
   refine read13xnone (fun y hr=>?_) (v:=nilV 0 0) (c:=nilC 0 0) (Or.inr ⟨0,0,rfl,rfl⟩) rfl
   obtain⟨h,ss⟩:=y
   obtain⟨f1,f2,_,_⟩:=(readP_lines hs).1 hr
   rw[e1] at f1
   cases f1
   exact hNl f2
 ·rw[e3,tkOut_ret]
  simp only[nilR,tkTup_t,tkCons_c,tkRow_r,tkBool_b,tkNil_0,Bool.not_false,pT]
  refine read13xnone (fun y hr=>?_) (v:=nilV 0 0) (c:=nilC 0 0) (Or.inr ⟨0,0,rfl,rfl⟩) rfl
  obtain⟨h,ss⟩:=y
  obtain⟨f1,_,_,_⟩:=(readP_lines hs).1 hr
  rw[e1] at f1
  cases f1
end Go.Sim.Lg

namespace Go.Sim.Lg
open Go.Proofs
open Go.Sim.Le (Cav Slc Span Stg Sl sl eCav eSlc eSpan eInt eStg CavOk SlcOk tkOut_ret tkBool_b tkInt_i tkAgg_a tkTup_t tkRow_r tkCons_c tkHv_h tkSCons_c tkSNil_n tkBox_b tkArr_a tkSl_r tkSl_o pT pF wr wrS)
theorem slc_N {a b:Slc} (ha:SlcP a) (hb:SlcP b) (h:sN a=sN b):a=b:=by
 rw[← slcOf_sN ha,← slcOf_sN hb,h]
theorem same_of {a b:Cav} (ha:CavQ a) (hb:CavQ b) (h1:hN a=hN b) (h2:rowsN a=rowsN b):SameC a b:=by
 have a1:=ha.hold
 have a2:=ha.oil
 have b1:=hb.hold
 have b2:=hb.oil
 unfold hN at h1
 simp only[List.cons.injEq,and_true] at h1
 obtain⟨e1,e2,e3⟩:=h1
 refine⟨by omega,by omega,e1,fun i hi=>?_⟩
 have e4:(rowsN a)[i]? = (rowsN b)[i]?:=by rw[h2]
 unfold rowsN at e4
 rw[List.getElem?_map,List.getElem?_map,List.getElem?_range hi,List.getElem?_range (by omega)] at e4
 simp only[Option.map_some,Option.some.injEq] at e4
 exact slc_N (ha.slc i hi) (hb.slc i (by omega)) e4
theorem same_ok {a b:Cav} (h:SameC a b) (ha:CavOk a):CavOk b:=by
 obtain⟨h1,h2,h3,h4⟩:=h
 obtain⟨⟨a1,a2⟩,⟨a3,a4⟩,⟨a5,a6⟩,a7⟩:=ha
 refine⟨⟨by omega,by omega⟩,⟨by omega,by omega⟩,⟨by omega,by omega⟩,fun i hi=>?_⟩
 rw[← h4 i (by omega)]
 exact a7 i (by omega)
theorem same_symm {a b:Cav} (h:SameC a b):SameC b a:=by
 obtain⟨h1,h2,h3,h4⟩:=h
 exact⟨h1.symm,h2.symm,h3.symm,fun i hi=>(h4 i (by omega)).symm⟩
theorem ok_cavQ {c:Cav} (h:CavOk c):CavQ c:=by
 obtain⟨⟨a1,a2⟩,⟨a3,a4⟩,⟨a5,a6⟩,a7⟩:=h
 exact⟨by omega,by omega,fun i hi=>slcP_of (a7 i hi)⟩
theorem ok_cavP {c:Cav} (h:CavOk c):CavP c:=by
 obtain⟨⟨a1,a2⟩,⟨a3,a4⟩,⟨a5,a6⟩,a7⟩:=h
 exact⟨⟨by omega,by omega⟩,⟨by omega,by omega⟩,by omega,fun i hi=>slcP_of (a7 i hi)⟩
theorem dec14 {n:Nat} (h:n<100000000000000):(dec n).length≤14:=by
 have e:(10:Nat) ^ 14=100000000000000:=by decide
 exact dec_le (by decide) (by rw[e];exact h)
theorem slc_nums {s:Slc} (h:SlcP s):Row7 (sN s):=by
 refine⟨rfl,fun n hn=>dec14 ?_⟩
 unfold SlcP at h
 simp only[sN,List.mem_cons,List.not_mem_nil,or_false] at hn
 omega
theorem mem_rows {c:Cav} {s:List Nat} (h:s ∈ rowsN c):∃ i,i<c.slices.len∧s=sN (c.slices.el i):=by
 unfold rowsN at h
 obtain⟨i,h1,h2⟩:=List.mem_map.1 h
 exact⟨i,List.mem_range.1 h1,h2.symm⟩
theorem ok_log {c:Cav} (h:CavOk c):IsLog (logL (hN c) (rowsN c)) (hN c) (rowsN c):=by
 have hq:=ok_cavQ h
 obtain⟨⟨a1,a2⟩,⟨a3,a4⟩,⟨a5,a6⟩,a7⟩:=h
 refine⟨⟨rfl,fun n hn=>dec14 ?_⟩,?_,fun s hs=>?_,rfl⟩
 ·simp only[hN,List.mem_cons,List.not_mem_nil,or_false] at hn
  omega
 ·unfold rowsN
  rw[List.length_map,List.length_range]
  rfl
 ·obtain⟨i,hi,rfl⟩:=mem_rows hs
  exact slc_nums (hq.slc i hi)
theorem nums_len {ns:List Nat} (h:Nums ns):(numsL ns).length≤15*ns.length:=by
 induction ns with
 |nil=>exact Nat.le_refl _
 |cons n ns ih =>
  have h1:=h n (List.mem_cons_self ..)
  have h2:=ih fun m hm=>h m (List.mem_cons_of_mem _ hm)
  simp only[numsL,List.flatMap_cons,List.length_append,List.length_cons] at h2 ⊢
  omega
theorem end_len (s:Nat):(endL s).length=7:=by
 unfold endL
 rw[dec_small (show s % 97 / 10<10 by omega),dec_small (show s % 97 % 10<10 by omega)]
 rfl
theorem log_len {t:List UInt8} {h:List Nat} {ss:List (List Nat)} (hl:IsLog t h ss):t.length≤60+120*ss.length:=by
 obtain⟨⟨h1,h2⟩,_,h3,rfl⟩:=hl
 have e1:=nums_len h2
 have e2:(ss.flatMap (lineL sliceW)).length≤120*ss.length:=by
  clear e1 h1 h2
  rename_i hm
  clear hm
  induction ss with
  |nil=>exact Nat.le_refl _
  |cons s ss ih =>
   have h4:=h3 s (List.mem_cons_self ..)
   have h5:=ih fun m hm=>h3 m (List.mem_cons_of_mem _ hm)
   have h6:=nums_len h4.2
   rw[h4.1] at h6
   have h7:sliceW.length=5:=rfl
   rw[List.flatMap_cons,List.length_append,List.length_cons]
   simp only[lineL,List.length_append,List.length_cons,List.length_nil]
   omega
 have e3:=end_len (sumL h ss)
 have h7:sonarW.length=5:=rfl
 simp only[logL,bodyL,lineL,List.length_append,List.length_cons,List.length_nil] at e2 ⊢
 omega
variable (F d:Nat)
theorem s7 (hF:1000000000<F):(E F d).pf 7 []=some (.ret (.bool true)):=E_l rfl (Le.s21 F 21 hF) rfl
theorem s9 {v:V} {c:Cav} (hv:CavV v c) (hl:c.slices.len≤100000) (hF:1000000000<F):(E F d).pf 9 [v]=some (.ret (.bool (decide (CavOk c)))):=by
 have hlF:c.slices.len<F:=by omega
 have e:(E F d).pf 9 [.agg (eCav c)]=some (.ret (.bool (decide (CavOk c)))):=E_l rfl (Le.s27 F 38 c (big_le hl) hlF) rfl
 rcases hv with rfl | ⟨a,b,rfl,rfl⟩
 ·exact e
 ·rw[show (E F d).pf 9 [nilV a b]=(E F d).pf 9 [.agg (eCav (nilC a b))] from E_fix F d 9 _ _ rfl]
  exact e
end Go.Sim.Lg

namespace Go.Sim.Lg
open Go.Proofs
open Go.Sim.Le (Cav Slc Span Stg Sl sl eCav eSlc eSpan eInt eStg CavOk SlcOk tkOut_ret tkBool_b tkInt_i tkAgg_a tkTup_t tkRow_r tkCons_c tkHv_h tkSCons_c tkSNil_n tkBox_b tkArr_a tkSl_r tkSl_o pT pF wr wrS)
variable (F d:Nat)
theorem ev_cav (c:Cav):V.agg (eCav c) = .agg [.row c.slices.nl c.slices.len 7 (fun j=>eSlc (c.slices.el j)),.int .i64 c.hold,.int .i64 c.oil]:=rfl
theorem cavV_shape {v:V} {c:Cav} (hv:CavV v c):∃ b n k g x y,v = .agg [.row b n k g,.int .i64 x,.int .i64 y]:=by
 rcases hv with rfl | ⟨a,b,rfl,rfl⟩
 ·exact⟨_,_,_,_,_,_,rfl⟩
 ·exact⟨_,_,_,_,_,_,rfl⟩
theorem read13xany {t:List UInt8} {X:Option Out} (h:Read13 t X):∃ v c b,CavV v c∧X=some (.ret (.tup [v,.bool b])):=by
 unfold Read13 at h
 split at h
 ·obtain⟨v,c,h1,_,_,_,h2⟩:=h;exact⟨v,c,true,h1,h2⟩
 ·obtain⟨v,c,h1,h2⟩:=h;exact⟨v,c,false,h1,h2⟩
theorem rows_len:∀ {ss:List (List Nat)},(∀ s ∈ ss,Row7 s)→20*ss.length≤(ss.flatMap (lineL sliceW)).length
 |[],_=>Nat.le_refl _
 |s :: ss,h3=>by
  have i1:=rows_len fun m hm=>h3 m (List.mem_cons_of_mem _ hm)
  have i2:takes [sliceW ++ numsL s]=some [s]:=takes_some.2 ⟨fun x hx=>by rw[List.mem_singleton.1 hx];exact h3 s (List.mem_cons_self ..),rfl⟩
  have i3:=takes_big i2
  rw[List.flatMap_cons,List.length_append,List.length_cons]
  simp only[lineL,List.length_append,List.length_cons,List.length_nil,List.flatMap_cons,List.flatMap_nil] at i3 ⊢
  omega
theorem log_rows {t:List UInt8} {h:List Nat} {ss:List (List Nat)} (hl:IsLog t h ss):20*ss.length≤t.length:=by
 have e:=rows_len hl.rows
 rw[hl.text]
 simp only[logL,bodyL,List.length_append]
 omega
theorem zs0:((0:Int)==0)=true:=rfl
theorem zs2:((2:Int)==2)=true:=rfl
theorem zs3:((3:Int)==3)=true:=rfl
theorem zs4:((4:Int)==4)=true:=rfl
theorem s4 (t:List UInt8) (hF:1000000000<F):(E F (d+5)).pf 4 [.str (str t)]=some (.ret (.bool true)):=by
 have hF0:0<F:=Nat.lt_trans (by decide) hF
 have h7:=s7 F (d+4) hF
 have h12:=s12xnil (F:=F) (d:=d+3) hF0
 unfold nilV at h12
 rw[E_pf _ _ _ _ rfl rfl rfl,t4,size_str]
 by_cases h1:t.length≤1500
 ·rw[dF (by omega),pF,dF (by omega),pF]
  have hr:=s11 F (d+1) (t:=t) (by omega) hF
  have hx:=s13 F d (t:=t) (by omega) hF
  unfold Read11 at hr
  cases hp:readP t with
  |none =>
   rw[hp] at hr
   unfold Read13 at hx
   rw[hp] at hx
   dsimp only at hr hx
   obtain⟨v,c,hv,hx⟩:=hx
   obtain⟨b,n,k,g,x,y,rfl⟩:=cavV_shape hv
   rw[hr,hx]
   simp only[tkOut_ret,nilV,tkTup_t,tkCons_c,tkAgg_a,tkRow_r,tkInt_i,tkNil_0,tkBool_b,decide_true,zs4,pT,Bool.not_false,h12,h7,
    dF (show ¬ ((t.length:Int)>20000) by omega),pF]
  |some y =>
   obtain⟨h,ss⟩:=y
   rw[hp] at hr
   unfold Read13 at hx
   rw[hp] at hx
   dsimp only at hr hx
   obtain⟨c,hq,c1,c2,hr⟩:=hr
   obtain⟨v,c',hv,hq',d1,d2,hx⟩:=hx
   have hlog:=readP_iff.1 hp
   have hsame:=same_of hq hq' (by rw[c1,d1]) (by rw[c2,d2])
   have hlen:c'.slices.len≤100000:=by
    have e:(rowsN c').length=c'.slices.len:=by unfold rowsN;simp
    rw[d2,hlog.many] at e
    have e3:=log_rows hlog
    have e4:=hlog.many
    omega
   have h9:=s9 F (d+4) hv hlen hF
   obtain⟨b,n,k,g,x,y,rfl⟩:=cavV_shape hv
   by_cases hok:CavOk c
   ·have hok':=same_ok hsame hok
    rw[if_pos hok] at hr
    have h8:=s8 F (d+1) c (by have:=hok.1.2;exact big_le (by omega)) (by clear h9;omega) (by have:=hok.1.2;clear h9;omega)
    rw[if_pos hok,c1,c2,← hlog.text] at h8
    have hv':V.agg [.row b n k g,.int .i64 x,.int .i64 y] = .agg (eCav c'):=by
     rcases hv with hv | ⟨a,b,rfl,_⟩
     ·exact hv
     ·exact absurd hok' (nil_not _ _)
    have hle:c.slices.len≤1000000:=by have:=hok.1.2;omega
    have hlF:c.slices.len<F:=by have:=hok.1.2;clear h9;omega
    have hsm:=s12 F (d+3) hsame hle hlF
    rw[← hv'] at hsm
    rw[ev_cav] at hsm h8 hr
    rw[hr,hx]
    rw[dT hok'] at h9
    simp only[tkOut_ret,nilV,tkTup_t,tkCons_c,tkAgg_a,tkRow_r,tkInt_i,tkNil_0,tkBool_b,tkStr_s,decide_true,zs0,pT,Bool.not_true,h9,h8,hsm,h7,
     dF (show ¬ ((t.length:Int)>20000) by omega),pF,eqS_str]
   ·have hok':¬ CavOk c':=fun e=>hok (same_ok (same_symm hsame) e)
    rw[if_neg hok] at hr
    rw[hr,hx]
    rw[dF hok'] at h9
    simp only[tkOut_ret,nilV,tkTup_t,tkCons_c,tkAgg_a,tkRow_r,tkInt_i,tkNil_0,tkBool_b,decide_true,zs2,pT,Bool.not_true,Bool.not_false,h9,h12,h7,
     dF (show ¬ ((t.length:Int)>20000) by omega),pF]
 ·rw[dT (show (t.length:Int)>1500 by omega),pT]
  by_cases h2:t.length≤20000
  ·rw[dT (by omega),pT,h7,tkOut_ret,tkBool_b]
  ·rw[dF (by omega),pF]
   by_cases h3:t.length≤20100
   ·rw[dF (by omega),pF]
    have hr:=s11xlong F (d+3) (t:=t) (by omega)
    obtain⟨v,c,b,hv,hx⟩:=read13xany (s13 F d (t:=t) (by omega) hF)
    obtain⟨nl,n,k,g,x,y,rfl⟩:=cavV_shape hv
    rw[hr,hx]
    simp only[tkOut_ret,nilV,tkTup_t,tkCons_c,tkAgg_a,tkRow_r,tkInt_i,tkNil_0,tkBool_b,decide_true,zs3,pT,h12,h7,
     dT (show ((t.length:Int)>20000) by omega)]
   ·rw[dT (by omega),pT,h7,tkOut_ret,tkBool_b]
end Go.Sim.Lg

namespace Go.Sim.Lg
open Go.Proofs
open Go.Sim.Le (Cav Slc Span Stg Sl sl eCav eSlc eSpan eInt eStg CavOk SlcOk tkOut_ret tkBool_b tkInt_i tkAgg_a tkTup_t tkRow_r tkCons_c tkHv_h tkSCons_c tkSNil_n tkBox_b tkArr_a tkSl_r tkSl_o pT pF wr wrS)
variable (F d:Nat)
theorem zbn0:((0:Int) != 0)=false:=rfl
theorem zbs:bs []=str []:=rfl
theorem ok_len {c:Cav} (h:CavOk c):(logL (hN c) (rowsN c)).length≤2000:=by
 have h1:=log_len (ok_log h)
 have h2:(rowsN c).length=c.slices.len:=by unfold rowsN;simp
 have h3:=h.1.2
 omega
theorem read_own {c:Cav} (h:CavOk c) (hF:1000000000<F):∃ c',SameC c' c∧CavOk c'∧(E F (d+3)).pf 11 [.str (str (logL (hN c) (rowsN c)))]=some (.ret (.tup [.agg (eCav c'),.int .i64 0])):=by
 have hr:=s11 F d (t:=logL (hN c) (rowsN c)) (by have:=ok_len h;omega) hF
 unfold Read11 at hr
 rw[readP_iff.2 (ok_log h)] at hr
 obtain⟨c',hq,c1,c2,hr⟩:=hr
 have hsame:=same_of hq (ok_cavQ h) c1 c2
 have hok:=same_ok (same_symm hsame) h
 rw[if_pos hok] at hr
 exact⟨c',hsame,hok,hr⟩
theorem s3 (c:Cav) (hl:c.slices.len≤4611686018427387903) (hF:1000000000<F):(E F (d+5)).pf 3 [.agg (eCav c)]=some (.ret (.bool true)):=by
 have h7:=s7 F (d+4) hF
 have h6:=s6 F (d+3) c
 rw[E_pf _ _ _ _ rfl rfl rfl,t3,h6,tkOut_ret,tkBool_b]
 by_cases h20:c.slices.len≤20
 ·have hlF:c.slices.len<F:=by clear hl;omega
  have h9:=s9 F (d+4) (v:=.agg (eCav c)) (c:=c) (Or.inl rfl) (by clear hl;omega) hF
  have h8:=s8 F (d+1) c (by clear hF h9;omega) (by clear hl;omega) hlF
  rw[dT (by omega),Bool.not_true,pF,h8,tkOut_ret]
  by_cases hok:CavOk c
  ·rw[if_pos hok]
   rw[dT hok] at h9
   have h10:=s10 F (d+1) c (ok_cavP hok) hF
   obtain⟨c',hsame,hok',hr⟩:=read_own F (d+1) hok hF
   have hsm:=s12 F (d+3) hsame (by have:=hok'.1.2;omega) (by have:=hok'.1.2;clear hl h6 h7 h8 h9 h10 hr;omega)
   rw[ev_cav c'] at hr hsm
   simp only[tkOut_ret,tkTup_t,tkCons_c,tkAgg_a,tkRow_r,tkInt_i,tkNil_0,tkBool_b,tkStr_s,decide_true,zbn0,zs0,pT,Bool.not_true,h9,h10,hr,hsm,h7,pF,eqS_str]
  ·rw[if_neg hok]
   rw[dF hok] at h9
   simp only[tkOut_ret,tkTup_t,tkCons_c,tkNil_0,tkBool_b,tkStr_s,tkInt_i,decide_true,zs2,pT,Bool.not_false,h9,h7,zbs,eqS_str]
 ·rw[dF (by omega),Bool.not_false,pT,h7,tkOut_ret,tkBool_b]
end Go.Sim.Lg

namespace Go.Sim.Lg
open Go.Proofs
def isDig (b:UInt8):Prop:=48≤b.toNat∧b.toNat≤57
instance (b : UInt8) : Decidable (isDig b) := by unfold isDig;exact inferInstance
def scan:List UInt8→Nat × Nat
 |[]=>(1,0)
 |b :: l=>if isDig b then (10*(scan l).1,(scan l).2+(b.toNat - 48)*(scan l).1) else (1,(scan l).2)
theorem scan_dig {b:UInt8} {l:List UInt8} (h:isDig b):scan (b :: l)=(10*(scan l).1,(scan l).2+(b.toNat - 48)*(scan l).1):=by
 rw[scan,if_pos h]
theorem scan_no {b:UInt8} {l:List UInt8} (h:¬ isDig b):scan (b :: l)=(1,(scan l).2):=by
 rw[scan,if_neg h]
theorem scan_pow:∀ l:List UInt8,∃ k,(scan l).1=10 ^ k
 |[]=>⟨0,rfl⟩
 |b :: l=>by
  obtain⟨k,hk⟩:=scan_pow l
  by_cases h:isDig b
  ·exact⟨k+1,by rw[scan_dig h];show 10*(scan l).1=_;rw[hk,Nat.pow_succ,Nat.mul_comm]⟩
  ·exact⟨0,by rw[scan_no h,Nat.pow_zero]⟩
theorem scan_set:∀ (l:List UInt8) (x:Nat) (a b:UInt8),l[x]? = some a→isDig a→isDig b→∃ k,(scan (l.set x b)).1=(scan l).1∧(scan (l.set x b)).2+(a.toNat - 48)*10 ^ k=(scan l).2+(b.toNat - 48)*10 ^ k
 |[],x,a,b,h,_,_=>by cases h
 |c :: l,0,a,b,h,ha,hb=>by
  cases h
  obtain⟨k,hk⟩:=scan_pow l
  refine⟨k,?_,?_⟩
  ·rw[List.set_cons_zero,scan_dig ha,scan_dig hb]
  ·rw[List.set_cons_zero,scan_dig ha,scan_dig hb,hk]
   show (scan l).2+_+_=(scan l).2+_+_
   omega
 |c :: l,x+1,a,b,h,ha,hb=>by
  obtain⟨k,h1,h2⟩:=scan_set l x a b (by simpa using h) ha hb
  refine⟨k,?_,?_⟩
  ·rw[List.set_cons_succ]
   by_cases hc:isDig c
   ·rw[scan_dig hc,scan_dig hc,h1]
   ·rw[scan_no hc,scan_no hc]
  ·rw[List.set_cons_succ]
   by_cases hc:isDig c
   ·rw[scan_dig hc,scan_dig hc,h1]
    show (scan (l.set x b)).2+_+_=(scan l).2+_+_
    omega
   ·rw[scan_no hc,scan_no hc]
    exact h2
theorem dig_of {m:Nat} (h:m<10):isDig (UInt8.ofNat (48+m))∧(UInt8.ofNat (48+m)).toNat - 48=m:=by
 have:=dig_val h
 unfold isDig
 omega
theorem scan_dec (n:Nat):∀ r:List UInt8,∃ k,(scan (dec n ++ r)).1=10 ^ k*(scan r).1∧(scan (dec n ++ r)).2=(scan r).2+n*(scan r).1:=by
 induction n using Nat.strongRecOn with
 |_ n ih =>
  intro r
  by_cases h:n<10
  ·obtain⟨h1,h2⟩:=dig_of h
   refine⟨1,?_,?_⟩
   ·rw[dec_small h,List.cons_append,List.nil_append,scan_dig h1]
   ·rw[dec_small h,List.cons_append,List.nil_append,scan_dig h1,h2]
  ·obtain⟨h1,h2⟩:=dig_of (show n % 10<10 by omega)
   obtain⟨k,e1,e2⟩:=ih (n / 10) (by omega) (UInt8.ofNat (48+n % 10) :: r)
   rw[scan_dig h1,h2] at e1 e2
   dsimp only at e1 e2
   refine⟨k+1,?_,?_⟩
   ·rw[dec_big h,List.append_assoc,List.cons_append,List.nil_append,e1,Nat.pow_succ,Nat.mul_assoc]
   ·rw[dec_big h,List.append_assoc,List.cons_append,List.nil_append,e2]
    have e3:n / 10*(10*(scan r).1)=(n / 10*10)*(scan r).1:=(Nat.mul_assoc _ _ _).symm
    rw[e3,Nat.add_assoc,← Nat.add_mul]
    congr 2
    omega
theorem scan_word:∀ (w r:List UInt8),(∀ b ∈ w,¬ isDig b)→(scan (w ++ r)).2=(scan r).2
 |[],r,_=>rfl
 |b :: w,r,h=>by
  rw[List.cons_append,scan_no (h b (List.mem_cons_self ..))]
  exact scan_word w r fun c hc=>h c (List.mem_cons_of_mem _ hc)
theorem scan_nums:∀ (ns:List Nat) (r:List UInt8),(scan r).1=1→(scan (numsL ns ++ r)).1=1∧(scan (numsL ns ++ r)).2=(scan r).2+ns.sum
 |[],r,h=>⟨h,rfl⟩
 |n :: ns,r,h=>by
  obtain⟨h1,h2⟩:=scan_nums ns r h
  obtain⟨k,e1,e2⟩:=scan_dec n (numsL ns ++ r)
  rw[h1,h2] at e2
  have e:numsL (n :: ns) ++ r=32 :: (dec n ++ (numsL ns ++ r)):=by simp[numsL]
  rw[e,scan_no (by decide)]
  refine⟨rfl,?_⟩
  show (scan (dec n ++ (numsL ns ++ r))).2=_
  rw[e2,List.sum_cons]
  omega
theorem scan_line {w:List UInt8} (hw:∀ b ∈ w,¬ isDig b) (ns:List Nat) (r:List UInt8):(scan (lineL w ns ++ r)).2=(scan r).2+ns.sum:=by
 have e:lineL w ns ++ r=w ++ (numsL ns ++ 10 :: r):=by simp[lineL]
 have h10:scan (10 :: r)=(1,(scan r).2):=scan_no (by decide)
 rw[e,scan_word w _ hw,(scan_nums ns (10 :: r) (by rw[h10])).2,h10]
theorem sonarW_dig:∀ b ∈ sonarW,¬ isDig b:=by decide
theorem sliceW_dig:∀ b ∈ sliceW,¬ isDig b:=by decide
theorem scan_body (h:List Nat) (ss:List (List Nat)):(scan (bodyL h ss)).2=sumL h ss:=by
 have e:∀ ss:List (List Nat),(scan (ss.flatMap (lineL sliceW))).2=(ss.map List.sum).sum:=by
  intro ss
  induction ss with
  |nil=>rfl
  |cons s ss ih=>rw[List.flatMap_cons,scan_line sliceW_dig,ih,List.map_cons,List.sum_cons,Nat.add_comm]
 unfold bodyL sumL
 rw[scan_line sonarW_dig,e,Nat.add_comm]
theorem end_mod {s s':Nat} (h:endL s=endL s'):s % 97=s' % 97:=by
 unfold endL at h
 rw[dec_small (show s % 97 / 10<10 by omega),dec_small (show s % 97 % 10<10 by omega),dec_small (show s' % 97 / 10<10 by omega),dec_small (show s' % 97 % 10<10 by omega)] at h
 simp only[List.cons_append,List.nil_append,List.cons.injEq,and_true,true_and] at h
 obtain⟨h1,h2⟩:=h
 have e1:=congrArg UInt8.toNat h1
 have e2:=congrArg UInt8.toNat h2
 rw[dig_val (by omega),dig_val (by omega)] at e1 e2
 omega
theorem end_eq {s s':Nat} (h:s % 97=s' % 97):endL s=endL s':=by unfold endL;rw[h]
theorem no97:∀ (k m:Nat),0<m→m<10→¬ m*10 ^ k % 97=0
 |0,m,h1,h2=>by omega
 |k+1,m,h1,h2=>by
  have:=no97 k m h1 h2
  rw[Nat.pow_succ,← Nat.mul_assoc]
  omega
theorem spoilt {t:List UInt8} {h:List Nat} {ss:List (List Nat)} (hl:IsLog t h ss) {x:Nat} {a b:UInt8} (hx:t[x]? = some a) (ha:isDig a) (hb:isDig b) (hne:a ≠ b):readP (t.set x b)=none:=by
 cases hr:readP (t.set x b) with
 |none=>rfl
 |some y =>
  obtain⟨h',ss'⟩:=y
  have hl':=readP_iff.1 hr
  exfalso
  have e1:=hl.text
  have e2:=hl'.text
  unfold logL at e1 e2
  have hlen:(bodyL h' ss').length=(bodyL h ss).length:=by
   have l1:=congrArg List.length e1
   have l2:=congrArg List.length e2
   rw[List.length_append,end_len] at l1 l2
   rw[List.length_set] at l2
   omega
  have s1:=scan_body h ss
  have s2:=scan_body h' ss'
  by_cases hc:x<(bodyL h ss).length
  ·rw[e1,List.set_append_left _ _ hc] at e2
   obtain⟨f1,f2⟩:=List.append_inj e2 (by rw[List.length_set];exact hlen.symm)
   rw[e1,List.getElem?_append_left hc] at hx
   obtain⟨k,_,g2⟩:=scan_set (bodyL h ss) x a b hx ha hb
   have hm:=end_mod f2
   rw[f1,s1,s2] at g2
   have hab:a.toNat ≠ b.toNat:=fun e=>hne (UInt8.toNat_inj.1 e)
   unfold isDig at ha hb
   rcases Nat.lt_or_gt_of_ne hab with hlt | hlt
   ·have h5:=no97 k (b.toNat - a.toNat) (by omega) (by omega)
    have h6:(b.toNat - 48)*10 ^ k=(a.toNat - 48)*10 ^ k+(b.toNat - a.toNat)*10 ^ k:=by rw[← Nat.add_mul];congr 1;omega
    omega
   ·have h5:=no97 k (a.toNat - b.toNat) (by omega) (by omega)
    have h6:(a.toNat - 48)*10 ^ k=(b.toNat - 48)*10 ^ k+(a.toNat - b.toNat)*10 ^ k:=by rw[← Nat.add_mul];congr 1;omega
    omega
  ·rw[e1,List.set_append_right _ _ (by omega)] at e2
   obtain⟨f1,f2⟩:=List.append_inj e2 hlen.symm
   rw[f1] at s1
   rw[s1] at s2
   have f3:=end_eq (s:=sumL h ss) (s':=sumL h' ss') (by rw[s2])
   rw[← f3] at f2
   rw[e1,List.getElem?_append_right (by omega)] at hx
   have f4:=congrArg (fun l=>l[x - (bodyL h ss).length]?) f2
   have hxl:x - (bodyL h ss).length<(endL (sumL h ss)).length:=by
    rcases Nat.lt_or_ge (x - (bodyL h ss).length) (endL (sumL h ss)).length with h1 | h1
    ·exact h1
    ·rw[List.getElem?_eq_none h1] at hx;cases hx
   rw[hx,List.getElem?_set_self hxl] at f4
   cases f4
   exact hne rfl
end Go.Sim.Lg

namespace Go.Sim.Lg
open Go.Proofs
open Go.Sim.Le (Cav Slc Span Stg Sl sl eCav eSlc eSpan eInt eStg CavOk SlcOk tkOut_ret tkBool_b tkInt_i tkAgg_a tkTup_t tkRow_r tkCons_c tkHv_h tkSCons_c tkSNil_n tkBox_b tkArr_a tkSl_r tkSl_o pT pF wr wrS)
variable (F d:Nat)
theorem bytes_of (l:List UInt8):bytesOf (List.map (fun u:Nat=>((l.getD u 0).toNat:Int)) (List.range.loop l.length []))=str l:=by
 rw[bytesOf_str,List.map_map]
 congr 1
 apply List.ext_getElem?
 intro i
 rw[List.getElem?_map,show List.range.loop l.length []=List.range l.length from rfl]
 rcases Nat.lt_or_ge i l.length with h | h
 ·rw[List.getElem?_range h,List.getElem?_eq_getElem h,Option.map_some]
  simp[List.getD_eq_getElem?_getD,List.getElem?_eq_getElem h]
 ·rw[List.getElem?_eq_none (by simpa using h),List.getElem?_eq_none h]
  rfl
theorem upd_bytes (l:List UInt8) (x:Nat) (b:UInt8) (hx:x<l.length):updGet (byteGet (str l)) x 0 [.int .u8 ((b.toNat:Nat):Int)]=fun u=>[.int .u8 ((((l.set x b).getD u 0).toNat:Nat):Int)]:=by
 funext u
 unfold updGet
 by_cases h:u=x
 ·rw[if_pos h]
  subst h
  rw[List.getD_eq_getElem?_getD,List.getElem?_set_self hx]
  rfl
 ·rw[if_neg h,List.getD_eq_getElem?_getD,List.getElem?_set_ne (fun e=>h e.symm)]
  unfold byteGet
  rw[str_data,List.getD_eq_getElem?_getD]
theorem all_true (l:List Nat):List.all l (fun _=>true)=true:=by induction l<;>simp
theorem s5 (c:Cav) (x y:Int) (hl:c.slices.len≤4611686018427387903) (hF:1000000000<F):(E F (d+5)).pf 5 [.agg (eCav c),.int .i64 x,.int .i64 y]=some (.ret (.bool true)):=by
 have h7:=s7 F (d+4) hF
 have h6:=s6 F (d+3) c
 have hF0:0<F:=Nat.lt_trans (by decide) hF
 have h12:=s12xnil (F:=F) (d:=d+3) hF0
 unfold nilV at h12
 rw[E_pf _ _ _ _ rfl rfl rfl,t5,h6,tkOut_ret,tkBool_b]
 by_cases h20:¬ c.slices.len≤20
 ·rw[dF (by omega),Bool.not_false,pT,h7,tkOut_ret,tkBool_b]
 have h20:c.slices.len≤20:=Decidable.not_not.1 h20
 have hlF:c.slices.len<F:=by clear hl;omega
 have h9:=s9 F (d+4) (v:=.agg (eCav c)) (c:=c) (Or.inl rfl) (by clear hl;omega) hF
 have h8:=s8 F (d+1) c (by clear hF h9;omega) (by clear hl;omega) hlF
 rw[dT (by omega),Bool.not_true,pF,h9,tkOut_ret,tkBool_b]
 by_cases hok:¬ CavOk c
 ·rw[dF hok,Bool.not_false,pT,h7,tkOut_ret,tkBool_b]
 have hok:CavOk c:=Decidable.not_not.1 hok
 rw[dT hok,Bool.not_true,pF]
 by_cases hy0:y<0
 ·rw[dT hy0,pT,h7,tkOut_ret,tkBool_b]
 rw[dF hy0,pF]
 by_cases hy9:y>9
 ·rw[dT hy9,pT,h7,tkOut_ret,tkBool_b]
 rw[dF hy9,pF,h8,if_pos hok,tkOut_ret]
 have hlog:=ok_log hok
 have hlen:=ok_len hok
 generalize logL (hN c) (rowsN c)=l at hlog hlen
 simp only[tkTup_t,tkCons_c,tkStr_s,tkInt_i,tkNil_0,decide_true,pT,zbn0,pF]
 rw[size_str]
 by_cases hx0:x<0
 ·rw[dT hx0,pT,h7,tkOut_ret,tkBool_b]
 rw[dF hx0,pF]
 by_cases hxl:x≥((l.length:Nat):Int)
 ·rw[dT hxl,pT,h7,tkOut_ret,tkBool_b]
 rw[dF hxl,pF]
 obtain⟨i,rfl⟩:∃ i:Nat,x=i:=⟨x.toNat,by omega⟩
 obtain⟨k,rfl⟩:∃ k:Nat,y=k:=⟨y.toNat,by omega⟩
 have hi:i<l.length:=by omega
 have hat:l[i]? = some l[i]:=List.getElem?_eq_getElem hi
 generalize l[i]=a at hat
 rw[byteAt_str,hat,tkByte_s,tkByte_s,tkByte_s]
 by_cases ha0:(((a.toNat:Nat):Int)<48)
 ·rw[dT ha0,pT,h7,tkOut_ret,tkBool_b]
 rw[dF ha0,pF]
 by_cases ha9:(((a.toNat:Nat):Int)>57)
 ·rw[dT ha9,pT,h7,tkOut_ret,tkBool_b]
 rw[dF ha9,pF]
 have w1:IntKind.wrap .i64 ((a.toNat:Nat):Int)=((a.toNat:Nat):Int):=wr (by omega)
 have w2:IntKind.wrap .i64 (48+(k:Int))=((48+k:Nat):Int):=by rw[wr (by omega)];omega
 have w3:IntKind.wrap .u8 ((48+k:Nat):Int)=(((UInt8.ofNat (48+k)).toNat:Nat):Int):=by
  rw[dig_val (by omega),IntKind.wrap_u8];omega
 rw[w1,w2,w3]
 by_cases hk:a.toNat=48+k
 ·rw[show ((((a.toNat:Nat):Int))==((48+k:Nat):Int))=true by rw[beq_iff_eq];omega,pT,h7,tkOut_ret,tkBool_b]
 rw[show ((((a.toNat:Nat):Int))==((48+k:Nat):Int))=false by rw[beq_eq_false_iff_ne];omega,pF]
 have hne:a ≠ UInt8.ofNat (48+k):=fun e=>hk (by rw[e,dig_val (by omega)])
 have hsp:=spoilt hlog hat (by unfold isDig;omega) (dig_of (show k<10 by omega)).1 hne
 have hr:=s11 F (d+1) (t:=l.set i (UInt8.ofNat (48+k))) (by rw[List.length_set];omega) hF
 unfold Read11 at hr
 rw[hsp] at hr
 dsimp only at hr
 have hb:=bytes_of (l.set i (UInt8.ofNat (48+k)))
 rw[List.length_set] at hb
 rw[tnC,upd_bytes l i _ hi]
 have d1:decide (l.length≤1000000)=true:=dT (by omega)
 have d2:decide ((0:Int)≤(i:Int))=true:=dT (by omega)
 have d3:decide ((i:Int)<((l.length:Nat):Int))=true:=dT (by omega)
 rw[d1,d2,d3]
 simp only[pT,all_true,hb,hr,tkOut_ret,nilV,tkTup_t,tkCons_c,tkAgg_a,tkRow_r,tkInt_i,tkNil_0,tkBool_b,decide_true,zs4,h12,h7]
end Go.Sim.Lg

namespace Go.Proofs.YtgcaabopnnhoaaaGreatDoor
open Go.ChangeShapes Go.WideShapes Go.ChangeAt Go.RowKit Go.Sim Go.Sim.Lg
abbrev listed:List (String × DataW Unit):=Rows.leachLogsRow.laid
theorem own:ownKnob Tryz.prog.godebug=none:=by kernel_rfl
theorem vars_of {W:World} (h:laidMetH Tryz.prog listed W) (hs:W.ShapedOpen Tryz.prog):@Vars ⟨W⟩:=by
 rw[MakeChecks.laidMetH_plain _ _ _ (by kernel_rfl)] at h
 obtain⟨ps,⟨_,_,_,_,_,_,_,_,_,_,⟨_,_,_,_,_,_,_,_,_,_,⟨g2,t2,cs2,f2,p2,q2,hg2,ht2,hv2,hd2,⟨_,_,_,_,_,_,_,_,_,_,⟨g4,t4,cs4,f4,p4,q4,hg4,ht4,hv4,hd4,⟨g5,t5,cs5,f5,p5,q5,hg5,ht5,hv5,hd5,_⟩,_⟩,_⟩,_⟩,_⟩,_⟩,_,_⟩:=h
 obtain rfl:=Option.some.inj ((show Tryz.prog.globalNamed Tryz.nPow=some 1 by kernel_rfl).symm.trans hg2)
 obtain rfl := Option.some.inj ((show Tryz.prog.globalNamed "strconv.ErrRange" = some 3 by kernel_rfl).symm.trans hg4)
 obtain rfl := Option.some.inj ((show Tryz.prog.globalNamed "strconv.ErrSyntax" = some 2 by kernel_rfl).symm.trans hg5)
 obtain rfl:=Option.some.inj ((show (Tryz.prog.globals[1]?).map (·.type)=some 175 by kernel_rfl).symm.trans ht2)
 obtain rfl:=Option.some.inj ((show (Tryz.prog.globals[3]?).map (·.type)=some 118 by kernel_rfl).symm.trans ht4)
 obtain rfl:=Option.some.inj ((show (Tryz.prog.globals[2]?).map (·.type)=some 118 by kernel_rfl).symm.trans ht5)
 have e2:=Lib.cells_of_tab (k:=.u64) (zs:=Lib.pow10Tab) Tryz.underlying175 (show Tryz.prog.underlying 158=some (.int .u64) by kernel_rfl) (by kernel_rfl) (by kernel_rfl) hd2
 obtain⟨_,u4,v4,c4,_,_⟩:=iface_of_trod Tryz.underlying118 hd4
 obtain⟨_,u5,v5,c5,_,_⟩:=iface_of_trod Tryz.underlying118 hd5
 obtain⟨l2⟩:=cs2
 obtain⟨l4⟩:=cs4
 obtain⟨l5⟩:=cs5
 dsimp only at e2 c4 c5
 subst e2 c4 c5
 let st:Go.Sim.Start:=⟨W⟩
 exact⟨hv2,Tryz.laysM145.s1_3 W hs,⟨u5,v5,hv5⟩,⟨u4,v4,hv4⟩⟩
theorem handed {H:Type} {enc:TypeId × Value→H} {a:Assume} {C:Checked} {os:Os} {f:FuncId} {fn:Func} {s:ChangeSpec} {conds:List PathCond} {apart fresh handsOn again:Bool} {X:World→Array Value→Prop}
 (hX:∀ (w w':World) (args:Array Value),w.heap=w'.heap→X w args→X w' args)
 (own:ownKnob C.prog.godebug=none) (started:os.Started) (noInit:C.prog.inits.idxOf? f=none) (hfn:C.prog.funcs[f]? = some fn)
 (witness:∃ (w:World) (tape:Tape) (i:Input),w.os=os∧(w.forCall tape i).Shaped C.prog∧i.vars=[]∧Input.okWide C.prog (w.forCall tape i) .any w.heap.size f i ∧
  ((s.pre enc C.prog fn conds apart (w.forCall tape i).memory i.args∧X (w.forCall tape i).memory i.args)∧sizedMet enc C.prog fn (OpenSpec.ofChange s) apart (w.forCall tape i).memory i.args)∧a.holds C.prog (lone (Frame.enter C.prog f i.args .normal) [] (w.forCall tape i)))
 (contract:∀ (W:World) (base:Nat) (args:Array Value) (ds gs:List (DataW H)) (before:List MemPlace),
  (∀ (j:Nat) t v,fn.params[j]? = some t→args[j]? = some v→Value.okWide C.prog W .any base t v) →
  DataW.Whole enc C.prog fn.params.toList s.vars apart W args.toList ds gs before →
  (DataW.weightsEach C.prog (fn.params.toList ++ s.plain.varTypes C.prog) (ds ++ gs)).all (· ≤ reachBytes)=true→X W args→W.ShapedOpen C.prog →
  Calls C.prog f args W fun e W'=>∃ v,e = .returned v∧s.post enc C.prog fn apart fresh handsOn again W args v W') :
 ReturnsInHanded a C os f .any (fun w args=>(s.pre enc C.prog fn conds apart w args∧X w args)∧sizedMet enc C.prog fn (OpenSpec.ofChange s) apart w args) (s.post enc C.prog fn apart fresh handsOn again):=by
 refine returnsInHanded_of_calls own started noInit witness ?_
 intro w tape i _ hsh _ hok hpre _
 obtain⟨_,_,_,fn',hfn',_,_,_,_,hval⟩:=hok
 obtain rfl:fn'=fn:=Option.some.inj (hfn'.symm.trans hfn)
 obtain⟨⟨⟨ds,gs,before,hw,_⟩,hx⟩,hz⟩:=hpre
 refine (contract (w.forCall tape i) w.heap.size i.args ds gs before hval (DataW.Whole.of_heap (w':=w.forCall tape i) (by rfl) hw) (hz.weights hw) (hX _ _ _ (by rfl) hx) hsh).mono fun e W' ⟨v,he,hp⟩=>?_
 subst he
 exact ChangeSpec.post_blind hp
theorem laid_os (os:Os) (args:Array Value):laidMetH Tryz.prog listed ((World.laidAll Tryz.prog os listed).forCall (fun _ _=>0) ⟨#[],args,[]⟩).memory:=by
 rw[MakeChecks.laidMetH_plain _ _ _ (by kernel_rfl)]
 exact laidMet_laidAll _ (by kernel_rfl) (by kernel_rfl)
theorem laid_shaped (os:Os) (args:Array Value):((World.laidAll Tryz.prog os listed).forCall (fun _ _=>0) ⟨#[],args,[]⟩).Shaped Tryz.prog :=
 World.shaped_of_ZipB (by kernel_rfl) (by kernel_rfl)
end Go.Proofs.YtgcaabopnnhoaaaGreatDoor

namespace Go.Sim.Lg
open Go.Proofs
open Go.Sim.Le (Cav Slc Span Stg Sl sl eCav eSlc eSpan eInt eStg)
theorem fitInt {k:IntKind} {c:V} (h:Fit (.int k) c):∃ n,c = .int k n:=by
 cases h with
 |int h=>exact⟨_,rfl⟩
theorem fitStr {c:V} (h:Fit .str c):∃ s,c = .str s:=by
 cases h with
 |str h=>exact⟨_,rfl⟩
theorem fitL_nil {cs:List V} (h:FitL [] cs):cs=[]:=List.eq_nil_of_length_eq_zero h.1
theorem fitL_cons {s:Sh} {l:List Sh} {cs:List V} (h:FitL (s :: l) cs):∃ c cs',cs=c :: cs'∧Fit s c∧FitL l cs':=by
 obtain⟨h1,h2⟩:=h
 cases cs with
 |nil=>simp at h1
 |cons c cs'=>exact⟨c,cs',rfl,h2 0 s c rfl rfl,by simpa using h1,fun j s' c' g1 g2=>h2 (j+1) s' c' (by simpa using g1) (by simpa using g2)⟩
theorem fitL_int {k:IntKind} {l:List Sh} {cs:List V} (h:FitL (.int k :: l) cs):∃ n cs',cs = .int k n :: cs'∧FitL l cs':=by
 obtain⟨c,cs',rfl,h1,h2⟩:=fitL_cons h
 obtain⟨n,rfl⟩:=fitInt h1
 exact⟨n,cs',rfl,h2⟩
theorem fitRow {α:Type} {e:α→List V} {l:List Sh} (dec:∀ cs,FitL l cs→∃ a:α,cs=e a) {c:V} (h:Fit (.row l) c):∃ s:Sl α,c=sl e l.length s∧s.len≤140737488355328:=by
 cases h with
 |row h hn hl hf =>
  rename_i nl len get
  have hx:∀ i,∃ a:α,get i=e a:=fun i=>dec _ ⟨hl i,hf i⟩
  refine⟨⟨nl,len,fun i=>(hx i).choose⟩,?_,h⟩
  show V.row nl len l.length get=V.row nl len l.length fun i=>e (hx i).choose
  congr 1
  funext i
  exact (hx i).choose_spec
abbrev i8:Sh:=.int .i64
abbrev shSlc:List Sh:=[i8,i8,i8,i8,i8,i8,i8]
abbrev shCav:List Sh:=[.row shSlc,i8,i8]
theorem decSlc (cs:List V) (h:FitL shSlc cs):∃ c:Slc,cs=eSlc c:=by
 obtain⟨a0,_,rfl,h1⟩:=fitL_int h
 obtain⟨a1,_,rfl,h2⟩:=fitL_int h1
 obtain⟨a2,_,rfl,h3⟩:=fitL_int h2
 obtain⟨a3,_,rfl,h4⟩:=fitL_int h3
 obtain⟨a4,_,rfl,h5⟩:=fitL_int h4
 obtain⟨a5,_,rfl,h6⟩:=fitL_int h5
 obtain⟨a6,_,rfl,h7⟩:=fitL_int h6
 obtain rfl:=fitL_nil h7
 exact⟨⟨⟨a0,a1⟩,a2,a3,⟨a4,a5⟩,a6⟩,rfl⟩
theorem decCav (cs:List V) (h:FitL shCav cs):∃ c:Cav,cs=eCav c∧c.slices.len≤140737488355328:=by
 obtain⟨x,_,rfl,h0,h1⟩:=fitL_cons h
 obtain⟨a,rfl,h5⟩:=fitRow decSlc h0
 obtain⟨b,_,rfl,h2⟩:=fitL_int h1
 obtain⟨d,_,rfl,h3⟩:=fitL_int h2
 obtain rfl:=fitL_nil h3
 exact⟨⟨a,b,d⟩,rfl,h5⟩
end Go.Sim.Lg
