import Derived.Test.YtnhhcobpkblchaaGreatAi
import Derived.IntWalk
set_option linter.unusedVariables false
set_option linter.unusedSimpArgs false
set_option linter.unusedSectionVars false
namespace Go.Sim.Pl
open Go.Sim.Le (cfg E E_pf E_hv)
open Go.Proofs
variable (F d:Nat)
def eT (t:Nat→Trd):Nat→List V:=fun k=>eTrd (t k)
def TrF (n:Int) (m:Nat) (t:Nat→Trd):Prop:=∀ k,k<m→TrdOk n (t k)
theorem app_eT (n:Nat) (t:Nat→Trd) (x:Trd):appGet n (eT t) (fun _=>[.int .i64 x.hour,.int .i64 x.back,.int .i64 x.src,.int .i64 x.dst,.int .i64 x.amount])=eT (fun k=>if k<n then t k else x):=by
 funext k
 unfold appGet eT
 by_cases h:k<n
 ·simp only[if_pos h]
 ·simp only[if_neg h]
theorem TrF_app {n:Int} {m:Nat} {t:Nat→Trd} {x:Trd} (h:TrF n m t) (hx:TrdOk n x):TrF n (m+1) (fun k=>if k<m then t k else x):=by
 intro k hk
 by_cases e:k<m
 ·simp only[if_pos e];exact h k e
 ·simp only[if_neg e];exact hx
theorem take5 (a b c e f:V):List.take 5 [a,b,c,e,f]=[a,b,c,e,f]:=rfl
theorem len5 (a b c e f:V):([a,b,c,e,f].length==5)=true:=rfl
section
variable {s:Sto} {dy:Dy} {h ow fl:Int} (f g:Nat→Int) {bC:Bool} {nC wC:Nat} {gC:Nat→List V}
variable (hF:1000<F) (hs:StoOk s) (hn:nC≤50) (hw:0<nC→wC=5) (hg:∀ k,k<nC→∃ t:Trd,TrdOk s.cons.len t∧gC k=[.int .i64 t.hour,.int .i64 t.back,.int .i64 t.src,.int .i64 t.dst,.int .i64 t.amount])
def LoanOut (s:Sto) (dy:Dy) (h ow fl:Int) (nC:Nat) (Z:Option (Out × List Slot)):Prop:=(∃ f'' g'',Z=some (.ret (.tup []),[.box 175 (sd s dy h [.osl 1 0 s.cons.len,.int .i64 ow,.int .i64 fl,.osl 2 0 s.cons.len,nL,nL,nL,nL,nL]) true,.arr 3 1 s.cons.len (eI f'') true,.arr 3 1 s.cons.len (eI g'') true]))∨(∃ f'' g'' k t,(0<k∧k≤nC)∧TrF s.cons.len k t∧Z=some (.ret (.tup []),[.box 175 (sd s dy h [.osl 1 0 s.cons.len,.int .i64 ow,.int .i64 fl,.osl 2 0 s.cons.len,.osl 3 0 k,nL,nL,nL,nL]) true,.arr 3 1 s.cons.len (eI f'') true,.arr 3 1 s.cons.len (eI g'') true,.arr 112 5 k (eT t) true]))
include hF hs hn hw hg
theorem lA9x1:∀ (j i fu k0:Nat) (t0:Nat→Trd) (f' g':Nat→Int),i+j=nC→j<fu→0<k0∧k0≤i→TrF s.cons.len k0 t0→∃ f'' g'' k t,(0<k∧k≤nC)∧TrF s.cons.len k t∧LA9x1 (E F (d+1)) F s dy h ow fl s.cons.len (eI f) (eI g) bC nC wC gC fu k0 i k0 (eT t0) (eI f') (eI g')=some (.ret (.tup []),[.box 175 (sd s dy h [.osl 1 0 s.cons.len,.int .i64 ow,.int .i64 fl,.osl 2 0 s.cons.len,.osl 3 0 k,nL,nL,nL,nL]) true,.arr 3 1 s.cons.len (eI f'') true,.arr 3 1 s.cons.len (eI g'') true,.arr 112 5 k (eT t) true]):=by
 have h8:=hs.len
 intro j
 induction j with
 |zero =>
  intro i fu k0 t0 f' g' hij hlt hk ht
  obtain⟨fu,rfl⟩:=ex1 (n:=fu) (by omega)
  exact⟨f',g',k0,t0,by omega,ht,by rw[LA9x1s,dF (by omega),pF]⟩
 |succ j ih =>
  intro i fu k0 t0 f' g' hij hlt hk ht
  obtain⟨fu,rfl⟩:=ex1 (n:=fu) (by omega)
  have hi:i<nC:=by omega
  obtain⟨x,⟨t1,t2,t3,t4,t5,t6⟩,hx⟩:=hg i hi
  have hS:=wrS (i:=i) (by omega)
  have hw5:(wC==5)=true:=by rw[hw (by omega)];rfl
  rw[LA9x1s]
  simp (disch:=omega) only[dT,pT,tnC,hS,hw5,hx,take5,len5,bqr,tkCons_c,tkInt_i,tkNil_n,decide_true]
  cases x.back != h
  ·rw[pF]
   simp (disch:=omega) only[dT,decide_true,pT,eI_at,tkCons_c,tkInt_i]
   cases decide (IntKind.i64.wrap (x.amount - f' x.dst.toNat)>0)
   ·rw[pF]
    rw[sC1 F d (v:=f' x.src.toNat) ⟨by omega,by omega⟩ (by omega) rfl]
    simp (disch:=omega) only[dT,decide_true,pT,eI_at,tkCons_c,tkInt_i,tkOut_ret,upd_eI]
    exact ih (i+1) fu k0 t0 _ _ (by omega) (by omega) (by omega) ht
   ·rw[pT]
    simp (disch:=omega) only[dT,decide_true,pT,eI_at,tkCons_c,tkInt_i,upd_eI]
    rw[sC1 F d (v:=f' x.src.toNat) ⟨by omega,by omega⟩ (by omega) rfl]
    simp (disch:=omega) only[dT,decide_true,pT,eI_at,tkCons_c,tkInt_i,tkOut_ret,upd_eI]
    exact ih (i+1) fu k0 t0 _ _ (by omega) (by omega) (by omega) ht
  ·rw[pT]
   rw[app_eT]
   exact ih (i+1) fu (k0+1) _ f' g' (by omega) (by omega) (by omega) (TrF_app ht ⟨t1,t2,t3,t4,t5,t6⟩)
theorem lA9x0:∀ (j i fu:Nat) (f' g':Nat→Int),i+j=nC→j<fu→LoanOut s dy h ow fl nC (LA9x0 (E F (d+1)) F s dy h ow fl s.cons.len (eI f) (eI g) bC nC wC gC fu i (eI f') (eI g')):=by
 have h8:=hs.len
 intro j
 induction j with
 |zero =>
  intro i fu f' g' hij hlt
  obtain⟨fu,rfl⟩:=ex1 (n:=fu) (by omega)
  exact .inl ⟨f',g',by rw[LA9x0s,dF (by omega),pF]⟩
 |succ j ih =>
  intro i fu f' g' hij hlt
  obtain⟨fu,rfl⟩:=ex1 (n:=fu) (by omega)
  have hi:i<nC:=by omega
  obtain⟨x,⟨t1,t2,t3,t4,t5,t6⟩,hx⟩:=hg i hi
  have hS:=wrS (i:=i) (by omega)
  have hw5:(wC==5)=true:=by rw[hw (by omega)];rfl
  rw[LA9x0s]
  simp (disch:=omega) only[dT,pT,tnC,hS,hw5,hx,take5,len5,bqr,tkCons_c,tkInt_i,tkNil_n,decide_true]
  cases x.back != h
  ·rw[pF]
   simp (disch:=omega) only[dT,decide_true,pT,eI_at,tkCons_c,tkInt_i]
   cases decide (IntKind.i64.wrap (x.amount - f' x.dst.toNat)>0)
   ·rw[pF]
    rw[sC1 F d (v:=f' x.src.toNat) ⟨by omega,by omega⟩ (by omega) rfl]
    simp (disch:=omega) only[dT,decide_true,pT,eI_at,tkCons_c,tkInt_i,tkOut_ret,upd_eI]
    exact ih (i+1) fu _ _ (by omega) (by omega)
   ·rw[pT]
    simp (disch:=omega) only[dT,decide_true,pT,eI_at,tkCons_c,tkInt_i,upd_eI]
    rw[sC1 F d (v:=f' x.src.toNat) ⟨by omega,by omega⟩ (by omega) rfl]
    simp (disch:=omega) only[dT,decide_true,pT,eI_at,tkCons_c,tkInt_i,tkOut_ret,upd_eI]
    exact ih (i+1) fu _ _ (by omega) (by omega)
  ·rw[pT]
   obtain⟨f'',g'',k,t,k1,k2,k3⟩:=lA9x1 F d f g (dy:=dy) (h:=h) (ow:=ow) (fl:=fl) (bC:=bC) hF hs hn hw hg j (i+1) fu 1 (fun _=>x) f' g' (by omega) (by omega) (by omega) (fun _ _=>⟨t1,t2,t3,t4,t5,t6⟩)
   exact .inr ⟨f'',g'',k,t,k1,k2,k3⟩
theorem b82:LoanOut s dy h ow fl nC ((E F (d+2)).hv 82 [.optr 0 0 0] [.box 175 (sd s dy h [.osl 1 0 s.cons.len,.int .i64 ow,.int .i64 fl,.osl 2 0 s.cons.len,.row bC nC wC gC,nL,nL,nL,nL]) true,.arr 3 1 s.cons.len (eI f) true,.arr 3 1 s.cons.len (eI g) true]):=by
 have q:=lA9x0 F d f g (dy:=dy) (h:=h) (ow:=ow) (fl:=fl) (bC:=bC) hF hs hn hw hg nC 0 F f g (by omega) (by omega)
 rw[E_hv,tA9]
 exact q
end
end Go.Sim.Pl

set_option maxHeartbeats 1000000
namespace Go.Sim.Pl
open Go.Sim.Le (cfg E E_pf E_hv)
open Go.Proofs
variable (F d:Nat)
def OwV (n:Int) (v:V):Prop:=v=nL∨∃ m t,(0<m∧m≤50)∧TrF n m t∧v = .row false m 5 (eT t)
def TradeOut (s:Sto) (dy:Dy) (h ow fl:Int) (g:Nat→Int) (tail:List Slot) (Z:Option (Out × List Slot)):Prop:=∃ (f'':Nat→Int) (o:V) (b:Bool) (m wd:Nat) (gg:Nat→List V),OwV s.cons.len o∧Z=some (.ret (.tup []),.box 175 (sd s dy h [.osl 1 0 s.cons.len,.int .i64 ow,.int .i64 fl,.osl 2 0 s.cons.len,o,nL,nL,nL,.row b m wd gg]) true :: .arr 3 1 s.cons.len (eI f'') true :: .arr 3 1 s.cons.len (eI g) true :: tail)
section
variable {s:Sto} {dy:Dy} {h ow fl:Int} (f g:Nat→Int)
variable (hF:1000<F) (hs:StoOk s) (hd:DyOk s.cons.len dy)
include hF hs hd
theorem lA2x3:∀ (j i fu:Nat) (k1 k0:Nat) (t0:Nat→Trd) (g0:Nat→List V) (f':Nat→Int),i+j=dy.trades.len→j<fu→k0≤i→0<k1∧k1≤50→TrF s.cons.len k1 t0→TradeOut s dy h ow fl g [] (LA2x3 (E F (d+1)) F s dy h ow fl s.cons.len (eI f) (eI g) 0 (fun _=>[]) fu i k1 k0 (eI f') k1 (eT t0) k0 g0):=by
 have h8:=hs.len
 have h50:=hd.len.2.2
 intro j
 induction j with
 |zero =>
  intro i fu k1 k0 t0 g0 f' hij hlt hk ho ht 
  obtain⟨fu,rfl⟩:=ex1 (n:=fu) (by omega)
  refine⟨f',_,false,k0,1,g0,.inr ⟨k1,t0,ho,ht,rfl⟩,?_⟩
  rw[LA2x3s,dF (by omega),pF]
 |succ j ih =>
  intro i fu k1 k0 t0 g0 f' hij hlt hk ho ht 
  obtain⟨fu,rfl⟩:=ex1 (n:=fu) (by omega)
  have hi:i<dy.trades.len:=by omega
  obtain⟨t1,t2,t3,t4,t5,t6⟩:=hd.trades i hi
  have hS:=wrS (i:=i) (by omega)
  rw[LA2x3s]
  simp (disch:=omega) only[dT,pT,tnC,hS,decide_true]
  cases (dy.trades.el i).hour != h
  ·rw[pF]
   simp (disch:=omega) only[dT,decide_true,pT,eI_at,tkCons_c,tkInt_i]
   cases decide (f' (dy.trades.el i).src.toNat<(dy.trades.el i).amount)
   ·rw[pF]
    rw[sC1 F d (v:=f' (dy.trades.el i).dst.toNat) ⟨by omega,by omega⟩ (by omega) rfl]
    simp only[decide_true,pT,tkInt_i,tkOut_ret]
    cases decide (IntKind.i64.wrap ((s.cons.el (dy.trades.el i).dst.toNat).space - f' (dy.trades.el i).dst.toNat)<(dy.trades.el i).amount)
    ·rw[pF]
     cases (dy.trades.el i).back != -1
     ·rw[pF]
      simp (disch:=omega) only[dT,decide_true,pT,eI_at,tkCons_c,tkInt_i,tkOut_ret,upd_eI]
      rw[pF]
      exact ih (i+1) fu k1 k0 t0 g0 _ (by omega) (by omega) (by omega) ho ht
     ·rw[pT]
      by_cases hq:(k1:Int)≥50
      ·rw[dT hq,pT]
       exact ih (i+1) fu k1 (k0+1) t0 _ _ (by omega) (by omega) (by omega) ho ht
      ·rw[dF hq,pF]
       simp (disch:=omega) only[dT,decide_true,pT,eI_at,tkCons_c,tkInt_i,tkOut_ret,upd_eI]
       rw[app_eT]
       exact ih (i+1) fu (k1+1) k0 (fun k=>if k<k1 then t0 k else (dy.trades.el i)) g0 _ (by omega) (by omega) (by omega) (by omega) (TrF_app ht ⟨t1,t2,t3,t4,t5,t6⟩)
    ·rw[pT]
     exact ih (i+1) fu k1 (k0+1) t0 _ _ (by omega) (by omega) (by omega) ho ht
   ·rw[pT]
    exact ih (i+1) fu k1 (k0+1) t0 _ _ (by omega) (by omega) (by omega) ho ht
  ·rw[pT]
   exact ih (i+1) fu k1 k0 t0 g0 _ (by omega) (by omega) (by omega) ho ht
theorem lA2x1:∀ (j i fu:Nat) (k0:Nat) (g0:Nat→List V) (f':Nat→Int),i+j=dy.trades.len→j<fu→k0≤i→TradeOut s dy h ow fl g [] (LA2x1 (E F (d+1)) F s dy h ow fl s.cons.len (eI f) (eI g) 0 (fun _=>[]) fu i k0 (eI f') k0 g0):=by
 have h8:=hs.len
 have h50:=hd.len.2.2
 intro j
 induction j with
 |zero =>
  intro i fu k0 g0 f' hij hlt hk 
  obtain⟨fu,rfl⟩:=ex1 (n:=fu) (by omega)
  refine⟨f',_,false,k0,1,g0,.inl rfl,?_⟩
  rw[LA2x1s,dF (by omega),pF]
 |succ j ih =>
  intro i fu k0 g0 f' hij hlt hk 
  obtain⟨fu,rfl⟩:=ex1 (n:=fu) (by omega)
  have hi:i<dy.trades.len:=by omega
  obtain⟨t1,t2,t3,t4,t5,t6⟩:=hd.trades i hi
  have hS:=wrS (i:=i) (by omega)
  rw[LA2x1s]
  simp (disch:=omega) only[dT,pT,tnC,hS,decide_true]
  cases (dy.trades.el i).hour != h
  ·rw[pF]
   simp (disch:=omega) only[dT,decide_true,pT,eI_at,tkCons_c,tkInt_i]
   cases decide (f' (dy.trades.el i).src.toNat<(dy.trades.el i).amount)
   ·rw[pF]
    rw[sC1 F d (v:=f' (dy.trades.el i).dst.toNat) ⟨by omega,by omega⟩ (by omega) rfl]
    simp only[decide_true,pT,tkInt_i,tkOut_ret]
    cases decide (IntKind.i64.wrap ((s.cons.el (dy.trades.el i).dst.toNat).space - f' (dy.trades.el i).dst.toNat)<(dy.trades.el i).amount)
    ·rw[pF]
     cases (dy.trades.el i).back != -1
     ·rw[pF]
      simp (disch:=omega) only[dT,decide_true,pT,eI_at,tkCons_c,tkInt_i,tkOut_ret,upd_eI]
      rw[pF]
      exact ih (i+1) fu k0 g0 _ (by omega) (by omega) (by omega)
     ·rw[pT]
      simp (disch:=omega) only[dT,decide_true,pT,eI_at,tkCons_c,tkInt_i,tkOut_ret,upd_eI]
      exact lA2x3 F d f g (dy:=dy) (h:=h) (ow:=ow) (fl:=fl) hF hs hd j (i+1) fu 1 k0 (fun _=>(dy.trades.el i)) g0 _ (by omega) (by omega) (by omega) (by omega) (fun _ _=>⟨t1,t2,t3,t4,t5,t6⟩)
    ·rw[pT]
     exact ih (i+1) fu (k0+1) _ _ (by omega) (by omega) (by omega)
   ·rw[pT]
    exact ih (i+1) fu (k0+1) _ _ (by omega) (by omega) (by omega)
  ·rw[pT]
   exact ih (i+1) fu k0 g0 _ (by omega) (by omega) (by omega)
theorem lA2x2:∀ (j i fu:Nat) (k0:Nat) (t0:Nat→Trd) (f':Nat→Int),i+j=dy.trades.len→j<fu→0<k0∧k0≤50→TrF s.cons.len k0 t0→TradeOut s dy h ow fl g [] (LA2x2 (E F (d+1)) F s dy h ow fl s.cons.len (eI f) (eI g) 0 (fun _=>[]) fu i k0 (eI f') k0 (eT t0)):=by
 have h8:=hs.len
 have h50:=hd.len.2.2
 intro j
 induction j with
 |zero =>
  intro i fu k0 t0 f' hij hlt ho ht 
  obtain⟨fu,rfl⟩:=ex1 (n:=fu) (by omega)
  refine⟨f',_,true,0,0,fun _=>[],.inr ⟨k0,t0,ho,ht,rfl⟩,?_⟩
  rw[LA2x2s,dF (by omega),pF]
 |succ j ih =>
  intro i fu k0 t0 f' hij hlt ho ht 
  obtain⟨fu,rfl⟩:=ex1 (n:=fu) (by omega)
  have hi:i<dy.trades.len:=by omega
  obtain⟨t1,t2,t3,t4,t5,t6⟩:=hd.trades i hi
  have hS:=wrS (i:=i) (by omega)
  rw[LA2x2s]
  simp (disch:=omega) only[dT,pT,tnC,hS,decide_true]
  cases (dy.trades.el i).hour != h
  ·rw[pF]
   simp (disch:=omega) only[dT,decide_true,pT,eI_at,tkCons_c,tkInt_i]
   cases decide (f' (dy.trades.el i).src.toNat<(dy.trades.el i).amount)
   ·rw[pF]
    rw[sC1 F d (v:=f' (dy.trades.el i).dst.toNat) ⟨by omega,by omega⟩ (by omega) rfl]
    simp only[decide_true,pT,tkInt_i,tkOut_ret]
    cases decide (IntKind.i64.wrap ((s.cons.el (dy.trades.el i).dst.toNat).space - f' (dy.trades.el i).dst.toNat)<(dy.trades.el i).amount)
    ·rw[pF]
     cases (dy.trades.el i).back != -1
     ·rw[pF]
      simp (disch:=omega) only[dT,decide_true,pT,eI_at,tkCons_c,tkInt_i,tkOut_ret,upd_eI]
      rw[pF]
      exact ih (i+1) fu k0 t0 _ (by omega) (by omega) ho ht
     ·rw[pT]
      by_cases hq:(k0:Int)≥50
      ·rw[dT hq,pT]
       exact lA2x3 F d f g (dy:=dy) (h:=h) (ow:=ow) (fl:=fl) hF hs hd j (i+1) fu k0 1 t0 _ _ (by omega) (by omega) (by omega) ho ht
      ·rw[dF hq,pF]
       simp (disch:=omega) only[dT,decide_true,pT,eI_at,tkCons_c,tkInt_i,tkOut_ret,upd_eI]
       rw[app_eT]
       exact ih (i+1) fu (k0+1) (fun k=>if k<k0 then t0 k else (dy.trades.el i)) _ (by omega) (by omega) (by omega) (TrF_app ht ⟨t1,t2,t3,t4,t5,t6⟩)
    ·rw[pT]
     exact lA2x3 F d f g (dy:=dy) (h:=h) (ow:=ow) (fl:=fl) hF hs hd j (i+1) fu k0 1 t0 _ _ (by omega) (by omega) (by omega) ho ht
   ·rw[pT]
    exact lA2x3 F d f g (dy:=dy) (h:=h) (ow:=ow) (fl:=fl) hF hs hd j (i+1) fu k0 1 t0 _ _ (by omega) (by omega) (by omega) ho ht
  ·rw[pT]
   exact ih (i+1) fu k0 t0 _ (by omega) (by omega) ho ht
theorem lA2x0:∀ (j i fu:Nat) (f':Nat→Int),i+j=dy.trades.len→j<fu→TradeOut s dy h ow fl g [] (LA2x0 (E F (d+1)) F s dy h ow fl s.cons.len (eI f) (eI g) 0 (fun _=>[]) fu i (eI f')):=by
 have h8:=hs.len
 have h50:=hd.len.2.2
 intro j
 induction j with
 |zero =>
  intro i fu f' hij hlt 
  obtain⟨fu,rfl⟩:=ex1 (n:=fu) (by omega)
  refine⟨f',_,true,0,0,fun _=>[],.inl rfl,?_⟩
  rw[LA2x0s,dF (by omega),pF]
 |succ j ih =>
  intro i fu f' hij hlt 
  obtain⟨fu,rfl⟩:=ex1 (n:=fu) (by omega)
  have hi:i<dy.trades.len:=by omega
  obtain⟨t1,t2,t3,t4,t5,t6⟩:=hd.trades i hi
  have hS:=wrS (i:=i) (by omega)
  rw[LA2x0s]
  simp (disch:=omega) only[dT,pT,tnC,hS,decide_true]
  cases (dy.trades.el i).hour != h
  ·rw[pF]
   simp (disch:=omega) only[dT,decide_true,pT,eI_at,tkCons_c,tkInt_i]
   cases decide (f' (dy.trades.el i).src.toNat<(dy.trades.el i).amount)
   ·rw[pF]
    rw[sC1 F d (v:=f' (dy.trades.el i).dst.toNat) ⟨by omega,by omega⟩ (by omega) rfl]
    simp only[decide_true,pT,tkInt_i,tkOut_ret]
    cases decide (IntKind.i64.wrap ((s.cons.el (dy.trades.el i).dst.toNat).space - f' (dy.trades.el i).dst.toNat)<(dy.trades.el i).amount)
    ·rw[pF]
     cases (dy.trades.el i).back != -1
     ·rw[pF]
      simp (disch:=omega) only[dT,decide_true,pT,eI_at,tkCons_c,tkInt_i,tkOut_ret,upd_eI]
      rw[pF]
      exact ih (i+1) fu _ (by omega) (by omega) 
     ·rw[pT]
      simp (disch:=omega) only[dT,decide_true,pT,eI_at,tkCons_c,tkInt_i,tkOut_ret,upd_eI]
      exact lA2x2 F d f g (dy:=dy) (h:=h) (ow:=ow) (fl:=fl) hF hs hd j (i+1) fu 1 (fun _=>(dy.trades.el i)) _ (by omega) (by omega) (by omega) (fun _ _=>⟨t1,t2,t3,t4,t5,t6⟩)
    ·rw[pT]
     exact lA2x1 F d f g (dy:=dy) (h:=h) (ow:=ow) (fl:=fl) hF hs hd j (i+1) fu 1 _ _ (by omega) (by omega) (by omega)
   ·rw[pT]
    exact lA2x1 F d f g (dy:=dy) (h:=h) (ow:=ow) (fl:=fl) hF hs hd j (i+1) fu 1 _ _ (by omega) (by omega) (by omega)
  ·rw[pT]
   exact ih (i+1) fu _ (by omega) (by omega) 
theorem b83n:TradeOut s dy h ow fl g [] ((E F (d+2)).hv 83 [.optr 0 0 0] [.box 175 (sd s dy h [.osl 1 0 s.cons.len,.int .i64 ow,.int .i64 fl,.osl 2 0 s.cons.len,nL,nL,nL,nL,nL]) true,.arr 3 1 s.cons.len (eI f) true,.arr 3 1 s.cons.len (eI g) true]):=by
 have h50:=hd.len.2.2
 have q:=lA2x0 F d f g (dy:=dy) (h:=h) (ow:=ow) (fl:=fl) hF hs hd dy.trades.len 0 F f (by omega) (by omega)
 rw[E_hv,tA2]
 exact q
theorem lA1x3 {m:Nat} {tc:Nat→Trd} (hm:0<m∧m≤50) (htc:TrF s.cons.len m tc):∀ (j i fu:Nat) (k1 k0:Nat) (t0:Nat→Trd) (g0:Nat→List V) (f':Nat→Int),i+j=dy.trades.len→j<fu→k0≤i→0<k1∧k1≤50→TrF s.cons.len k1 t0→TradeOut s dy h ow fl g [.dead] (LA1x3 (E F (d+1)) F s dy h ow fl s.cons.len (eI f) (eI g) m (eT tc) fu i k1 k0 (eI f') k1 (eT t0) k0 g0):=by
 have h8:=hs.len
 have h50:=hd.len.2.2
 intro j
 induction j with
 |zero =>
  intro i fu k1 k0 t0 g0 f' hij hlt hk ho ht 
  obtain⟨fu,rfl⟩:=ex1 (n:=fu) (by omega)
  refine⟨f',_,false,k0,1,g0,.inr ⟨k1,t0,ho,ht,rfl⟩,?_⟩
  rw[LA1x3s,dF (by omega),pF]
 |succ j ih =>
  intro i fu k1 k0 t0 g0 f' hij hlt hk ho ht 
  obtain⟨fu,rfl⟩:=ex1 (n:=fu) (by omega)
  have hi:i<dy.trades.len:=by omega
  obtain⟨t1,t2,t3,t4,t5,t6⟩:=hd.trades i hi
  have hS:=wrS (i:=i) (by omega)
  rw[LA1x3s]
  simp (disch:=omega) only[dT,pT,tnC,hS,decide_true]
  cases (dy.trades.el i).hour != h
  ·rw[pF]
   simp (disch:=omega) only[dT,decide_true,pT,eI_at,tkCons_c,tkInt_i]
   cases decide (f' (dy.trades.el i).src.toNat<(dy.trades.el i).amount)
   ·rw[pF]
    rw[sC1 F d (v:=f' (dy.trades.el i).dst.toNat) ⟨by omega,by omega⟩ (by omega) rfl]
    simp only[decide_true,pT,tkInt_i,tkOut_ret]
    cases decide (IntKind.i64.wrap ((s.cons.el (dy.trades.el i).dst.toNat).space - f' (dy.trades.el i).dst.toNat)<(dy.trades.el i).amount)
    ·rw[pF]
     cases (dy.trades.el i).back != -1
     ·rw[pF]
      simp (disch:=omega) only[dT,decide_true,pT,eI_at,tkCons_c,tkInt_i,tkOut_ret,upd_eI]
      rw[pF]
      exact ih (i+1) fu k1 k0 t0 g0 _ (by omega) (by omega) (by omega) ho ht
     ·rw[pT]
      by_cases hq:(k1:Int)≥50
      ·rw[dT hq,pT]
       exact ih (i+1) fu k1 (k0+1) t0 _ _ (by omega) (by omega) (by omega) ho ht
      ·rw[dF hq,pF]
       simp (disch:=omega) only[dT,decide_true,pT,eI_at,tkCons_c,tkInt_i,tkOut_ret,upd_eI]
       rw[app_eT]
       exact ih (i+1) fu (k1+1) k0 (fun k=>if k<k1 then t0 k else (dy.trades.el i)) g0 _ (by omega) (by omega) (by omega) (by omega) (TrF_app ht ⟨t1,t2,t3,t4,t5,t6⟩)
    ·rw[pT]
     exact ih (i+1) fu k1 (k0+1) t0 _ _ (by omega) (by omega) (by omega) ho ht
   ·rw[pT]
    exact ih (i+1) fu k1 (k0+1) t0 _ _ (by omega) (by omega) (by omega) ho ht
  ·rw[pT]
   exact ih (i+1) fu k1 k0 t0 g0 _ (by omega) (by omega) (by omega) ho ht
theorem lA1x1 {m:Nat} {tc:Nat→Trd} (hm:0<m∧m≤50) (htc:TrF s.cons.len m tc):∀ (j i fu:Nat) (k0:Nat) (g0:Nat→List V) (f':Nat→Int),i+j=dy.trades.len→j<fu→k0≤i→TradeOut s dy h ow fl g [.dead] (LA1x1 (E F (d+1)) F s dy h ow fl s.cons.len (eI f) (eI g) m (eT tc) fu i k0 (eI f') k0 g0):=by
 have h8:=hs.len
 have h50:=hd.len.2.2
 intro j
 induction j with
 |zero =>
  intro i fu k0 g0 f' hij hlt hk 
  obtain⟨fu,rfl⟩:=ex1 (n:=fu) (by omega)
  refine⟨f',_,false,k0,1,g0,.inr ⟨m,tc,hm,htc,rfl⟩,?_⟩
  rw[LA1x1s,dF (by omega),pF]
 |succ j ih =>
  intro i fu k0 g0 f' hij hlt hk 
  obtain⟨fu,rfl⟩:=ex1 (n:=fu) (by omega)
  have hi:i<dy.trades.len:=by omega
  obtain⟨t1,t2,t3,t4,t5,t6⟩:=hd.trades i hi
  have hS:=wrS (i:=i) (by omega)
  rw[LA1x1s]
  simp (disch:=omega) only[dT,pT,tnC,hS,decide_true]
  cases (dy.trades.el i).hour != h
  ·rw[pF]
   simp (disch:=omega) only[dT,decide_true,pT,eI_at,tkCons_c,tkInt_i]
   cases decide (f' (dy.trades.el i).src.toNat<(dy.trades.el i).amount)
   ·rw[pF]
    rw[sC1 F d (v:=f' (dy.trades.el i).dst.toNat) ⟨by omega,by omega⟩ (by omega) rfl]
    simp only[decide_true,pT,tkInt_i,tkOut_ret]
    cases decide (IntKind.i64.wrap ((s.cons.el (dy.trades.el i).dst.toNat).space - f' (dy.trades.el i).dst.toNat)<(dy.trades.el i).amount)
    ·rw[pF]
     cases (dy.trades.el i).back != -1
     ·rw[pF]
      simp (disch:=omega) only[dT,decide_true,pT,eI_at,tkCons_c,tkInt_i,tkOut_ret,upd_eI]
      rw[pF]
      exact ih (i+1) fu k0 g0 _ (by omega) (by omega) (by omega)
     ·rw[pT]
      by_cases hq:(m:Int)≥50
      ·rw[dT hq,pT]
       exact ih (i+1) fu (k0+1) _ _ (by omega) (by omega) (by omega)
      ·rw[dF hq,pF]
       simp (disch:=omega) only[dT,decide_true,pT,eI_at,tkCons_c,tkInt_i,tkOut_ret,upd_eI]
       rw[app_eT]
       exact lA1x3 F d f g (dy:=dy) (h:=h) (ow:=ow) (fl:=fl) hF hs hd hm htc j (i+1) fu (m+1) k0 (fun k=>if k<m then tc k else (dy.trades.el i)) g0 _ (by omega) (by omega) (by omega) (by omega) (TrF_app htc ⟨t1,t2,t3,t4,t5,t6⟩)
    ·rw[pT]
     exact ih (i+1) fu (k0+1) _ _ (by omega) (by omega) (by omega)
   ·rw[pT]
    exact ih (i+1) fu (k0+1) _ _ (by omega) (by omega) (by omega)
  ·rw[pT]
   exact ih (i+1) fu k0 g0 _ (by omega) (by omega) (by omega)
theorem lA1x2 {m:Nat} {tc:Nat→Trd} (hm:0<m∧m≤50) (htc:TrF s.cons.len m tc):∀ (j i fu:Nat) (k0:Nat) (t0:Nat→Trd) (f':Nat→Int),i+j=dy.trades.len→j<fu→0<k0∧k0≤50→TrF s.cons.len k0 t0→TradeOut s dy h ow fl g [.dead] (LA1x2 (E F (d+1)) F s dy h ow fl s.cons.len (eI f) (eI g) m (eT tc) fu i k0 (eI f') k0 (eT t0)):=by
 have h8:=hs.len
 have h50:=hd.len.2.2
 intro j
 induction j with
 |zero =>
  intro i fu k0 t0 f' hij hlt ho ht 
  obtain⟨fu,rfl⟩:=ex1 (n:=fu) (by omega)
  refine⟨f',_,true,0,0,fun _=>[],.inr ⟨k0,t0,ho,ht,rfl⟩,?_⟩
  rw[LA1x2s,dF (by omega),pF]
 |succ j ih =>
  intro i fu k0 t0 f' hij hlt ho ht 
  obtain⟨fu,rfl⟩:=ex1 (n:=fu) (by omega)
  have hi:i<dy.trades.len:=by omega
  obtain⟨t1,t2,t3,t4,t5,t6⟩:=hd.trades i hi
  have hS:=wrS (i:=i) (by omega)
  rw[LA1x2s]
  simp (disch:=omega) only[dT,pT,tnC,hS,decide_true]
  cases (dy.trades.el i).hour != h
  ·rw[pF]
   simp (disch:=omega) only[dT,decide_true,pT,eI_at,tkCons_c,tkInt_i]
   cases decide (f' (dy.trades.el i).src.toNat<(dy.trades.el i).amount)
   ·rw[pF]
    rw[sC1 F d (v:=f' (dy.trades.el i).dst.toNat) ⟨by omega,by omega⟩ (by omega) rfl]
    simp only[decide_true,pT,tkInt_i,tkOut_ret]
    cases decide (IntKind.i64.wrap ((s.cons.el (dy.trades.el i).dst.toNat).space - f' (dy.trades.el i).dst.toNat)<(dy.trades.el i).amount)
    ·rw[pF]
     cases (dy.trades.el i).back != -1
     ·rw[pF]
      simp (disch:=omega) only[dT,decide_true,pT,eI_at,tkCons_c,tkInt_i,tkOut_ret,upd_eI]
      rw[pF]
      exact ih (i+1) fu k0 t0 _ (by omega) (by omega) ho ht
     ·rw[pT]
      by_cases hq:(k0:Int)≥50
      ·rw[dT hq,pT]
       exact lA1x3 F d f g (dy:=dy) (h:=h) (ow:=ow) (fl:=fl) hF hs hd hm htc j (i+1) fu k0 1 t0 _ _ (by omega) (by omega) (by omega) ho ht
      ·rw[dF hq,pF]
       simp (disch:=omega) only[dT,decide_true,pT,eI_at,tkCons_c,tkInt_i,tkOut_ret,upd_eI]
       rw[app_eT]
       exact ih (i+1) fu (k0+1) (fun k=>if k<k0 then t0 k else (dy.trades.el i)) _ (by omega) (by omega) (by omega) (TrF_app ht ⟨t1,t2,t3,t4,t5,t6⟩)
    ·rw[pT]
     exact lA1x3 F d f g (dy:=dy) (h:=h) (ow:=ow) (fl:=fl) hF hs hd hm htc j (i+1) fu k0 1 t0 _ _ (by omega) (by omega) (by omega) ho ht
   ·rw[pT]
    exact lA1x3 F d f g (dy:=dy) (h:=h) (ow:=ow) (fl:=fl) hF hs hd hm htc j (i+1) fu k0 1 t0 _ _ (by omega) (by omega) (by omega) ho ht
  ·rw[pT]
   exact ih (i+1) fu k0 t0 _ (by omega) (by omega) ho ht
theorem lA1x0 {m:Nat} {tc:Nat→Trd} (hm:0<m∧m≤50) (htc:TrF s.cons.len m tc):∀ (j i fu:Nat) (f':Nat→Int),i+j=dy.trades.len→j<fu→TradeOut s dy h ow fl g [.dead] (LA1x0 (E F (d+1)) F s dy h ow fl s.cons.len (eI f) (eI g) m (eT tc) fu i (eI f')):=by
 have h8:=hs.len
 have h50:=hd.len.2.2
 intro j
 induction j with
 |zero =>
  intro i fu f' hij hlt 
  obtain⟨fu,rfl⟩:=ex1 (n:=fu) (by omega)
  refine⟨f',_,true,0,0,fun _=>[],.inr ⟨m,tc,hm,htc,rfl⟩,?_⟩
  rw[LA1x0s,dF (by omega),pF]
 |succ j ih =>
  intro i fu f' hij hlt 
  obtain⟨fu,rfl⟩:=ex1 (n:=fu) (by omega)
  have hi:i<dy.trades.len:=by omega
  obtain⟨t1,t2,t3,t4,t5,t6⟩:=hd.trades i hi
  have hS:=wrS (i:=i) (by omega)
  rw[LA1x0s]
  simp (disch:=omega) only[dT,pT,tnC,hS,decide_true]
  cases (dy.trades.el i).hour != h
  ·rw[pF]
   simp (disch:=omega) only[dT,decide_true,pT,eI_at,tkCons_c,tkInt_i]
   cases decide (f' (dy.trades.el i).src.toNat<(dy.trades.el i).amount)
   ·rw[pF]
    rw[sC1 F d (v:=f' (dy.trades.el i).dst.toNat) ⟨by omega,by omega⟩ (by omega) rfl]
    simp only[decide_true,pT,tkInt_i,tkOut_ret]
    cases decide (IntKind.i64.wrap ((s.cons.el (dy.trades.el i).dst.toNat).space - f' (dy.trades.el i).dst.toNat)<(dy.trades.el i).amount)
    ·rw[pF]
     cases (dy.trades.el i).back != -1
     ·rw[pF]
      simp (disch:=omega) only[dT,decide_true,pT,eI_at,tkCons_c,tkInt_i,tkOut_ret,upd_eI]
      rw[pF]
      exact ih (i+1) fu _ (by omega) (by omega) 
     ·rw[pT]
      by_cases hq:(m:Int)≥50
      ·rw[dT hq,pT]
       exact lA1x1 F d f g (dy:=dy) (h:=h) (ow:=ow) (fl:=fl) hF hs hd hm htc j (i+1) fu 1 _ _ (by omega) (by omega) (by omega)
      ·rw[dF hq,pF]
       simp (disch:=omega) only[dT,decide_true,pT,eI_at,tkCons_c,tkInt_i,tkOut_ret,upd_eI]
       rw[app_eT]
       exact lA1x2 F d f g (dy:=dy) (h:=h) (ow:=ow) (fl:=fl) hF hs hd hm htc j (i+1) fu (m+1) (fun k=>if k<m then tc k else (dy.trades.el i)) _ (by omega) (by omega) (by omega) (TrF_app htc ⟨t1,t2,t3,t4,t5,t6⟩)
    ·rw[pT]
     exact lA1x1 F d f g (dy:=dy) (h:=h) (ow:=ow) (fl:=fl) hF hs hd hm htc j (i+1) fu 1 _ _ (by omega) (by omega) (by omega)
   ·rw[pT]
    exact lA1x1 F d f g (dy:=dy) (h:=h) (ow:=ow) (fl:=fl) hF hs hd hm htc j (i+1) fu 1 _ _ (by omega) (by omega) (by omega)
  ·rw[pT]
   exact ih (i+1) fu _ (by omega) (by omega) 
theorem b83s {m:Nat} {tc:Nat→Trd} (hm:0<m∧m≤50) (htc:TrF s.cons.len m tc):TradeOut s dy h ow fl g [.dead] ((E F (d+2)).hv 83 [.optr 0 0 0] [.box 175 (sd s dy h [.osl 1 0 s.cons.len,.int .i64 ow,.int .i64 fl,.osl 2 0 s.cons.len,.osl 3 0 m,nL,nL,nL,nL]) true,.arr 3 1 s.cons.len (eI f) true,.arr 3 1 s.cons.len (eI g) true,.arr 112 5 m (eT tc) true]):=by
 have h50:=hd.len.2.2
 have q:=lA1x0 F d f g (dy:=dy) (h:=h) (ow:=ow) (fl:=fl) hF hs hd hm htc dy.trades.len 0 F f (by omega) (by omega)
 rw[E_hv,tA1]
 exact q
end
end Go.Sim.Pl

set_option maxHeartbeats 4000000
set_option maxRecDepth 100000
namespace Go.Sim.Pl
open Go.Sim.Le (cfg E E_pf E_hv)
open Go.Proofs
variable (F d:Nat)
theorem sam_row (b:Bool) (n w:Nat) (g:Nat→List V):sameV 8 (.row b n w g) (.row b n w g)=true:=by simp[sameV]
theorem sam_int (q:IntKind) (n:Int):sameV 8 (.int q n) (.int q n)=true:=by simp[sameV]
theorem sam_osl (b i n:Nat):sameV 8 (.osl b i n) (.osl b i n)=true:=by simp[sameV]
theorem tkDead_d {R:Type} (f k:R):tkDead .dead f k=k:=Eq.trans (Eq.refl _) (Eq.refl _)
theorem OwV_row {n:Int} {o:V} (h:OwV n o):∃ b m wd gg,o = .row b m wd gg∧m≤50∧(0<m→wd=5)∧∀ k,k<m→∃ t:Trd,TrdOk n t∧gg k=[.int .i64 t.hour,.int .i64 t.back,.int .i64 t.src,.int .i64 t.dst,.int .i64 t.amount]:=by
 rcases h with h | ⟨m,t,hm,ht,h⟩
 ·exact⟨true,0,0,_,h,by omega,fun h=>absurd h (by omega),fun k hk=>absurd hk (by omega)⟩
 ·exact⟨false,m,5,_,h,hm.2,fun _=>rfl,fun k hk=>⟨t k,ht k hk,rfl⟩⟩
theorem b80 {n:Nat} (f:Nat→Int) (h0:0<n) (h8:n≤8):(E F (d+1)).hv 80 [.row false n 1 (eI f)] []=some (.ret (.osl 0 0 n),[.arr 3 1 n (eI f) true]):=by
 have q:=tK6 (E F d) F ⟨false,n,f⟩
 rw[pF,pF,show (n==0)=false by simp;omega,pF,dT (show (0+n)*8≤140737488355328 by omega),pT] at q
 rw[E_hv]
 refine Eq.trans q ?_
 rw[Nat.zero_add]
 rfl
theorem b81 {n:Int} {o:V} (h:OwV n o):(E F (d+1)).pf 81 [o]=some (.ret o):=by
 rcases h with h | ⟨m,t,hm,ht,h⟩
 ·subst h
  rw[E_pf,tK7 (E F d) F 0]
 ·subst h
  have q:=tM1 (E F d) F ⟨false,m,t⟩
  rw[pF,pF,show (m==0)=false by simp;omega,pF,dT (show (0+m)*40≤140737488355328 by omega),pT] at q
  rw[E_pf]
  refine Eq.trans q ?_
  rw[Nat.zero_add]
  rfl
section
variable {s:Sto} {dy:Dy} {h ow fl:Int} (f g:Nat→Int)
variable (hF:1000<F) (hs:StoOk s) (hd:DyOk s.cons.len dy) (h0:0<s.cons.len) (hh:0≤h∧h<dy.hours.len)
include hF hs hd h0 hh
theorem b36 {o:V} (ho:OwV s.cons.len o):∃ (f' g':Nat→Int) (ow' fl':Int) (o':V) (wv av rv:V) (p:Nat→Int),OwV s.cons.len o'∧(∃ b m wd gg,wv = .row b m wd gg)∧(∃ b m wd gg,av = .row b m wd gg)∧(∃ b m wd gg,rv = .row b m wd gg) ∧
 (∀ k,k<s.cons.len→-800000000≤p k∧p k≤800000000)∧sumW (fun k=>pos (p k)) s.cons.len≤(dy.hours.el h.toNat).inn∧sumW (fun k=>pos (p k)) s.cons.len≤(dy.hours.el h.toNat).fin ∧
 (E F (d+8)).pf 36 [.agg (eSto s),.agg [.int .i64 (h),.row false s.cons.len 1 (eI f),.int .i64 ow,.int .i64 fl,.row false s.cons.len 1 (eI g),o],.agg (eDy dy)]=some (.ret (.tup [.agg [.int .i64 (h+1),.row false s.cons.len 1 (eI f'),.int .i64 ow',.int .i64 fl',.row false s.cons.len 1 (eI g'),o'],.agg [wv,av,.row false s.cons.len 1 (eI p),rv]])):=by
 have h8:=hs.len
 have h48:=hd.len.1
 have q1:=b80 F (d+6) f h0 h8
 have q2:=b80 F (d+6) g h0 h8
 have q3:=b81 F (d+6) ho
 obtain⟨bC,nC,wC,gC,rfl,o1,o2,o3⟩:=OwV_row ho
 have loans:=b82 F (d+5) f g (dy:=dy) (h:=h) (ow:=ow) (fl:=fl) (bC:=bC) hF hs o1 o2 o3
 obtain⟨F',rfl⟩:∃ k,F=k+1:=⟨F - 1,by omega⟩
 rcases loans with⟨f1,g1,q4⟩ | ⟨f1,g1,k,t,hk,ht,q4⟩
 ·obtain⟨f2,o',bD,nD,wD,gD,ho',q5⟩:=b83n (F'+1) (d+5) f1 g1 (dy:=dy) (h:=h) (ow:=ow) (fl:=fl) hF hs hd
  have ho2:=ho'
  obtain⟨bO,nO,wO,gO,rfl,-,-,-⟩:=OwV_row ho'
  obtain⟨w,hw,q6⟩:=b84 (F'+1) (d+4) f2 g1 (dy:=dy) (h:=h) (ow:=ow) (fl:=fl) bO nO wO gO bD nD wD gD hF hs hd
  obtain⟨a,a1,a2,a3,q7⟩:=b85 (F'+1) d f2 g1 (dy:=dy) (h:=h) (ow:=ow) (fl:=fl) bO nO wO gO bD nD wD gD hF hs hd h0 hh hw
  obtain⟨p,ow',p1,p2,p3,q8⟩:=b86 (F'+1) d f2 g1 (dy:=dy) (h:=h) (ow:=ow) (fl:=fl) bO nO wO gO bD nD wD gD hF hs hd h0 hh (a:=a) false s.cons.len 1 (eI w) a1 a2 a3
  obtain⟨f3,fl',q9⟩:=b87 (F'+1) (d+6) f2 g1 (dy:=dy) (h:=h) (ow:=ow') (fl:=fl) bO nO wO gO bD nD wD gD hF hs false s.cons.len 1 (eI w) false s.cons.len 1 (eI a) p
  obtain⟨g2,q10⟩:=b88 (F'+1) (d+4) f3 g1 (dy:=dy) (h:=h) (ow:=ow') (fl:=fl') bO nO wO gO bD nD wD gD hF hs w a p
  refine⟨f3,g2,ow',fl',_,.row false s.cons.len 1 (eI w),.row false s.cons.len 1 (eI a),.row bD nD wD gD,p,ho2,⟨_,_,_,_,rfl⟩,⟨_,_,_,_,rfl⟩,⟨_,_,_,_,rfl⟩,p1,p2,p3,?_⟩
  rw[E_pf,tC2]
  simp only[↓q1,↓q2,↓q3,↓q4,↓q5,↓q6,↓q7,↓q8,↓q9,↓q10,↓tkHv_h,↓tkSl_o,↓tkSl_r,↓nbr,↓ttt,↓bqt,↓bqr,↓pT,↓tkSCons_c,↓tkSNil_n,↓tkArr_a,↓tkBox_b,↓tkCons_c,↓tkInt_i,↓tkRow_r,↓tkNil_n,↓tkTup_t,↓tkDead_d,↓tkOut_ret,↓sam_row,↓sam_int,↓sam_osl]
  rw[LC2x1s,wr (by omega)]
 ·obtain⟨f2,o',bD,nD,wD,gD,ho',q5⟩:=b83s (F'+1) (d+5) f1 g1 (dy:=dy) (h:=h) (ow:=ow) (fl:=fl) hF hs hd (m:=k) (tc:=t) ⟨hk.1,by omega⟩ ht
  have ho2:=ho'
  obtain⟨bO,nO,wO,gO,rfl,-,-,-⟩:=OwV_row ho'
  obtain⟨w,hw,q6⟩:=b84 (F'+1) (d+4) f2 g1 (dy:=dy) (h:=h) (ow:=ow) (fl:=fl) bO nO wO gO bD nD wD gD hF hs hd
  obtain⟨a,a1,a2,a3,q7⟩:=b85 (F'+1) d f2 g1 (dy:=dy) (h:=h) (ow:=ow) (fl:=fl) bO nO wO gO bD nD wD gD hF hs hd h0 hh hw
  obtain⟨p,ow',p1,p2,p3,q8⟩:=b86 (F'+1) d f2 g1 (dy:=dy) (h:=h) (ow:=ow) (fl:=fl) bO nO wO gO bD nD wD gD hF hs hd h0 hh (a:=a) false s.cons.len 1 (eI w) a1 a2 a3
  obtain⟨f3,fl',q9⟩:=b87 (F'+1) (d+6) f2 g1 (dy:=dy) (h:=h) (ow:=ow') (fl:=fl) bO nO wO gO bD nD wD gD hF hs false s.cons.len 1 (eI w) false s.cons.len 1 (eI a) p
  obtain⟨g2,q10⟩:=b88 (F'+1) (d+4) f3 g1 (dy:=dy) (h:=h) (ow:=ow') (fl:=fl') bO nO wO gO bD nD wD gD hF hs w a p
  refine⟨f3,g2,ow',fl',_,.row false s.cons.len 1 (eI w),.row false s.cons.len 1 (eI a),.row bD nD wD gD,p,ho2,⟨_,_,_,_,rfl⟩,⟨_,_,_,_,rfl⟩,⟨_,_,_,_,rfl⟩,p1,p2,p3,?_⟩
  rw[E_pf,tC2]
  simp only[↓q1,↓q2,↓q3,↓q4,↓q5,↓q6,↓q7,↓q8,↓q9,↓q10,↓tkHv_h,↓tkSl_o,↓tkSl_r,↓nbr,↓ttt,↓bqt,↓bqr,↓pT,↓tkSCons_c,↓tkSNil_n,↓tkArr_a,↓tkBox_b,↓tkCons_c,↓tkInt_i,↓tkRow_r,↓tkNil_n,↓tkTup_t,↓tkDead_d,↓tkOut_ret,↓sam_row,↓sam_int,↓sam_osl]
  rw[LC2x1s,wr (by omega)]
end
end Go.Sim.Pl

set_option maxHeartbeats 4000000
set_option maxRecDepth 100000
namespace Go.Sim.Pl
open Go.Sim.Le (cfg E E_pf E_hv)
open Go.Proofs
variable (F d:Nat)
section
variable {s:Sto} {dy:Dy} {h ow fl:Int}
variable (hF:1000<F) (hs:StoOk s) (hd:DyOk s.cons.len dy) (h0:s.cons.len=0) (hh:0≤h∧h<dy.hours.len)
include hF hs hd h0
theorem z82:(E F (d+1)).hv 82 [.optr 0 0 0] [.box 175 (sd s dy h [nL,.int .i64 ow,.int .i64 fl,nL,nL,nL,nL,nL,nL]) true]=some (.ret (.tup []),[.box 175 (sd s dy h [nL,.int .i64 ow,.int .i64 fl,nL,nL,nL,nL,nL,nL]) true]):=by
 obtain⟨F',rfl⟩:∃ k,F=k+1:=⟨F - 1,by omega⟩
 rw[E_hv,tF6,LF6x0s,dF (by omega),pF]
theorem z83:(E F (d+1)).hv 83 [.optr 0 0 0] [.box 175 (sd s dy h [nL,.int .i64 ow,.int .i64 fl,nL,nL,nL,nL,nL,nL]) true]=some (.ret (.tup []),[.box 175 (sd s dy h [nL,.int .i64 ow,.int .i64 fl,nL,nL,nL,nL,nL,nL]) true]):=by
 obtain⟨F',rfl⟩:∃ k,F=k+1:=⟨F - 1,by omega⟩
 have hz:dy.trades.len=0:=by
  rcases Nat.eq_zero_or_pos dy.trades.len with e | e
  ·exact e
  ·obtain⟨t1,t2,t3,-⟩:=hd.trades 0 e
   omega
 rw[E_hv,tF0,LF0x0s,dF (by omega),pF]
theorem z84:(E F (d+1)).hv 84 [.optr 0 0 0] [.box 175 (sd s dy h [nL,.int .i64 ow,.int .i64 fl,nL,nL,nL,nL,nL,nL]) true]=some (.ret (.tup []),[.box 175 (sd s dy h [nL,.int .i64 ow,.int .i64 fl,nL,nL,.osl 1 0 s.cons.len,nL,nL,nL]) true,.arr 3 1 s.cons.len (fun _=>[.int .i64 0]) true]):=by
 obtain⟨F',rfl⟩:∃ k,F=k+1:=⟨F - 1,by omega⟩
 rw[E_hv,tF3,dT (by omega),pT,dT (by omega),pT,dT (by omega),pT,dT (by omega),pT,LF3x0s,dF (by omega),pF]
 rfl
omit hs hd h0 in
theorem z143:(E F (d+1)).pf 143 [nL]=some (.ret (.tup [nL,nL])):=by
 obtain⟨F',rfl⟩:∃ k,F=k+1:=⟨F - 1,by omega⟩
 rw[E_pf,tG2 _ _ 0,LG2x0s]
omit hs hd h0 in
theorem z144:(E F (d+1)).pf 144 [nL]=some (.ret (.int .i64 0)):=by
 obtain⟨F',rfl⟩:∃ k,F=k+1:=⟨F - 1,by omega⟩
 rw[E_pf,tG3 _ _ 0,LG3x0s]
omit hs hd h0 in
theorem z146:(E F (d+1)).pf 146 [nL,nL]=some (.ret nL):=by
 obtain⟨F',rfl⟩:∃ k,F=k+1:=⟨F - 1,by omega⟩
 rw[E_pf,tG4 _ _ 0,LG4x0s]
omit hs hd h0 in
theorem z147 (x:Int):(E F (d+1)).hv 147 [.int .i64 x,nL,.fn (.func 145) [] []] []=some (.ret (.osl 0 0 0),[.arr 3 1 0 (fun _=>[.int .i64 0]) true]):=by
 obtain⟨F',rfl⟩:∃ k,F=k+1:=⟨F - 1,by omega⟩
 rw[E_hv,tF1,LF1x0s,LF1x1s]
omit hs hd h0 hF in
theorem z80:(E F (d+1)).hv 80 [nL] []=some (.ret nL,[]):=by rw[E_hv,tM2 _ _ 0]
omit hs hd h0 in
theorem z178 {x:Int} (hx:0≤x):(E F (d+2)).pf 178 [.agg (eSto s),nL,.int .i64 x]=some (.ret nL):=by
 rw[E_pf,tK3,z144 F d hF,tkOut_ret,tkInt_i,dT rfl,pT,dT hx,pT,z80 F d]
 simp only[↓tkHv_h,↓tkSl_o,↓tkSl_r,↓nbr,↓ttt,↓bqt,↓bqr,↓pT,↓tkSCons_c,↓tkSNil_n,↓tkArr_a,↓tkBox_b,↓tkCons_c,↓tkInt_i,↓tkRow_r,↓tkNil_n,↓tkTup_t,↓tkDead_d,↓tkOut_ret,↓sam_row,↓sam_int,↓sam_osl]
theorem z142 {x y:Int} (hx:0≤x) (hy:0≤y):(E F (d+3)).pf 142 [.agg (eSto s),.row false s.cons.len 1 (fun _=>[.int .i64 0]),.int .i64 x,.int .i64 y]=some (.ret nL):=by
 have e1:(E F (d+2)).pf 143 [sl eInt 1 ⟨false,s.cons.len,fun _=>0⟩]=some (.ret (.tup [nL,nL])):=by
  obtain⟨F',rfl⟩:∃ k,F=k+1:=⟨F - 1,by omega⟩
  rw[E_pf,tB3,LB3x0s,dF (show ¬((0:Int)<((s.cons.len:Nat):Int)) by omega),pF]
 have e2:=tH3 (E F (d+2)) F s ⟨false,s.cons.len,fun _=>0⟩ x y
 rw[E_pf]
 refine Eq.trans e2 ?_
 have z1:=z178 F d hF (s:=s) hx
 have z2:=z178 F d hF (s:=s) hy
 have z3:=z146 F (d+1) hF
 simp only[↓e1,↓z1,↓z2,↓z3,↓tkHv_h,↓tkSl_o,↓tkSl_r,↓nbr,↓ttt,↓bqt,↓bqr,↓pT,↓tkSCons_c,↓tkSNil_n,↓tkArr_a,↓tkBox_b,↓tkCons_c,↓tkInt_i,↓tkRow_r,↓tkNil_n,↓tkTup_t,↓tkDead_d,↓tkOut_ret,↓sam_row,↓sam_int,↓sam_osl]
include hh
theorem z85:(E F (d+4)).hv 85 [.optr 0 0 0] [.box 175 (sd s dy h [nL,.int .i64 ow,.int .i64 fl,nL,nL,.osl 1 0 s.cons.len,nL,nL,nL]) true,.arr 3 1 s.cons.len (fun _=>[.int .i64 0]) true]=some (.ret (.tup []),[.box 175 (sd s dy h [nL,.int .i64 ow,.int .i64 fl,nL,nL,.row false s.cons.len 1 (fun _=>[.int .i64 0]),nL,nL,nL]) true,.dead]):=by
 have hr:=hd.hours h.toNat (by omega)
 have z1:=z142 F d hF hs hd h0 (x:=(dy.hours.el h.toNat).inn) (y:=(dy.hours.el h.toNat).out) hr.1.1 hr.2.1.1
 rw[E_hv,tM3,sG1 F (d+2) hh]
 simp only[↓tkAgg_a,↓z1,↓tkHv_h,↓tkSl_o,↓tkSl_r,↓nbr,↓ttt,↓bqt,↓bqr,↓pT,↓tkSCons_c,↓tkSNil_n,↓tkArr_a,↓tkBox_b,↓tkCons_c,↓tkInt_i,↓tkRow_r,↓tkNil_n,↓tkTup_t,↓tkDead_d,↓tkOut_ret,↓sam_row,↓sam_int,↓sam_osl]
theorem z86:∃ ow',(E F (d+4)).hv 86 [.optr 0 0 0] [.box 175 (sd s dy h [nL,.int .i64 ow,.int .i64 fl,nL,nL,.row false s.cons.len 1 (fun _=>[.int .i64 0]),nL,nL,nL]) true]=some (.ret (.tup []),[.box 175 (sd s dy h [nL,.int .i64 ow',.int .i64 fl,nL,nL,.row false s.cons.len 1 (fun _=>[.int .i64 0]),nL,nL,nL]) true]):=by
 have z1:=z143 F (d+2) hF
 have z2:=z144 F (d+2) hF
 have z3:=z147 F (d+2) hF
 have z4:(E F (d+3)).pf 146 [.row false 0 1 (fun _=>[.int .i64 0]),.row false 0 1 (fun _=>[.int .i64 0])]=some (.ret nL):=by
  obtain⟨F',rfl⟩:∃ k,F=k+1:=⟨F - 1,by omega⟩
  have e:=tB4 (E (F'+1) (d+2)) (F'+1) ⟨false,0,fun _=>0⟩ ⟨false,0,fun _=>0⟩
  rw[E_pf]
  refine Eq.trans e ?_
  rw[LB4x0s]
  rfl
 refine⟨IntKind.i64.wrap (ow+IntKind.i64.wrap (IntKind.i64.wrap ((dy.hours.el h.toNat).fin - (if (0:Int)<(dy.hours.el h.toNat).fin then 0 else (dy.hours.el h.toNat).fin)) - IntKind.i64.wrap ((dy.hours.el h.toNat).fout - (if (0:Int)<(dy.hours.el h.toNat).fout then 0 else (dy.hours.el h.toNat).fout)))),?_⟩
 rw[E_hv,tM4,sG1 F (d+2) hh]
 simp only[↓tkAgg_a,↓z1,↓z2,↓z3,↓z4,↓decide_true,↓tkHv_h,↓tkSl_o,↓tkSl_r,↓nbr,↓ttt,↓bqt,↓bqr,↓pT,↓tkSCons_c,↓tkSNil_n,↓tkArr_a,↓tkBox_b,↓tkCons_c,↓tkInt_i,↓tkRow_r,↓tkNil_n,↓tkTup_t,↓tkDead_d,↓tkOut_ret,↓sam_row,↓sam_int,↓sam_osl]
omit hh in
theorem z87:(E F (d+1)).hv 87 [.optr 0 0 0] [.box 175 (sd s dy h [nL,.int .i64 ow,.int .i64 fl,nL,nL,.row false s.cons.len 1 (fun _=>[.int .i64 0]),nL,nL,nL]) true]=some (.ret (.tup []),[.box 175 (sd s dy h [nL,.int .i64 ow,.int .i64 fl,nL,nL,.row false s.cons.len 1 (fun _=>[.int .i64 0]),nL,nL,nL]) true]):=by
 obtain⟨F',rfl⟩:∃ k,F=k+1:=⟨F - 1,by omega⟩
 rw[E_hv,tG5,LG5x0s,dF (by omega),pF]
omit hh in
theorem z88:(E F (d+1)).hv 88 [.optr 0 0 0] [.box 175 (sd s dy h [nL,.int .i64 ow,.int .i64 fl,nL,nL,.row false s.cons.len 1 (fun _=>[.int .i64 0]),nL,nL,nL]) true]=some (.ret (.tup []),[.box 175 (sd s dy h [nL,.int .i64 ow,.int .i64 fl,nL,nL,.row false s.cons.len 1 (fun _=>[.int .i64 0]),nL,nL,nL]) true]):=by
 obtain⟨F',rfl⟩:∃ k,F=k+1:=⟨F - 1,by omega⟩
 rw[E_hv,tF9,LF9x0s,dF (by omega),pF]
theorem b36z:∃ (ow':Int) (wv:V),(∃ b m wd gg,wv = .row b m wd gg)∧(E F (d+5)).pf 36 [.agg (eSto s),.agg [.int .i64 h,nL,.int .i64 ow,.int .i64 fl,nL,nL],.agg (eDy dy)]=some (.ret (.tup [.agg [.int .i64 (h+1),nL,.int .i64 ow',.int .i64 fl,nL,nL],.agg [wv,nL,nL,nL]])):=by
 have h48:=hd.len.1
 have q1:=z80 F (d+3)
 have q3:(E F (d+4)).pf 81 [nL]=some (.ret nL):=by rw[E_pf,tK7 _ _ 0]
 have q4:=z82 F (d+3) (dy:=dy) (h:=h) (ow:=ow) (fl:=fl) hF hs hd h0
 have q5:=z83 F (d+3) (dy:=dy) (h:=h) (ow:=ow) (fl:=fl) hF hs hd h0
 have q6:=z84 F (d+3) (dy:=dy) (h:=h) (ow:=ow) (fl:=fl) hF hs hd h0
 have q7:=z85 F d (ow:=ow) (fl:=fl) hF hs hd h0 hh
 obtain⟨ow',q8⟩:=z86 F d (ow:=ow) (fl:=fl) hF hs hd h0 hh
 have q9:=z87 F (d+3) (dy:=dy) (h:=h) (ow:=ow') (fl:=fl) hF hs hd h0
 have q10:=z88 F (d+3) (dy:=dy) (h:=h) (ow:=ow') (fl:=fl) hF hs hd h0
 obtain⟨F',rfl⟩:∃ k,F=k+1:=⟨F - 1,by omega⟩
 refine⟨ow',.row false s.cons.len 1 (fun _=>[.int .i64 0]),⟨_,_,_,_,rfl⟩,?_⟩
 rw[E_pf,tC2]
 simp only[↓q1,↓q3,↓q4,↓q5,↓q6,↓q7,↓q8,↓q9,↓q10,↓tkHv_h,↓tkSl_o,↓tkSl_r,↓nbr,↓ttt,↓bqt,↓bqr,↓pT,↓tkSCons_c,↓tkSNil_n,↓tkArr_a,↓tkBox_b,↓tkCons_c,↓tkInt_i,↓tkRow_r,↓tkNil_n,↓tkTup_t,↓tkDead_d,↓tkOut_ret,↓sam_row,↓sam_int,↓sam_osl]
 rw[LC2x0s,wr (by omega)]
end
end Go.Sim.Pl

set_option maxHeartbeats 4000000
set_option maxRecDepth 100000
namespace Go.Sim.Pl
open Go.Sim.Le (cfg E E_pf E_hv)
open Go.Proofs
variable (F d:Nat)
def BkOk (n:Nat) (hr:Hr) (cs:List V):Prop:=∃ (wv av fv rv:V) (b:Bool) (wd:Nat) (g:Nat→List V) (p:Nat→Int),cs=[wv,av,fv,rv]∧(∃ b m wd gg,wv = .row b m wd gg)∧(∃ b m wd gg,av = .row b m wd gg)∧(∃ b m wd gg,rv = .row b m wd gg) ∧
 fv = .row b n wd g∧(0<n→wd=1)∧(∀ k,k<n→g k=[.int .i64 (p k)])∧(∀ k,k<n→-800000000≤p k∧p k≤800000000)∧sumW (fun k=>pos (p k)) n≤hr.inn∧sumW (fun k=>pos (p k)) n≤hr.fin
def XOk (X:V):Prop:=∃ (h ow fl:Int) (b1:Bool) (n1 w1:Nat) (g1:Nat→List V) (b2:Bool) (n2 w2:Nat) (g2:Nat→List V) (b3:Bool) (n3 w3:Nat) (g3:Nat→List V),X = .agg [.int .i64 h,.row b1 n1 w1 g1,.int .i64 ow,.int .i64 fl,.row b2 n2 w2 g2,.row b3 n3 w3 g3]
section
variable {s:Sto} {dy:Dy}
variable (hF:1000<F) (hs:StoOk s)
include hF hs
theorem lB7 (e:Env):∀ (j i fu:Nat) (f g:Nat→Int),i+j=s.cons.len→j<fu→∃ f' g',LB7x1 e F s fu i i i i (eI f) i (eI g)=some (.ret (.agg [.int .i64 0,.row false s.cons.len 1 (eI f'),.int .i64 0,.int .i64 0,.row false s.cons.len 1 (eI g'),nL])):=by
 have h8:=hs.len
 intro j
 induction j with
 |zero =>
  intro i fu f g hij hlt
  obtain⟨fu,rfl⟩:=ex1 (n:=fu) (by omega)
  obtain rfl:s.cons.len=i:=by omega
  exact⟨f,g,by rw[LB7x1s,dF (by omega),pF]⟩
 |succ j ih =>
  intro i fu f g hij hlt
  obtain⟨fu,rfl⟩:=ex1 (n:=fu) (by omega)
  have hS:=wrS (i:=i) (by omega)
  rw[LB7x1s]
  simp (disch:=omega) only[dT,pT,tnC,hS]
  rw[app_eI,app_eI]
  exact ih (i+1) fu _ _ (by omega) (by omega)
theorem b35 (h0:0<s.cons.len):∃ f g,(E F (d+1)).pf 35 [.agg (eSto s)]=some (.ret (.agg [.int .i64 0,.row false s.cons.len 1 (eI f),.int .i64 0,.int .i64 0,.row false s.cons.len 1 (eI g),nL])):=by
 have h8:=hs.len
 obtain⟨F',rfl⟩:∃ k,F=k+1:=⟨F - 1,by omega⟩
 obtain⟨f,g,q⟩:=lB7 (F'+1) hF hs (E (F'+1) d) (s.cons.len - 1) 1 F' (fun _=>(s.cons.el 0).gas) (fun _=>0) (by omega) (by omega)
 have z1:IntKind.i64.wrap ((0:Int)+1)=((1:Nat):Int):=wr (by omega)
 refine⟨f,g,?_⟩
 rw[E_pf,tB7,LB7x0s]
 simp (disch:=omega) only[dT,pT,z1]
 exact q
theorem b35z (h0:s.cons.len=0):(E F (d+1)).pf 35 [.agg (eSto s)]=some (.ret (.agg [.int .i64 0,nL,.int .i64 0,.int .i64 0,nL,nL])):=by
 obtain⟨F',rfl⟩:∃ k,F=k+1:=⟨F - 1,by omega⟩
 rw[E_pf,tB7,LB7x0s,dF (by omega),pF]
variable (hd:DyOk s.cons.len dy)
include hd
theorem flow_of {k:Nat} {p:Nat→Int} {wv av rv:V} (h1:∃ b m wd gg,wv = .row b m wd gg) (h2:∃ b m wd gg,av = .row b m wd gg) (h3:∃ b m wd gg,rv = .row b m wd gg) (p1:∀ k,k<s.cons.len→-800000000≤p k∧p k≤800000000) (p2:sumW (fun k=>pos (p k)) s.cons.len≤(dy.hours.el k).inn) (p3:sumW (fun k=>pos (p k)) s.cons.len≤(dy.hours.el k).fin):BkOk s.cons.len (dy.hours.el k) [wv,av,.row false s.cons.len 1 (eI p),rv] :=
 ⟨wv,av,_,rv,_,_,_,p,rfl,h1,h2,h3,rfl,fun _=>rfl,fun _ _=>rfl,p1,p2,p3⟩
theorem lA4 (h0:0<s.cons.len):∀ (j i fu:Nat) (f g:Nat→Int) (ow fl:Int) (bO:Bool) (nO wO:Nat) (gO G:Nat→List V),i+j=dy.hours.len→j<fu→OwV s.cons.len (.row bO nO wO gO)→(∀ k,k<i→BkOk s.cons.len (dy.hours.el k) (G k)) →
 ∃ X G',XOk X∧(∀ k,k<dy.hours.len→BkOk s.cons.len (dy.hours.el k) (G' k))∧LA4x1 (E F (d+8)) F s dy fu i i .i64 i false s.cons.len 1 (eI f) .i64 ow .i64 fl false s.cons.len 1 (eI g) bO nO wO gO i G=some (.ret (.tup [X,.row false dy.hours.len 4 G',.int .i64 0])):=by
 have h48:=hd.len.1
 intro j
 induction j with
 |zero =>
  intro i fu f g ow fl bO nO wO gO G hij hlt ho hG
  obtain⟨fu,rfl⟩:=ex1 (n:=fu) (by omega)
  obtain rfl:dy.hours.len=i:=by omega
  refine⟨.agg [.int .i64 dy.hours.len,.row false s.cons.len 1 (eI f),.int .i64 ow,.int .i64 fl,.row false s.cons.len 1 (eI g),.row bO nO wO gO],G,⟨_,_,_,_,_,_,_,_,_,_,_,_,_,_,_,rfl⟩,hG,?_⟩
  rw[LA4x1s,dF (by omega),pF]
 |succ j ih =>
  intro i fu f g ow fl bO nO wO gO G hij hlt ho hG
  obtain⟨fu,rfl⟩:=ex1 (n:=fu) (by omega)
  have hS:=wrS (i:=i) (by omega)
  obtain⟨f',g',ow',fl',o',wv,av,rv,p,ho',h1,h2,h3,p1,p2,p3,q⟩:=b36 F d f g (dy:=dy) (h:=i) (ow:=ow) (fl:=fl) hF hs hd h0 (by omega) ho
  have ho2:=ho'
  obtain⟨bP,nP,wP,gP,rfl,-,-,-⟩:=OwV_row ho'
  have hfl:=flow_of F hF hs hd (k:=i) h1 h2 h3 p1 p2 p3
  obtain⟨b1,m1,w1,g1,rfl⟩:=h1
  obtain⟨b2,m2,w2,g2,rfl⟩:=h2
  obtain⟨b3,m3,w3,g3,rfl⟩:=h3
  obtain⟨X,G',e0,e1,e2⟩:=ih (i+1) fu f' g' ow' fl' bP nP wP gP (appGet i G fun _=>[.row b1 m1 w1 g1,.row b2 m2 w2 g2,.row false s.cons.len 1 (eI p),.row b3 m3 w3 g3]) (by omega) (by omega) ho2 (fun k hk=>by
   unfold appGet
   by_cases e:k<i
   ·rw[if_pos e];exact hG k e
   ·rw[if_neg e]
    obtain rfl:k=i:=by omega
    exact hfl)
  refine⟨X,G',e0,e1,?_⟩
  rw[LA4x1s,dT (by omega),pT]
  simp only[↓q,↓tkHv_h,↓tkSl_o,↓tkSl_r,↓nbr,↓ttt,↓bqt,↓bqr,↓pT,↓tkSCons_c,↓tkSNil_n,↓tkArr_a,↓tkBox_b,↓tkCons_c,↓tkInt_i,↓tkRow_r,↓tkNil_n,↓tkTup_t,↓tkDead_d,↓tkOut_ret,↓tkAgg_a]
  rw[dT (by omega),pT,hS]
  exact e2
theorem lA4z (h0:s.cons.len=0):∀ (j i fu:Nat) (ow fl:Int) (G:Nat→List V),i+j=dy.hours.len→j<fu→(∀ k,k<i→BkOk s.cons.len (dy.hours.el k) (G k)) →
 ∃ X G',XOk X∧(∀ k,k<dy.hours.len→BkOk s.cons.len (dy.hours.el k) (G' k))∧LA4x1 (E F (d+5)) F s dy fu i i .i64 i true 0 0 (fun _=>[]) .i64 ow .i64 fl true 0 0 (fun _=>[]) true 0 0 (fun _=>[]) i G=some (.ret (.tup [X,.row false dy.hours.len 4 G',.int .i64 0])):=by
 have h48:=hd.len.1
 intro j
 induction j with
 |zero =>
  intro i fu ow fl G hij hlt hG
  obtain⟨fu,rfl⟩:=ex1 (n:=fu) (by omega)
  obtain rfl:dy.hours.len=i:=by omega
  refine⟨.agg [.int .i64 dy.hours.len,nL,.int .i64 ow,.int .i64 fl,nL,nL],G,⟨_,_,_,_,_,_,_,_,_,_,_,_,_,_,_,rfl⟩,hG,?_⟩
  rw[LA4x1s,dF (by omega),pF]
 |succ j ih =>
  intro i fu ow fl G hij hlt hG
  obtain⟨fu,rfl⟩:=ex1 (n:=fu) (by omega)
  have hS:=wrS (i:=i) (by omega)
  obtain⟨ow',wv,h1,q⟩:=b36z F d (dy:=dy) (h:=i) (ow:=ow) (fl:=fl) hF hs hd h0 (by omega)
  have hr:=hd.hours i (by omega)
  have hfl:BkOk s.cons.len (dy.hours.el i) [wv,nL,nL,nL]:=by
   rw[h0]
   exact⟨wv,_,_,_,_,_,_,fun _=>0,rfl,h1,⟨_,_,_,_,rfl⟩,⟨_,_,_,_,rfl⟩,rfl,fun h=>absurd h (by omega),fun k hk=>absurd hk (by omega),fun k hk=>absurd hk (by omega),hr.1.1,hr.2.2.1.1⟩
  obtain⟨b1,m1,w1,g1,rfl⟩:=h1
  obtain⟨X,G',e0,e1,e2⟩:=ih (i+1) fu ow' fl (appGet i G fun _=>[.row b1 m1 w1 g1,nL,nL,nL]) (by omega) (by omega) (fun k hk=>by
   unfold appGet
   by_cases e:k<i
   ·rw[if_pos e];exact hG k e
   ·rw[if_neg e]
    obtain rfl:k=i:=by omega
    exact hfl)
  refine⟨X,G',e0,e1,?_⟩
  rw[LA4x1s,dT (by omega),pT]
  simp only[↓q,↓tkHv_h,↓tkSl_o,↓tkSl_r,↓nbr,↓ttt,↓bqt,↓bqr,↓pT,↓tkSCons_c,↓tkSNil_n,↓tkArr_a,↓tkBox_b,↓tkCons_c,↓tkInt_i,↓tkRow_r,↓tkNil_n,↓tkTup_t,↓tkDead_d,↓tkOut_ret,↓tkAgg_a]
  rw[dT (by omega),pT,hS]
  exact e2
end
end Go.Sim.Pl

set_option maxHeartbeats 4000000
set_option maxRecDepth 100000
namespace Go.Sim.Pl
open Go.Sim.Le (cfg E E_pf E_hv)
open Go.Proofs
variable (F d:Nat)
theorem b11 {s:Sto} {dy:Dy} (hF:1000<F) (hs:StoOk s) (hd:DyOk s.cons.len dy):∃ (X:V) (b:Bool) (wd:Nat) (G:Nat→List V),XOk X∧(0<dy.hours.len→wd=4)∧(∀ k,k<dy.hours.len→BkOk s.cons.len (dy.hours.el k) (G k)) ∧
 (E F (d+11)).pf 11 [.agg (eSto s),.agg (eDy dy)]=some (.ret (.tup [X,.row b dy.hours.len wd G,.int .i64 0])):=by
 have h8:=hs.len
 have h48:=hd.len.1
 have q1:=sJ5 F d hF hs
 have q2:=sJ4 F (d+1) (n:=s.cons.len) (by omega) hF hd
 obtain⟨F',rfl⟩:∃ k,F=k+1:=⟨F - 1,by omega⟩
 have z1:IntKind.i64.wrap ((0:Int)+1)=((1:Nat):Int):=wr (by omega)
 rcases Nat.eq_zero_or_pos s.cons.len with h0 | h0
 ·have q3:=b35z (F'+1) (d+9) hF hs h0
  rcases Nat.eq_zero_or_pos dy.hours.len with hz | hz
  ·refine⟨.agg [.int .i64 0,nL,.int .i64 0,.int .i64 0,nL,nL],true,0,fun _=>[],⟨_,_,_,_,_,_,_,_,_,_,_,_,_,_,_,rfl⟩,fun h=>absurd h (by omega),fun k hk=>absurd hk (by omega),?_⟩
   rw[hz,E_pf,tA4]
   simp only[↓q1,↓q2,↓q3,↓tkBool_b,↓Bool.not_true,↓pF,↓tkHv_h,↓tkSl_o,↓tkSl_r,↓nbr,↓ttt,↓bqt,↓bqr,↓pT,↓tkSCons_c,↓tkSNil_n,↓tkArr_a,↓tkBox_b,↓tkCons_c,↓tkInt_i,↓tkRow_r,↓tkNil_n,↓tkTup_t,↓tkDead_d,↓tkOut_ret,↓tkAgg_a]
   rw[LA4x0s,dF (by omega),pF]
  ·obtain⟨ow',wv,h1,q⟩:=b36z (F'+1) (d+5) (dy:=dy) (h:=0) (ow:=0) (fl:=0) hF hs hd h0 (by omega)
   have hr:=hd.hours 0 hz
   have hfl:BkOk s.cons.len (dy.hours.el 0) [wv,nL,nL,nL]:=by
    rw[h0]
    exact⟨wv,_,_,_,_,_,_,fun _=>0,rfl,h1,⟨_,_,_,_,rfl⟩,⟨_,_,_,_,rfl⟩,rfl,fun h=>absurd h (by omega),fun k hk=>absurd hk (by omega),fun k hk=>absurd hk (by omega),hr.1.1,hr.2.2.1.1⟩
   obtain⟨b1,m1,w1,g1,rfl⟩:=h1
   obtain⟨X,G',e0,e1,e2⟩:=lA4z (F'+1) (d+5) hF hs hd h0 (dy.hours.len - 1) 1 F' ow' 0 (fun _=>[.row b1 m1 w1 g1,nL,nL,nL]) (by omega) (by omega) (fun k hk=>by
    have e:k=0:=by omega
    subst e;exact hfl)
   refine⟨X,false,4,G',e0,fun _=>rfl,e1,?_⟩
   rw[E_pf,tA4]
   simp only[↓q1,↓q2,↓q3,↓tkBool_b,↓Bool.not_true,↓pF,↓tkHv_h,↓tkSl_o,↓tkSl_r,↓nbr,↓ttt,↓bqt,↓bqr,↓pT,↓tkSCons_c,↓tkSNil_n,↓tkArr_a,↓tkBox_b,↓tkCons_c,↓tkInt_i,↓tkRow_r,↓tkNil_n,↓tkTup_t,↓tkDead_d,↓tkOut_ret,↓tkAgg_a]
   rw[LA4x0s,dT (by omega),pT]
   simp only[↓q,↓tkHv_h,↓tkSl_o,↓tkSl_r,↓nbr,↓ttt,↓bqt,↓bqr,↓pT,↓tkSCons_c,↓tkSNil_n,↓tkArr_a,↓tkBox_b,↓tkCons_c,↓tkInt_i,↓tkRow_r,↓tkNil_n,↓tkTup_t,↓tkDead_d,↓tkOut_ret,↓tkAgg_a]
   rw[z1]
   exact e2
 ·obtain⟨f,g,q3⟩:=b35 (F'+1) (d+9) hF hs h0
  rcases Nat.eq_zero_or_pos dy.hours.len with hz | hz
  ·refine⟨.agg [.int .i64 0,.row false s.cons.len 1 (eI f),.int .i64 0,.int .i64 0,.row false s.cons.len 1 (eI g),nL],true,0,fun _=>[],⟨_,_,_,_,_,_,_,_,_,_,_,_,_,_,_,rfl⟩,fun h=>absurd h (by omega),fun k hk=>absurd hk (by omega),?_⟩
   rw[hz,E_pf,tA4]
   simp only[↓q1,↓q2,↓q3,↓tkBool_b,↓Bool.not_true,↓pF,↓tkHv_h,↓tkSl_o,↓tkSl_r,↓nbr,↓ttt,↓bqt,↓bqr,↓pT,↓tkSCons_c,↓tkSNil_n,↓tkArr_a,↓tkBox_b,↓tkCons_c,↓tkInt_i,↓tkRow_r,↓tkNil_n,↓tkTup_t,↓tkDead_d,↓tkOut_ret,↓tkAgg_a]
   rw[LA4x0s,dF (by omega),pF]
  ·obtain⟨f',g',ow',fl',o',wv,av,rv,p,ho',h1,h2,h3,p1,p2,p3,q⟩:=b36 (F'+1) (d+2) f g (dy:=dy) (h:=0) (ow:=0) (fl:=0) hF hs hd h0 (by omega) (o:=nL) (.inl rfl)
   have ho2:=ho'
   obtain⟨bP,nP,wP,gP,rfl,-,-,-⟩:=OwV_row ho'
   have hfl:=flow_of (F'+1) hF hs hd (k:=0) h1 h2 h3 p1 p2 p3
   obtain⟨b1,m1,w1,g1,rfl⟩:=h1
   obtain⟨b2,m2,w2,g2,rfl⟩:=h2
   obtain⟨b3,m3,w3,g3,rfl⟩:=h3
   obtain⟨X,G',e0,e1,e2⟩:=lA4 (F'+1) (d+2) hF hs hd h0 (dy.hours.len - 1) 1 F' f' g' ow' fl' bP nP wP gP (fun _=>[.row b1 m1 w1 g1,.row b2 m2 w2 g2,.row false s.cons.len 1 (eI p),.row b3 m3 w3 g3]) (by omega) (by omega) ho2 (fun k hk=>by
    have e:k=0:=by omega
    subst e;exact hfl)
   refine⟨X,false,4,G',e0,fun _=>rfl,e1,?_⟩
   rw[E_pf,tA4]
   simp only[↓q1,↓q2,↓q3,↓tkBool_b,↓Bool.not_true,↓pF,↓tkHv_h,↓tkSl_o,↓tkSl_r,↓nbr,↓ttt,↓bqt,↓bqr,↓pT,↓tkSCons_c,↓tkSNil_n,↓tkArr_a,↓tkBox_b,↓tkCons_c,↓tkInt_i,↓tkRow_r,↓tkNil_n,↓tkTup_t,↓tkDead_d,↓tkOut_ret,↓tkAgg_a]
   rw[LA4x0s,dT (by omega),pT]
   simp only[↓q,↓tkHv_h,↓tkSl_o,↓tkSl_r,↓nbr,↓ttt,↓bqt,↓bqr,↓pT,↓tkSCons_c,↓tkSNil_n,↓tkArr_a,↓tkBox_b,↓tkCons_c,↓tkInt_i,↓tkRow_r,↓tkNil_n,↓tkTup_t,↓tkDead_d,↓tkOut_ret,↓tkAgg_a]
   rw[z1]
   exact e2
end Go.Sim.Pl

namespace Go.Sim.Pl
open Go.Sim.Le (cfg E E_pf E_hv names look)
open Go.Proofs
def enS (l:Sl Mach) (r:Nat→Bool) (f x:Int):Int:=sumL (shareS l r f x).es
def costF (e:Int→Int) (p:Int × Int) (xs:List Int):Int × Int:=xs.foldl (fun p x=>(min p.1 (e x),max p.2 (e x))) p
def startB (w:Sl Int) (st:Nat→Sta) (i:Nat):Bool:=(runsS w).el i && !(st i).runs
def startN (w:Sl Int) (st:Nat→Sta):Nat→Int
 |0=>0
 |i+1=>startN w st i+(if startB w st i=true then 1 else 0)
def startE (l:Sl Mach) (w:Sl Int) (st:Nat→Sta):Nat→Int
 |0=>0
 |i+1=>startE l w st i+(if startB w st i=true then (l.el i).start else 0)
def hourE (l:Sl Mach) (w:Sl Int) (h:Hour):Int × Int:=costF (enS l (runsS w).el h.flow) (enS l (runsS w).el h.flow h.ratio.lo,enS l (runsS w).el h.flow h.ratio.lo) (ratM l h.ratio l.len 0)
theorem enS_in {l:Sl Mach} (hl:PlantOk l) (hF:1000<(2000:Nat)) {r:Nat→Bool} {f x:Int} (hf:FlowOk f):0≤enS l r f x∧enS l r f x≤18000000000:=by
 have hl2:=hl.2
 have hI:=shK_inv 2000 hl (by omega) (r:=r) (f:=f) (x:=x) hf 3 1 shr0 (shr0xinv 2000 hl (by omega) ⟨false,l.len,r⟩ rfl f x hf)
 have hs:=sumL_in 2000 hl (by omega) _ hI.es
 have hm:∀ k,(mine l r k).length≤6:=fun k=>by
  have:=mineR_len l r k l.len 0
  unfold mine
  omega
 have h1:=hm 1
 have h2:=hm 2
 have h3:=hm 3
 have e3:=kind_es (l:=l) (r:=r) (f:=f) (x:=x) (k:=3) (s:=shr2 l r f x)
 have e2:=kind_es (l:=l) (r:=r) (f:=f) (x:=x) (k:=2) (s:=shr1 l r f x)
 have e1:=kind_es (l:=l) (r:=r) (f:=f) (x:=x) (k:=1) (s:=shr0)
 have e3':(shareS l r f x).es.length=_:=e3
 have e2':(shr2 l r f x).es.length=_:=e2
 have e1':(shr1 l r f x).es.length=(mine l r 1).length:=by rw[show (shr1 l r f x).es.length=_ from e1];show 0+_=_;omega
 have hs':0≤enS l r f x∧enS l r f x≤1000000000*((shareS l r f x).es.length:Nat):=hs
 omega
theorem costF_in {e:Int→Int} (he:∀ x,0≤e x∧e x≤18000000000):∀ (xs:List Int) (p:Int × Int),(0≤p.1∧p.1≤18000000000)∧(0≤p.2∧p.2≤18000000000)→(0≤(costF e p xs).1∧(costF e p xs).1≤18000000000)∧(0≤(costF e p xs).2∧(costF e p xs).2≤18000000000)
 |[],p,h=>h
 |x :: xs,p,h=>by
  have:=he x
  exact costF_in he xs (min p.1 (e x),max p.2 (e x)) (by constructor<;>constructor<;>simp only[]<;>omega)
variable (F d:Nat)
section
variable {l:Sl Mach} (hl:PlantOk l) {st:Sl Sta} {w:Sl Int} {h:Hour} (hF:1000<F) (hst:st.len=l.len) (hw:w.len=l.len) (hh:HourOk h)
include hl hF hst hw hh
theorem startE_in (st:Nat→Sta):∀ i,i≤l.len→(0≤startE l w st i∧startE l w st i≤1000000000*i)∧0≤startN w st i∧startN w st i≤i
 |0,_=>by simp[startE,startN]
 |i+1,hi=>by
  have ih:=startE_in st i (by omega)
  have:=(hl.1 i (by omega)).2.2.2.1
  simp only[startE,startN]
  split<;>omega
theorem l75x2 (lo hi:Int) (h1:0≤lo∧lo≤18000000000) (h2:0≤hi∧hi≤18000000000):∀ j i fu,i+j=l.len→j<fu →
 L75x2 (E F (d+1)) F l st w h fu (startN w st.el i) i .i64 (lo+startE l w st.el i) .i64 (hi+startE l w st.el i) (runsS w).nl (runsS w).len 1 (fun j=>eBool ((runsS w).el j))=some (.ret (.tup [.agg [.int .i64 (lo+startE l w st.el l.len),.int .i64 (hi+startE l w st.el l.len)],.int .i64 (startN w st.el l.len)])):=by
 have hl2:=hl.2
 intro j
 induction j with
 |zero =>
  intro i fu hij hf
  obtain⟨fu,rfl⟩:=ex1 (n:=fu) (by omega)
  have hi:i=l.len:=by omega
  subst hi
  rw[L75x2s,dF (by omega),pF]
 |succ j ih =>
  intro i fu hij hf
  obtain⟨fu,rfl⟩:=ex1 (n:=fu) (by omega)
  have hS':IntKind.i64.wrap ((i:Int)+1)=((i+1:Nat):Int):=wrS (by omega)
  have e:=ih (i+1) fu (by omega) (by omega)
  have hb:=startE_in F hl hF hst hw hh st.el i (by omega)
  have hs:=(hl.1 i (by omega)).2.2.2.1
  have hrl:(runsS w).len=l.len:=hw
  simp only[startE,startN] at e
  rw[L75x2s]
  simp (disch:=omega) only[dT,decide_true,pT,tnC,hS',tkCons_c,tkBool_b,beq_self_eq_true,wr]
  cases hr:(runsS w).el i with
  |false =>
   have sb:startB w st.el i=false:=by unfold startB;rw[hr];rfl
   rw[sb,if_neg (by simp),Int.add_zero,if_neg (by simp),Int.add_zero] at e
   rw[pF]
   exact e
  |true =>
   rw[pT]
   cases hs2:(st.el i).runs with
   |true =>
    have sb:startB w st.el i=false:=by unfold startB;rw[hr,hs2];rfl
    rw[sb,if_neg (by simp),Int.add_zero,if_neg (by simp),Int.add_zero] at e
    rw[Bool.not_true,pF]
    exact e
   |false =>
    have sb:startB w st.el i=true:=by unfold startB;rw[hr,hs2];rfl
    rw[sb,if_pos rfl,if_pos rfl,← Int.add_assoc,← Int.add_assoc] at e
    rw[Bool.not_false,pT]
    exact e
end
section
variable {l:Sl Mach} (hl:PlantOk l) {st:Sl Sta} {w:Sl Int} {h:Hour} (hF:1000<F) (hst:st.len=l.len) (hw:w.len=l.len) (hh:HourOk h)
include hl hF hst hw hh
theorem l75x1 (m0 i:Nat) (hi:i<l.len) (R:Option Out) (q:Int × Int) (K:L75x0 (E F (d+9)) F l st w h m0 (fun _=>eSpan h.ratio) l.nl l.len 10 (fun i=>eMach (l.el i)) l.len ((i+1:Nat):Int) .i64 q.1 .i64 q.2 (runsS w).nl (runsS w).len 1 (fun j=>eBool ((runsS w).el j)) (runsS w).nl (runsS w).len 1 (fun j=>eBool ((runsS w).el j)) (fun _=>eSpan h.ratio) (fun _=>[sl eMach 10 l])=R) :
 ∀ (j k fu:Nat) (p:Int × Int),k+j=(l.el i).rows.len→j<fu→costF (enS l (runsS w).el h.flow) p (ratR (l.el i) h.ratio j k)=q →
 L75x1 (E F (d+9)) F l st w h m0 fu (fun _=>eSpan h.ratio) l.nl l.len 10 (fun i=>eMach (l.el i)) l.len i (l.el i).rows.nl (l.el i).rows.len 4 (fun k=>eRow ((l.el i).rows.el k)) (l.el i).rows.len k .i64 p.1 .i64 p.2 (runsS w).nl (runsS w).len 1 (fun j=>eBool ((runsS w).el j)) (runsS w).nl (runsS w).len 1 (fun j=>eBool ((runsS w).el j)) (fun _=>eSpan h.ratio) (fun _=>[sl eMach 10 l])=R:=by
 have hll:=hl.2
 intro j
 induction j with
 |zero =>
  intro k fu p hk hf hq
  obtain⟨fu,rfl⟩:=ex1 (n:=fu) (by omega)
  have hS:=wrS (i:=i) (by omega)
  simp only[ratR,costF,List.foldl_nil] at hq
  subst hq
  rw[L75x1s,dF (by omega),pF,hS]
  exact K
 |succ j ih =>
  intro k fu p hk hf hq
  obtain⟨fu,rfl⟩:=ex1 (n:=fu) (by omega)
  have hm:=(hl.1 i hi).1 k (by omega)
  have hml:=(hl.1 i hi).2.2.1
  have hhr:=hh.2
  have hS:=wrS (i:=k) (by omega)
  have q52:=s52 F (d+8) (((l.el i).rows.el k).ratio+1) (h.ratio.lo+1) h.ratio.hi
  have q55:=s55 F d hl hF (runsS w) (show w.len=l.len from hw) h.flow (((l.el i).rows.el k).ratio+1) hh.1
  simp only[ratR] at hq
  rw[L75x1s]
  simp (disch:=omega) only[dT,decide_true,pT,tnC,show ((4:Nat)==4)=true from rfl,List.take,List.length,List.drop,show ((0+1+1+1+1:Nat)==4)=true from rfl,tkCons_c,tkInt_i,tkNil_n,wr (n:=((l.el i).rows.el k).ratio+1),wr (n:=h.ratio.lo+1),q52,tkOut_ret,tkBool_b,hS]
  by_cases h1:h.ratio.lo<((l.el i).rows.el k).ratio+1∧((l.el i).rows.el k).ratio+1≤h.ratio.hi
  ·rw[dT (show h.ratio.lo+1≤((l.el i).rows.el k).ratio+1∧((l.el i).rows.el k).ratio+1≤h.ratio.hi by omega),pT]
   rw[if_pos h1] at hq
   have e:=ih (k+1) fu (min p.1 (enS l (runsS w).el h.flow (((l.el i).rows.el k).ratio+1)),max p.2 (enS l (runsS w).el h.flow (((l.el i).rows.el k).ratio+1))) (by omega) (by omega) hq
   simp only[q55,tkOut_ret,tkTup_t,tkCons_c,tkRow_r,tkInt_i,tkNil_n,mnE,mxE]
   exact e
  ·rw[dF (show ¬ (h.ratio.lo+1≤((l.el i).rows.el k).ratio+1∧((l.el i).rows.el k).ratio+1≤h.ratio.hi) by omega),pF]
   rw[if_neg h1,List.nil_append] at hq
   exact ih (k+1) fu p (by omega) (by omega) hq
theorem l75x0 (q:Int × Int) (hq2:(0≤q.1∧q.1≤18000000000)∧(0≤q.2∧q.2≤18000000000)):∀ (j i fu:Nat) (p:Int × Int),i+j=l.len→j<fu→costF (enS l (runsS w).el h.flow) p (ratM l h.ratio j i)=q →
 L75x0 (E F (d+9)) F l st w h fu (fun _=>eSpan h.ratio) l.nl l.len 10 (fun i=>eMach (l.el i)) l.len i .i64 p.1 .i64 p.2 (runsS w).nl (runsS w).len 1 (fun j=>eBool ((runsS w).el j)) (runsS w).nl (runsS w).len 1 (fun j=>eBool ((runsS w).el j)) (fun _=>eSpan h.ratio) (fun _=>[sl eMach 10 l])=some (.ret (.tup [.agg [.int .i64 (q.1+startE l w st.el l.len),.int .i64 (q.2+startE l w st.el l.len)],.int .i64 (startN w st.el l.len)])):=by
 have hll:=hl.2
 intro j
 induction j with
 |zero =>
  intro i fu p hij hf hq
  obtain⟨fu,rfl⟩:=ex1 (n:=fu) (by omega)
  simp only[ratM,costF,List.foldl_nil] at hq
  subst hq
  have e:=l75x2 F (d+8) hl hF hst hw hh p.1 p.2 hq2.1 hq2.2 l.len 0 F (by omega) (by omega)
  simp only[startE,startN,Int.add_zero] at e
  rw[L75x0s,dF (by omega),pF]
  exact e
 |succ j ih =>
  intro i fu p hij hf hq
  obtain⟨fu,rfl⟩:=ex1 (n:=fu) (by omega)
  have hml:=(hl.1 i (by omega)).2.2.1
  have e:=ih (i+1) fu (costF (enS l (runsS w).el h.flow) p (ratR (l.el i) h.ratio (l.el i).rows.len 0)) (by omega) (by omega) (by
   rw[← hq]
   unfold costF
   rw[ratM,List.foldl_append])
  rw[L75x0s]
  simp (disch:=omega) only[dT,decide_true,pT,tnC,show ((10:Nat)==10)=true from rfl,List.take,List.length,show ((0+1+1+1+1+1+1+1+1+1+1:Nat)==10)=true from rfl,tkCons_c,tkInt_i,tkBool_b,tkRow_r,tkNil_n]
  exact l75x1 F d hl hF hst hw hh fu i (by omega) _ _ e (l.el i).rows.len 0 F p (by omega) (by omega) rfl
theorem s75:(E F (d+10)).pf 66 [HV l st w h]=some (.ret (.tup [.agg [.int .i64 ((hourE l w h).1+startE l w st.el l.len),.int .i64 ((hourE l w h).2+startE l w st.el l.len)],.int .i64 (startN w st.el l.len)])):=by
 have hll:=hl.2
 have q90:(E F (d+9)).pf 125 [sl eMach 10 l,.agg (eSpan h.ratio)]=some (.ret (.fn (.func 174) [] [.rptr 1 2 (fun _=>eSpan h.ratio) 0 0,.rptr 1 1 (fun _=>[sl eMach 10 l]) 0 0])):=by
  rw[E_pf]
  exact t90 _ _ l h.ratio
 have q1:=s104 F (d+8) (st:=st) (h:=h) (by omega) hF hst hw (by omega)
 have q55:=s55 F d hl hF (runsS w) (show w.len=l.len from hw) h.flow h.ratio.lo hh.1
 have hen:=fun x=>enS_in hl (by omega) (r:=(runsS w).el) (x:=x) hh.1
 have hin:=costF_in hen (ratM l h.ratio l.len 0) (enS l (runsS w).el h.flow h.ratio.lo,enS l (runsS w).el h.flow h.ratio.lo) ⟨hen _,hen _⟩
 have e:=l75x0 F d hl hF hst hw hh (hourE l w h) hin l.len 0 F (enS l (runsS w).el h.flow h.ratio.lo,enS l (runsS w).el h.flow h.ratio.lo) (by omega) (by omega) rfl
 rw[E_pf,t75]
 simp only[q1,q90,tkOut_ret,tkFn_f,Nat.beq_refl,pT,tkNil_n,tkCons_c,tkPtr_p,Bool.and_self,tkInt_i,tkRow_r]
 simp only[q55,tkOut_ret,tkTup_t,tkCons_c,tkRow_r,tkInt_i,tkNil_n,ite_self]
 exact e
end
end Go.Sim.Pl

namespace Go.Sim.Pl
open Go.Sim.Le (cfg E E_pf E_hv names look)
open Go.Proofs
def stAt (l:Sl Mach) (sc:Nat→Sl Int):Nat→Nat→Sta
 |0=>fun i=>beginS (l.el i)
 |t+1=>fun i=>afterS (stAt l sc t i) (l.el i) ((sc t).el i)
theorem stAt_in {l:Sl Mach} (hl:PlantOk l) (sc:Nat→Sl Int) {i:Nat} (hi:i<l.len):∀ t:Nat,(0≤(stAt l sc t i).since∧(stAt l sc t i).since≤1000+t)∧(-t≤(stAt l sc t i).left∧(stAt l sc t i).left≤1000)∧0≤(stAt l sc t i).served∧(stAt l sc t i).served≤t
 |0=>by
  have:=(hl.1 i hi).2.2.2.2.2.2.2
  simp only[stAt,beginS]
  omega
 |t+1=>by
  have ih:=stAt_in hl sc hi t
  have:=(hl.1 i hi).2.2.2.2.2.2.2
  simp only[stAt,afterS]
  generalize stAt l sc t i=s at ih
  refine⟨?_,?_,?_⟩
  ·cases (((sc t).el i==1)==s.runs)<;>simp only[cond_true,cond_false]<;>omega
  ·cases ((sc t).el i==2 && s.served+1==(l.el i).service)<;>cases ((sc t).el i==1)<;>simp only[cond_true,cond_false]<;>omega
  ·cases ((sc t).el i==2)<;>simp only[cond_true,cond_false]<;>omega
theorem firstP_congr {p q:Nat→Bool}:∀ j i,(∀ k,i≤k→k<i+j→p k=q k)→firstP p j i=firstP q j i
 |0,_,_=>rfl
 |j+1,i,h=>by
  simp only[firstP]
  rw[h i (Nat.le_refl _) (by omega),firstP_congr j (i+1) fun k h1 h2=>h k (by omega) (by omega)]
theorem faultS_congr {l:Sl Mach} {st st':Nat→Sta} {w:Sl Int} {h:Hour} (e:∀ i,i<l.len→st i=st' i):faultS l st w h=faultS l st' w h:=by
 unfold faultS
 rw[firstP_congr (p:=fun i=>upB (l.el i) (st i) (w.el i)) (q:=fun i=>upB (l.el i) (st' i) (w.el i)) l.len 0 (fun k _ h2=>by rw[e k (by omega)])]
 rw[firstP_congr (p:=fun i=>downB (l.el i) (st i) (w.el i)) (q:=fun i=>downB (l.el i) (st' i) (w.el i)) l.len 0 (fun k _ h2=>by rw[e k (by omega)])]
 rw[firstP_congr (p:=fun i=>cutB (l.el i) (st i) (w.el i)) (q:=fun i=>cutB (l.el i) (st' i) (w.el i)) l.len 0 (fun k _ h2=>by rw[e k (by omega)])]
 rw[firstP_congr (p:=fun i=>wornB (l.el i) (st i) (w.el i)) (q:=fun i=>wornB (l.el i) (st' i) (w.el i)) l.len 0 (fun k _ h2=>by rw[e k (by omega)])]
theorem start_congr {l:Sl Mach} {w:Sl Int} {st st':Nat→Sta}:∀ n,(∀ i,i<n→st i=st' i)→startE l w st n=startE l w st' n∧startN w st n=startN w st' n
 |0,_=>⟨rfl,rfl⟩
 |n+1,e=>by
  have ih:=start_congr (l:=l) (w:=w) n fun i hi=>e i (by omega)
  have hb:startB w st n=startB w st' n:=by unfold startB;rw[e n (by omega)]
  simp only[startE,startN]
  rw[ih.1,ih.2,hb]
  exact⟨rfl,rfl⟩
structure Ply where
 hour:Int
 rule:Int
 of:Int
 lo:Int
 hi:Int
 many:Int
def playR (l:Sl Mach) (hs:Nat→Hour) (sc:Nat→Sl Int):Nat→Nat→Int→Int→Int→Ply
 |0,_,lo,hi,n=>⟨0,1,0,lo,hi,n⟩
 |j+1,t,lo,hi,n=>if (faultS l (stAt l sc t) (sc t) (hs t)).1 ≠ 1 then ⟨t,(faultS l (stAt l sc t) (sc t) (hs t)).1,(faultS l (stAt l sc t) (sc t) (hs t)).2,0,0,0⟩
  else playR l hs sc j (t+1) (lo+((hourE l (sc t) (hs t)).1+startE l (sc t) (stAt l sc t) l.len)) (hi+((hourE l (sc t) (hs t)).2+startE l (sc t) (stAt l sc t) l.len)) (n+startN (sc t) (stAt l sc t) l.len)
def playS (l:Sl Mach) (hs:Sl Hour) (sc:Sl (Sl Int)):Ply:=playR l hs.el sc.el hs.len 0 0 0 0
def errA (l:Sl Mach) (hs:Sl Hour):Int:=if hs.len>24 then 3 else if PlantOk l∧HoursOk hs then 0 else 2
def errS (l:Sl Mach) (hs:Sl Hour) (sc:Sl (Sl Int)):Int:=if hs.len>24 then 3 else if PlantOk l∧HoursOk hs∧SchedOk l hs.len sc then 0 else 2
theorem hourE_in {l:Sl Mach} (hl:PlantOk l) {w:Sl Int} {h:Hour} (hh:HourOk h):(0≤(hourE l w h).1∧(hourE l w h).1≤18000000000)∧(0≤(hourE l w h).2∧(hourE l w h).2≤18000000000):=by
 have hen:=fun x=>enS_in hl (by omega) (r:=(runsS w).el) (x:=x) hh.1
 exact costF_in hen (ratM l h.ratio l.len 0) (enS l (runsS w).el h.flow h.ratio.lo,enS l (runsS w).el h.flow h.ratio.lo) ⟨hen _,hen _⟩
variable (F d:Nat)
section
variable {l:Sl Mach} (hl:PlantOk l) {hs:Sl Hour} (hh:HoursOk hs) (h24:hs.len≤24) {sc:Sl (Sl Int)} (hsc:SchedOk l hs.len sc) (hF:1000<F)
include hl hh h24 hsc hF
theorem l61:∀ (j t fu:Nat) (lo hi n:Int),t+j=hs.len→j<fu→(0≤lo∧lo≤100000000000*t)→(0≤hi∧hi≤100000000000*t)→(0≤n∧n≤1000*t) →
 L61x0 (E F (d+10)) F l hs sc fu false l.len 5 (fun j=>eSta ((rowS (stAt l sc.el t) l.len).el j)) n t lo hi=some (.ret (.tup [.agg [.int .i64 (playR l hs.el sc.el j t lo hi n).hour,.int .i64 (playR l hs.el sc.el j t lo hi n).rule,.int .i64 (playR l hs.el sc.el j t lo hi n).of],.agg [.int .i64 (playR l hs.el sc.el j t lo hi n).lo,.int .i64 (playR l hs.el sc.el j t lo hi n).hi],.int .i64 (playR l hs.el sc.el j t lo hi n).many])):=by
 have hl2:=hl.2
 have hscl:=hsc.2
 intro j
 induction j with
 |zero =>
  intro t fu lo hi n h hf h1 h2 h3
  obtain⟨fu,rfl⟩:=ex1 (n:=fu) (by omega)
  rw[L61x0s,dF (by omega),pF]
  rfl
 |succ j ih =>
  intro t fu lo hi n h hf h1 h2 h3
  obtain⟨fu,rfl⟩:=ex1 (n:=fu) (by omega)
  have hS':IntKind.i64.wrap ((t:Int)+1)=((t+1:Nat):Int):=wrS (by omega)
  have hw:=(hsc.1 t (by omega)).1
  have hho:=hh t (by omega)
  have hel:∀ i,i<l.len→(rowS (stAt l sc.el t) l.len).el i=stAt l sc.el t i:=fun i hi=>rowT_el hi
  have q73:=s73 F (d+5) (st:=rowS (stAt l sc.el t) l.len) hl hF rfl hw hho
  have q75:=s75 F d (st:=rowS (stAt l sc.el t) l.len) hl hF rfl hw hho
  have q74:=s74 F (d+8) (st:=rowS (stAt l sc.el t) l.len) (h:=hs.el t) (show l.len≤1000 by omega) hF rfl hw (fun i hi=>by
   have:=stAt_in hl sc.el hi t
   rw[hel i hi]
   exact⟨by omega,by omega,by omega⟩) (by omega)
  have hcg:rowS (fun i=>afterS ((rowS (stAt l sc.el t) l.len).el i) (l.el i) ((sc.el t).el i)) l.len=rowS (stAt l sc.el (t+1)) l.len:=rowT_congr fun i hi=>by
   show afterS _ _ _=afterS _ _ _
   rw[hel i hi]
  rw[hcg] at q74
  rw[faultS_congr hel] at q73
  rw[(start_congr (l:=l) (w:=sc.el t) l.len hel).1,(start_congr (l:=l) (w:=sc.el t) l.len hel).2] at q75
  have hE:=hourE_in hl (w:=sc.el t) hho
  have hN:=startE_in F hl (st:=rowS (stAt l sc.el t) l.len) hF rfl hw hho (stAt l sc.el t) l.len (by omega)
  have e:=ih (t+1) fu (lo+((hourE l (sc.el t) (hs.el t)).1+startE l (sc.el t) (stAt l sc.el t) l.len)) (hi+((hourE l (sc.el t) (hs.el t)).2+startE l (sc.el t) (stAt l sc.el t) l.len)) (n+startN (sc.el t) (stAt l sc.el t) l.len) (by omega) (by omega) (by omega) (by omega) (by omega)
  rw[L61x0s]
  have q73':(E F (d+10)).pf 65 [.rptr 1 6 (fun _=>[sl eMach 10 l,.row false l.len 5 (fun j=>eSta ((rowS (stAt l sc.el t) l.len).el j)),sl eInt 1 (sc.el t),.int .i64 (hs.el t).flow,.int .i64 (hs.el t).ratio.lo,.int .i64 (hs.el t).ratio.hi]) 0 0]=_:=q73
  have q75':(E F (d+10)).pf 66 [.rptr 1 6 (fun _=>[sl eMach 10 l,.row false l.len 5 (fun j=>eSta ((rowS (stAt l sc.el t) l.len).el j)),sl eInt 1 (sc.el t),.int .i64 (hs.el t).flow,.int .i64 (hs.el t).ratio.lo,.int .i64 (hs.el t).ratio.hi]) 0 0]=_:=q75
  have q74':(E F (d+10)).pf 67 [.rptr 1 6 (fun _=>[sl eMach 10 l,.row false l.len 5 (fun j=>eSta ((rowS (stAt l sc.el t) l.len).el j)),sl eInt 1 (sc.el t),.int .i64 (hs.el t).flow,.int .i64 (hs.el t).ratio.lo,.int .i64 (hs.el t).ratio.hi]) 0 0]=_:=q74
  simp (disch:=omega) only[dT,decide_true,pT,tnC,hS',q73',tkOut_ret,tkTup_t,tkCons_c,tkInt_i,tkNil_n]
  simp only[playR]
  by_cases hr:(faultS l (stAt l sc.el t) (sc.el t) (hs.el t)).1=1
  ·rw[if_neg (fun hh=>hh hr),show ((faultS l (stAt l sc.el t) (sc.el t) (hs.el t)).1 != 1)=false by simp[hr],pF]
   simp (disch:=omega) only[q75',q74',tkOut_ret,tkTup_t,tkCons_c,tkAgg_a,tkInt_i,tkNil_n,decide_true,pT,tkRow_r,wr]
   exact e
  ·rw[if_pos hr,show ((faultS l (stAt l sc.el t) (sc.el t) (hs.el t)).1 != 1)=true by simp[hr],pT]
theorem s61:(E F (d+11)).pf 32 [sl eMach 10 l,sl eHour 3 hs,sl eIL 1 sc]=some (.ret (.tup [.agg [.int .i64 (playS l hs sc).hour,.int .i64 (playS l hs sc).rule,.int .i64 (playS l hs sc).of],.agg [.int .i64 (playS l hs sc).lo,.int .i64 (playS l hs sc).hi],.int .i64 (playS l hs sc).many])):=by
 have hl2:=hl.2
 have q:=s76 F (d+8) l (by omega) hF (by omega)
 have e:=l61 F d hl hh h24 hsc hF hs.len 0 F 0 0 0 (by omega) (by omega) (by omega) (by omega) (by omega)
 rw[E_pf,t61]
 simp only[q,tkOut_ret,tkRow_r]
 exact e
end
theorem s96 (a:Int) (h:Hour):(E F (d+2)).pf 116 [.int .i64 a,.agg (eHour h)]=some (.ret (.bool (decide (HourOk h)))):=by
 have q1:=s52 F d h.flow 0 1000000
 have q2:=s53 F d h.ratio
 rw[E_pf,t96]
 simp only[q1,q2,tkOut_ret,tkBool_b,cAnd]
 exact b3 (b2 (by simp only[Bool.and_eq_true,decide_eq_true_iff]))
theorem l95 (hs:Sl Hour) (hB:hs.len<Big):∀ j i fu,i+j=hs.len→j<fu →
 L95x0 (E F (d+2)) F hs fu i=some (.ret (.bool (allF (fun i=>decide (HourOk (hs.el i))) j i))):=by
 intro j
 induction j with
 |zero =>
  intro i fu h hf
  obtain⟨fu,rfl⟩:=ex1 (n:=fu) (by omega)
  rw[L95x0s,dF (by omega),pF];rfl
 |succ j ih =>
  intro i fu h hf
  obtain⟨fu,rfl⟩:=ex1 (n:=fu) (by omega)
  have hB':hs.len<4611686018427387904:=hB
  have hS:=wrS (i:=i) (by omega)
  have e:=s96 F d i (hs.el i)
  rw[L95x0s]
  simp (disch:=omega) only[dT,decide_true,pT,tnC,hS,e,tkOut_ret,tkBool_b,ih (i+1) fu (by omega) (by omega),allF,cStep]
theorem s95 (hs:Sl Hour) (hB:hs.len<Big) (hF:hs.len<F):(E F (d+3)).pf 115 [sl eHour 3 hs,.fn (.func 116) [] []]=some (.ret (.bool (decide (HoursOk hs)))):=by
 rw[E_pf,t95]
 refine Eq.trans (l95 F d hs hB hs.len 0 F (by omega) hF) (b3 (b2 ?_))
 rw[allF_dec]
 simp only[decide_eq_true_iff]
theorem l93 (w:Sl Int) (hB:w.len<Big):∀ j i fu,i+j=w.len→j<fu →
 L93x0 (E F (d+1)) F w fu i=some (.ret (.bool (allF (fun i=>decide (0≤w.el i∧w.el i≤2)) j i))):=by
 intro j
 induction j with
 |zero =>
  intro i fu h hf
  obtain⟨fu,rfl⟩:=ex1 (n:=fu) (by omega)
  rw[L93x0s,dF (by omega),pF];rfl
 |succ j ih =>
  intro i fu h hf
  obtain⟨fu,rfl⟩:=ex1 (n:=fu) (by omega)
  have hB':w.len<4611686018427387904:=hB
  have hS:=wrS (i:=i) (by omega)
  have e:(E F (d+1)).pf 63 [.int .i64 i,.int .i64 (w.el i)]=some (.ret (.bool (decide (0≤w.el i∧w.el i≤2)))):=by
   rw[E_pf,t94];simp only[cAnd,Bool.decide_and,ge_iff_le]
  rw[L93x0s]
  simp (disch:=omega) only[dT,decide_true,pT,tnC,hS,e,tkOut_ret,tkBool_b,ih (i+1) fu (by omega) (by omega),allF,cStep]
theorem s92 (a:Int) (w:Sl Int) (l:Sl Mach) (hB:w.len<Big) (hF:w.len<F):(E F (d+3)).pf 61 [.int .i64 a,sl eInt 1 w,.rptr 1 1 (fun _=>[sl eMach 10 l]) 0 0]=some (.ret (.bool (decide (DoesOk l.len w)))):=by
 have q:(E F (d+2)).pf 62 [sl eInt 1 w,.fn (.func 63) [] []]=some (.ret (.bool (allF (fun i=>decide (0≤w.el i∧w.el i≤2)) w.len 0))):=by
  rw[E_pf,t93]
  exact l93 F d w hB w.len 0 F (by omega) hF
 rw[E_pf,t92]
 simp only[q,tkOut_ret,tkBool_b,cAnd]
 refine b3 (b2 ?_)
 rw[allF_dec]
 simp only[Bool.and_eq_true,decide_eq_true_iff,beq_iff_eq,Int.natCast_inj]
 constructor
 ·rintro⟨h1,h2⟩;exact⟨h1,fun i hi=>h2 i (by omega)⟩
 ·rintro⟨h1,h2⟩;exact⟨h1,fun i hi=>h2 i (by omega)⟩
theorem l91 (sc:Sl (Sl Int)) (l:Sl Mach) (hB:sc.len<Big) (hR:∀ i,i<sc.len→(sc.el i).len<Big∧(sc.el i).len<F):∀ j i fu,i+j=sc.len→j<fu →
 L91x0 (E F (d+3)) F sc l fu i=some (.ret (.bool (allF (fun i=>decide (DoesOk l.len (sc.el i))) j i))):=by
 intro j
 induction j with
 |zero =>
  intro i fu h hf
  obtain⟨fu,rfl⟩:=ex1 (n:=fu) (by omega)
  rw[L91x0s,dF (by omega),pF];rfl
 |succ j ih =>
  intro i fu h hf
  obtain⟨fu,rfl⟩:=ex1 (n:=fu) (by omega)
  have hB':sc.len<4611686018427387904:=hB
  have hS:=wrS (i:=i) (by omega)
  have hr:=hR i (by omega)
  have e:=s92 F d i (sc.el i) l hr.1 hr.2
  rw[L91x0s]
  simp (disch:=omega) only[dT,decide_true,pT,tnC,hS,e,tkOut_ret,tkBool_b,ih (i+1) fu (by omega) (by omega),allF,cStep]
abbrev SchB (sc:Sl (Sl Int)) (F:Nat):Prop:=(sc.len<Big∧sc.len<F)∧∀ i,i<sc.len→(sc.el i).len<Big∧(sc.el i).len<F
abbrev InB (l:Sl Mach) (hs:Sl Hour) (F:Nat):Prop:=(l.len<Big∧l.len<F)∧RowsB l F∧hs.len<Big∧hs.len<F
theorem s69 (l:Sl Mach) (hs:Sl Hour) (hB:InB l hs F):(E F (d+8)).pf 59 [sl eMach 10 l,sl eHour 3 hs]=some (.ret (.int .i64 (errA l hs))):=by
 have q1:=s80 F d l hB.1.1 hB.1.2 hB.2.1
 have q2:=s95 F (d+4) hs hB.2.2.1 hB.2.2.2
 rw[E_pf,t69]
 unfold errA
 by_cases h1:hs.len>24
 ·rw[if_pos h1,dT (by omega),pT]
 ·rw[if_neg h1,dF (by omega),pF]
  simp only[q1,tkOut_ret,tkBool_b]
  by_cases h2:PlantOk l
  ·rw[dT h2,Bool.not_true,pF]
   simp only[q2,tkOut_ret,tkBool_b]
   by_cases h3:HoursOk hs
   ·rw[dT h3,Bool.not_true,pF,if_pos ⟨h2,h3⟩]
   ·rw[dF h3,Bool.not_false,pT,if_neg (fun h=>h3 h.2)]
  ·rw[dF h2,Bool.not_false,pT,if_neg (fun h=>h2 h.1)]
theorem s60 (l:Sl Mach) (hs:Sl Hour) (sc:Sl (Sl Int)) (hB:InB l hs F) (hS:SchB sc F):(E F (d+9)).pf 31 [sl eMach 10 l,sl eHour 3 hs,sl eIL 1 sc]=some (.ret (.int .i64 (errS l hs sc))):=by
 have q1:=s69 F d l hs hB
 have q2:(E F (d+8)).pf 60 [sl eIL 1 sc,.fn (.func 61) [] [.rptr 1 1 (fun _=>[sl eMach 10 l]) 0 0]]=some (.ret (.bool (allF (fun i=>decide (DoesOk l.len (sc.el i))) sc.len 0))):=by
  rw[E_pf,t91]
  exact l91 F (d+4) sc l hS.1.1 hS.2 sc.len 0 F (by omega) hS.1.2
 rw[allF_dec] at q2
 rw[E_pf,t60]
 simp only[q1,tkOut_ret,tkInt_i,decide_true,pT]
 unfold errA errS
 by_cases h1:hs.len>24
 ·rw[if_pos h1,if_pos h1];rfl
 ·rw[if_neg h1,if_neg h1]
  by_cases h2:PlantOk l∧HoursOk hs
  ·rw[if_pos h2,show ((0:Int) != 0)=false from rfl,pF]
   by_cases h3:sc.len=hs.len
   ·rw[show (((sc.len:Nat):Int) != ((hs.len:Nat):Int))=false by simp[h3],pF]
    simp only[q2,tkOut_ret,tkBool_b]
    by_cases h4:∀ i,i<sc.len→decide (DoesOk l.len (sc.el i))=true
    ·rw[dT h4,Bool.not_true,pF,if_pos ⟨h2.1,h2.2,fun i hi=>of_decide_eq_true (h4 i hi),h3⟩]
    ·rw[dF h4,Bool.not_false,pT,if_neg (fun h=>h4 fun i hi=>dT (h.2.2.1 i hi))]
   ·rw[show (((sc.len:Nat):Int) != ((hs.len:Nat):Int))=true by simp;omega,pT,if_neg (fun h=>h3 h.2.2.2)]
  ·rw[if_neg h2,if_neg (fun h=>h2 ⟨h.1,h.2.1⟩)];rfl
theorem errS_0 {l:Sl Mach} {hs:Sl Hour} {sc:Sl (Sl Int)} (h:errS l hs sc=0):PlantOk l∧HoursOk hs∧hs.len≤24∧SchedOk l hs.len sc:=by
 unfold errS at h
 split at h
 ·omega
 ·rename_i h1
  split at h
  ·rename_i h2
   exact⟨h2.1,h2.2.1,by omega,h2.2.2⟩
  ·omega
theorem s32 (l:Sl Mach) (hs:Sl Hour) (sc:Sl (Sl Int)) (hF:1000<F) (hB:InB l hs F) (hS:SchB sc F):(E F (d+12)).pf 10 [sl eMach 10 l,sl eHour 3 hs,sl eIL 1 sc]=some (.ret (.tup (if errS l hs sc=0 then [.agg [.int .i64 (playS l hs sc).hour,.int .i64 (playS l hs sc).rule,.int .i64 (playS l hs sc).of],.int .i64 0] else [.agg [.int .i64 0,.int .i64 0,.int .i64 0],.int .i64 (errS l hs sc)]))):=by
 have q1:=s60 F (d+2) l hs sc hB hS
 rw[E_pf,t32]
 simp only[q1,tkOut_ret,tkInt_i,decide_true,pT]
 by_cases h:errS l hs sc=0
 ·have h0:=errS_0 h
  have q2:=s61 F d h0.1 h0.2.1 h0.2.2.1 h0.2.2.2 hF
  rw[if_pos h,h,show ((0:Int) != 0)=false from rfl,pF]
  simp only[q2,tkOut_ret,tkTup_t,tkCons_c,tkAgg_a,tkInt_i,tkNil_n]
 ·rw[if_neg h,show (errS l hs sc != 0)=true by simp[h],pT]
end Go.Sim.Pl

namespace Go.Sim.Pl
open Go.Sim.Le (cfg E E_pf E_hv names look)
open Go.Proofs
variable (F d:Nat)
theorem l35 (w:Sl Int) (hB:w.len≤1000):∀ j i fu,i+j=w.len→j<fu→0<i →
 L35x1 (E F d) F w fu i i i (gl eBool false (tabL (fun i=>w.el i==1) i))=some (.ret (sl eBool 1 (runsS w))):=by
 intro j
 induction j with
 |zero =>
  intro i fu h hf h0
  obtain⟨fu,rfl⟩:=ex1 (n:=fu) (by omega)
  have hi:i=w.len:=by omega
  subst hi
  rw[L35x1s,dF (by omega),pF]
  rfl
 |succ j ih =>
  intro i fu h hf h0
  obtain⟨fu,rfl⟩:=ex1 (n:=fu) (by omega)
  have hS':IntKind.i64.wrap ((i:Int)+1)=((i+1:Nat):Int):=wrS (by omega)
  have e:=ih (i+1) fu (by omega) (by omega) (by omega)
  rw[tabL_S,← gl_snoc (e:=eBool) (z:=false) (k:=i) (tabL_len _ _) rfl] at e
  rw[L35x1s]
  simp (disch:=omega) only[dT,pT,tnC,hS']
  exact e
theorem s35 (w:Sl Int) (hB:w.len≤1000) (hF:1000<F) (h0:0<w.len):(E F (d+1)).pf 12 [sl eInt 1 w]=some (.ret (sl eBool 1 (runsS w))):=by
 obtain⟨F,rfl⟩:=ex1 (n:=F) (by omega)
 have e:=l35 (F+1) d w hB (w.len - 1) 1 F (by omega) (by omega) (by omega)
 rw[show tabL (fun i=>w.el i==1) 1=[w.el 0==1] from rfl,← gl_one (e:=eBool) (z:=false) rfl] at e
 rw[E_pf,t35,L35x0s]
 rw[show IntKind.i64.wrap ((0:Int)+1)=((1:Nat):Int) by rw[wr (by omega)];rfl]
 simp (disch:=omega) only[dT,pT]
 exact e
section
variable {l:Sl Mach} (hl:PlantOk l) {sc:Sl (Sl Int)} {n:Nat} (hn:n≤24) (hsc:SchedOk l n sc) (hF:1000<F) {a:Nat} (ha:a<l.len)
include hl hn hsc hF ha
end
theorem l40 (hs:Sl Hour) (hB:hs.len<Big):∀ j i fu,i+j=hs.len→j<fu →
 L40x0 (E F (d+2)) F hs fu i=some (.ret (.bool (allF (fun i=>decide (HourOk (hs.el i))) j i))):=by
 intro j
 induction j with
 |zero =>
  intro i fu h hf
  obtain⟨fu,rfl⟩:=ex1 (n:=fu) (by omega)
  rw[L40x0s,dF (by omega),pF];rfl
 |succ j ih =>
  intro i fu h hf
  obtain⟨fu,rfl⟩:=ex1 (n:=fu) (by omega)
  have hB':hs.len<4611686018427387904:=hB
  have hS:=wrS (i:=i) (by omega)
  have q1:=s56 F d (hs.el i).flow
  have q2:=s27 F (d+1) (hs.el i).ratio
  rw[L40x0s]
  simp (disch:=omega) only[dT,pT,tnC,hS,q1,q2,tkOut_ret,tkBool_b,ih (i+1) fu (by omega) (by omega),allF,cStep]
  refine b3 ?_
  rw[show decide (HourOk (hs.el i))=(decide (FlowOk (hs.el i).flow) && decide (RatioOk (hs.el i).ratio)) from Bool.decide_and _ _,Bool.and_assoc]
theorem s40 (hs:Sl Hour) (hB:hs.len<Big) (hF:hs.len<F):(E F (d+3)).pf 6 [sl eHour 3 hs]=some (.ret (.bool (decide (HoursOk hs)))):=by
 rw[E_pf,t40]
 refine Eq.trans (l40 F d hs hB hs.len 0 F (by omega) hF) (b3 (b2 ?_))
 rw[allF_dec]
 simp only[decide_eq_true_iff]
theorem l44x1 (l:Sl Mach) (nn:Int) (sc:Sl (Sl Int)) (hB:l.len<Big) (m0 i:Nat) (hi:i<sc.len) (hw:(sc.el i).len=l.len) (b:Bool) (K:L44x0 (E F d) F l nn sc m0 (IntKind.i64.wrap ((i:Int)+1))=some (.ret (.bool b))):∀ j k fu,k+j=l.len→j<fu →
 L44x1 (E F d) F l nn sc m0 fu i k=some (.ret (.bool (allF (fun k=>decide (0≤(sc.el i).el k∧(sc.el i).el k≤2)) j k && b))):=by
 intro j
 induction j with
 |zero =>
  intro k fu h hf
  obtain⟨fu,rfl⟩:=ex1 (n:=fu) (by omega)
  rw[L44x1s,dF (by omega),pF,K];rfl
 |succ j ih =>
  intro k fu h hf
  obtain⟨fu,rfl⟩:=ex1 (n:=fu) (by omega)
  have hB':l.len<4611686018427387904:=hB
  have hS:=wrS (i:=k) (by omega)
  rw[L44x1s]
  simp (disch:=omega) only[dT,pT,tnC,hS,ih (k+1) fu (by omega) (by omega),allF]
  by_cases h1:(sc.el i).el k<0
  ·rw[dT h1,pT,dF (by omega)];rfl
  ·rw[dF h1,pF]
   by_cases h2:(sc.el i).el k>2
   ·rw[dT h2,pT,dF (by omega)];rfl
   ·rw[dF h2,pF,dT (by omega)];rfl
theorem does_dec (n:Nat) (w:Sl Int):decide (DoesOk n w)=(decide (w.len=n) && allF (fun k=>decide (0≤w.el k∧w.el k≤2)) n 0):=by
 refine b2 ?_
 rw[allF_dec]
 simp only[Bool.and_eq_true,decide_eq_true_iff]
theorem l44x0 (l:Sl Mach) (nn:Int) (sc:Sl (Sl Int)) (hB:l.len<Big) (hF:l.len<F) (hS:sc.len<Big):∀ j i fu,i+j=sc.len→j<fu →
 L44x0 (E F d) F l nn sc fu i=some (.ret (.bool (allF (fun i=>decide (DoesOk l.len (sc.el i))) j i && decide ((sc.len:Int)=nn)))):=by
 intro j
 induction j with
 |zero =>
  intro i fu h hf
  obtain⟨fu,rfl⟩:=ex1 (n:=fu) (by omega)
  rw[L44x0s,dF (by omega),pF]
  refine b3 (b2 ?_)
  simp only[allF,Bool.true_and,beq_iff_eq,decide_eq_true_iff]
 |succ j ih =>
  intro i fu h hf
  obtain⟨fu,rfl⟩:=ex1 (n:=fu) (by omega)
  have hB':sc.len<4611686018427387904:=hS
  have hS2:=wrS (i:=i) (by omega)
  rw[L44x0s]
  simp (disch:=omega) only[dT,pT,tnC,allF,does_dec]
  by_cases h1:(sc.el i).len=l.len
  ·rw[show (((sc.el i).len:Int) != (l.len:Int))=false by simp[h1],pF,dT h1,Bool.true_and,Bool.and_assoc]
   refine l44x1 F d l nn sc hB fu i (by omega) h1 _ ?_ l.len 0 F (by omega) (by omega)
   rw[hS2]
   have e:=ih (i+1) fu (by omega) (by omega)
   simp only[does_dec] at e
   exact e
  ·rw[show (((sc.el i).len:Int) != (l.len:Int))=true by simp;omega,pT,dF h1];rfl
theorem s44 (l:Sl Mach) (n:Nat) (sc:Sl (Sl Int)) (hB:l.len<Big) (hF:l.len<F) (hS:SchB sc F):(E F (d+1)).pf 7 [sl eMach 10 l,.int .i64 n,sl eIL 1 sc]=some (.ret (.bool (decide (SchedOk l n sc)))):=by
 rw[E_pf,t44]
 refine Eq.trans (l44x0 F d l n sc hB hF hS.1.1 sc.len 0 F (by omega) hS.1.2) (b3 (b2 ?_))
 rw[allF_dec]
 simp only[Bool.and_eq_true,decide_eq_true_iff,Int.natCast_inj]
end Go.Sim.Pl

namespace Go.Sim.Pl
open Go.Sim.Le (cfg E E_pf E_hv names look)
open Go.Proofs
variable (F d:Nat)
section
variable {l:Sl Mach} (hl:PlantOk l) {hs:Sl Hour} (hh:HoursOk hs) {sc:Sl (Sl Int)} (hn:hs.len≤24) (hsc:SchedOk l hs.len sc) (hF:1000<F) {t:Nat} (ht:t<hs.len)
include hl hh hn hsc hF ht
section
variable {i:Nat} (hi:i<l.len) (m0 m1 k1 k2 k3 k4 k5:Nat) (b6:Bool) (c1 c2 c3 c4 c5:Nat) (g1 g2 g3 g4 g5:Nat→List V) (R:Option Out)
include hi
end
end
end Go.Sim.Pl

namespace Go.Sim.Pl
open Go.Sim.Le (cfg E E_pf E_hv names look)
open Go.Proofs
variable (F d:Nat)
section
variable {l:Sl Mach} (hl:PlantOk l) {hs:Sl Hour} (hh:HoursOk hs) {sc:Sl (Sl Int)} (hn:hs.len≤24) (hsc:SchedOk l hs.len sc) (hF:1000<F) {t:Nat} (ht:t<hs.len)
include hl hh hn hsc hF ht
end
section
variable {l:Sl Mach} (hl:PlantOk l) {hs:Sl Hour} (hh:HoursOk hs) {sc:Sl (Sl Int)} (hn:hs.len≤24) (hsc:SchedOk l hs.len sc) (hF:1000<F)
include hl hh hn hsc hF
end
theorem firstP_none {p:Nat→Bool}:∀ j i,firstP p j i=none→∀ k,i≤k→k<i+j→p k=false
 |0,i,_,k,h1,h2=>by omega
 |j+1,i,h,k,h1,h2=>by
  simp only[firstP] at h
  cases hp:p i with
  |true=>rw[hp,cond_true] at h;cases h
  |false =>
   rw[hp,cond_false] at h
   rcases Nat.eq_or_lt_of_le h1 with rfl | h3
   ·exact hp
   ·exact firstP_none j (i+1) h k (by omega) (by omega)
theorem fault_fine {l:Sl Mach} {st:Nat→Sta} {w:Sl Int} {h:Hour} (e:(faultS l st w h).1=1) :
 (∀ i,i<l.len→upB (l.el i) (st i) (w.el i)=false∧downB (l.el i) (st i) (w.el i)=false∧cutB (l.el i) (st i) (w.el i)=false∧crewB w.el i=false∧wornB (l.el i) (st i) (w.el i)=false)∧shortest l (runsS w).el h.flow h.ratio=0:=by
 unfold faultS at e
 split at e
 ·simp at e
 ·rename_i h1
  split at e
  ·simp at e
  ·rename_i h2
   split at e
   ·simp at e
   ·rename_i h3
    split at e
    ·simp at e
    ·rename_i h4
     split at e
     ·simp at e
     ·rename_i h5
      split at e
      ·simp at e
      ·rename_i h6
       refine⟨fun i hi=>⟨?_,?_,?_,?_,?_⟩,by omega⟩
       ·exact firstP_none _ _ h1 i (by omega) (by omega)
       ·exact firstP_none _ _ h2 i (by omega) (by omega)
       ·exact firstP_none _ _ h3 i (by omega) (by omega)
       ·exact firstP_none _ _ h4 i (by omega) (by omega)
       ·exact firstP_none _ _ h5 i (by omega) (by omega)
end Go.Sim.Pl

namespace Go.Sim.Pl
open Go.Sim.Le (cfg E E_pf E_hv names look)
open Go.Proofs
def digG:Nat→Int→(Nat→Int)→Nat→Int
 |0,_,g=>g
 |j+1,x,g=>digG j (x.tdiv 3) (fun k=>if k=j then x.tmod 3 else g k)
def digF (a:Int) (n:Nat):Nat→Int:=digG n a fun _=>0
abbrev wayS (n:Nat) (a:Int):Sl Int:=⟨false,n,digF a n⟩
variable (F d:Nat)
end Go.Sim.Pl

namespace Go.Sim.Pl
open Go.Sim.Le (cfg E E_pf E_hv names look)
open Go.Proofs
structure Bst where
 energy:Int
 starts:Int
 way:Option Int
 right:Bool
def bYes:Bst:=⟨0,0,none,true⟩
def bNo:Bst:=⟨0,0,none,false⟩
def nextS (l:Sl Mach) (st:Nat→Sta) (w:Sl Int):Nat→Sta:=fun i=>afterS (st i) (l.el i) (w.el i)
def addB (l:Sl Mach) (h:Hour) (st:Nat→Sta) (r:Bst) (a:Int):Bst :=
 ⟨(hourE l (wayS l.len a) h).2+startE l (wayS l.len a) st l.len+r.energy,startN (wayS l.len a) st l.len+r.starts,some a,true⟩
def takeB (o x:Bst):Bst:=if o.right=false∨x.energy<o.energy∨x.energy=o.energy∧x.starts<o.starts then x else o
def stepB (l:Sl Mach) (h:Hour) (st:Nat→Sta) (rest:(Nat→Sta)→Bst) (o:Bst) (a:Int):Bst :=
 if (faultS l st (wayS l.len a) h).1 ≠ 1 then o
 else if (rest (nextS l st (wayS l.len a))).right=false then o
 else takeB o (addB l h st (rest (nextS l st (wayS l.len a))) a)
def waysB (l:Sl Mach) (h:Hour) (st:Nat→Sta) (rest:(Nat→Sta)→Bst):Nat→Int→Bst→Bst
 |0,_,o=>o
 |j+1,a,o=>waysB l h st rest j (a+1) (stepB l h st rest o a)
def bst (l:Sl Mach) (hs:Nat→Hour):Nat→Nat→(Nat→Sta)→Bst
 |0,_,_=>bYes
 |j+1,t,st=>waysB l (hs t) st (bst l hs j (t+1)) (3 ^ l.len) 0 bNo
end Go.Sim.Pl

namespace Go.Sim.Pl
open Go.Sim.Le (cfg E E_pf E_hv names look)
open Go.Proofs
end Go.Sim.Pl

namespace Go.Sim.Pl
open Go.Sim.Le (cfg E E_pf E_hv names look)
open Go.Proofs
variable (F:Nat)
section
variable {l:Sl Mach} (hl:PlantOk l) {hs:Sl Hour} (hh:HoursOk hs) (h24:hs.len≤24) (hF:1000<F)
include hl hh h24 hF
end
end Go.Sim.Pl

namespace Go.Sim.Pl
open Go.Sim.Le (cfg E E_pf E_hv names look)
open Go.Proofs
def cntS (W:Nat):Nat→Nat
 |0=>0
 |j+1=>W*cntS W j+1
variable (F:Nat)
section
variable {l:Sl Mach} (hl:PlantOk l) {hs:Sl Hour} (hh:HoursOk hs) (h24:hs.len≤24) (hF:1000<F)
include hl hh h24 hF
end
end Go.Sim.Pl

namespace Go.Sim.Pl
open Go.Sim.Le (cfg E E_pf E_hv names look)
open Go.Proofs
variable (F d:Nat)
section
variable {l:Sl Mach} (hl:PlantOk l) {hs:Sl Hour} (hh:HoursOk hs) (h24:hs.len≤24) (hF:1000<F) (hC:30*cntS (3 ^ l.len) hs.len<1000000000000)
include hl hh h24 hF hC
end
end Go.Sim.Pl

namespace Go.Sim.Pl
open Go.Sim.Le (cfg E E_pf E_hv names look)
open Go.Proofs
def beginF (l:Sl Mach):Nat→Sta:=fun i=>beginS (l.el i)
def bestS (l:Sl Mach) (hs:Sl Hour):Bst:=bst l hs.el hs.len 0 (beginF l)
variable (F d:Nat)
section
variable {l:Sl Mach} (hl:PlantOk l) {hs:Sl Hour} (hh:HoursOk hs) (h24:hs.len≤24) (hF:1000<F) (hC:30*cntS (3 ^ l.len) hs.len<1000000000000)
include hl hh h24 hF hC
end
end Go.Sim.Pl

namespace Go.Sim.Pl
open Go.Sim.Le (cfg E E_pf E_hv names look)
open Go.Proofs
end Go.Sim.Pl

namespace Go.Sim.Pl
open Go.Sim.Le (cfg E E_pf E_hv names look)
open Go.Proofs
abbrev SameW (a b:Sl Int):Prop:=a.len=b.len∧∀ k,k<a.len→a.el k=b.el k
abbrev SameSc (a b:Sl (Sl Int)):Prop:=a.len=b.len∧∀ i,i<a.len→SameW (a.el i) (b.el i)
instance decSameW (a b : Sl Int) : Decidable (SameW a b) := @instDecidableAnd _ _ inferInstance (decAll (p := fun k => a.el k = b.el k) a.len)
instance decSameSc (a b : Sl (Sl Int)) : Decidable (SameSc a b) := @instDecidableAnd _ _ inferInstance (decAll (p := fun i => SameW (a.el i) (b.el i)) (h := fun i => decSameW (a.el i) (b.el i)) a.len)
variable (F d:Nat)
end Go.Sim.Pl

namespace Go.Sim.Pl
open Go.Sim.Le (cfg E E_pf E_hv names look)
open Go.Proofs
variable (F d:Nat)
end Go.Sim.Pl

namespace Go.Sim.Pl
open Go.Sim.Le (cfg E E_pf E_hv names look)
open Go.Proofs
variable (F d:Nat)
end Go.Sim.Pl

namespace Go.Sim.Pl
open Go.Sim.Le (cfg E E_pf E_hv names look)
open Go.Proofs
variable (F d:Nat)
theorem inB_of {l:Sl Mach} {hs:Sl Hour} (hF:140737488355330<F) (hl:l.len≤140737488355328) (hR:∀ i,(l.el i).rows.len≤140737488355328) (hh:hs.len≤140737488355328):InB l hs F :=
 ⟨⟨lenB hl,by omega⟩,fun i _=>⟨lenB (hR i),by have:=hR i;omega⟩,lenB hh,by omega⟩
theorem schB_of {sc:Sl (Sl Int)} (hF:140737488355330<F) (hs:sc.len≤140737488355328) (hw:∀ i,(sc.el i).len≤140737488355328):SchB sc F :=
 ⟨⟨lenB hs,by omega⟩,fun i _=>⟨lenB (hw i),by have:=hw i;omega⟩⟩
end Go.Sim.Pl

namespace Go.Sim.Pl
open Go.Sim.Le (cfg E E_pf E_hv names look)
open Go.Proofs
variable (F d:Nat)
section
variable {l:Sl Mach} (hl:PlantOk l) {hs:Sl Hour} (hh:HoursOk hs) (h24:hs.len≤24) {sc:Sl (Sl Int)} (hsc:SchedOk l hs.len sc) (hF:1000<F)
include hl hh h24 hsc hF
end
section
variable {l:Sl Mach} (hl:PlantOk l) {hs:Sl Hour} (hh:HoursOk hs) (h24:hs.len≤24) {sc:Sl (Sl Int)} (hsc:SchedOk l hs.len sc) (hF:2000<F)
include hl hF
end
end Go.Sim.Pl

namespace Go.Sim.Pl
open Go.Sim.Le (cfg E E_pf E_hv names look)
open Go.Proofs
variable (F d:Nat)
end Go.Sim.Pl

namespace Go.Sim.Pl
open Go.Sim.Le (cfg E E_pf E_hv names look)
open Go.Proofs
theorem leasts_spec {l:Sl Mach} {x:Int}:∀ (S:List Nat) (s:Shr),S.Pairwise (· ≠ ·)→0≤s.left→(∀ z ∈ S,0≤(rowAt (l.el z) x).least) →
 0≤(S.foldl (leastF l x) s).left∧(S.foldl (leastF l x) s).left+sumL (S.map (S.foldl (leastF l x) s).sh)=s.left∧(∀ z ∈ S,0≤(S.foldl (leastF l x) s).sh z∧(S.foldl (leastF l x) s).sh z≤(rowAt (l.el z) x).least)∧(0<(S.foldl (leastF l x) s).left→∀ z ∈ S,(S.foldl (leastF l x) s).sh z=(rowAt (l.el z) x).least):=by
 intro S
 induction S with
 |nil=>intro s _ h _;simp[sumL];exact h
 |cons y S ih =>
  intro s hp h hz
  rw[List.pairwise_cons] at hp
  have hy:y ∉ S:=fun hm=>hp.1 y hm rfl
  have h0:=hz y (by simp)
  have e1:(leastF l x s y).left=s.left - min s.left (rowAt (l.el y) x).least:=rfl
  have e2:(leastF l x s y).sh y=min s.left (rowAt (l.el y) x).least:=by simp[leastF]
  obtain⟨i1,i2,i3,i4⟩:=ih (leastF l x s y) hp.2 (by rw[e1];omega) (fun z hz'=>hz z (by simp[hz']))
  have e3:=leasts_sh (l:=l) (x:=x) S (leastF l x s y) hy
  simp only[List.foldl_cons]
  rw[e2] at e3
  refine⟨i1,?_,?_,?_⟩
  ·simp only[List.map_cons]
   show _+(_+sumL _)=_
   omega
  ·intro z hz'
   rcases List.mem_cons.1 hz' with rfl | hz'
   ·omega
   ·exact i3 z hz'
  ·intro hl z hz'
   rcases List.mem_cons.1 hz' with rfl | hz'
   ·have:0≤sumL (S.map (S.foldl (leastF l x) (leastF l x s z)).sh):=by
     clear i2
     have:∀ (T:List Nat) (g:Nat→Int),(∀ z ∈ T,0≤g z)→0≤sumL (T.map g):=by
      intro T g
      induction T with
      |nil=>intro _;simp[sumL]
      |cons a T ih' =>
       intro h
       have:=ih' (fun z hz=>h z (by simp[hz]))
       have:=h a (by simp)
       show 0≤g a+sumL (T.map g)
       omega
     exact this S _ (fun z hz=>(i3 z hz).1)
    omega
   ·exact i4 hl z hz'
abbrev mst (l:Sl Mach) (x:Int) (z:Nat):Int:=(rowAt (l.el z) x).most
theorem mores_spec {l:Sl Mach} {x k:Int}:∀ (S:List Nat) (s:Shr),S.Pairwise (· ≠ ·)→0≤s.left→(∀ z ∈ S,s.sh z≤mst l x z) →
 (0≤(S.foldl (moreF l x k) s).left∧(S.foldl (moreF l x k) s).left+sumL (S.map (S.foldl (moreF l x k) s).sh)=s.left+sumL (S.map s.sh))∧(∀ z ∈ S,s.sh z≤(S.foldl (moreF l x k) s).sh z∧(S.foldl (moreF l x k) s).sh z≤mst l x z)∧(0<(S.foldl (moreF l x k) s).left→∀ z ∈ S,(S.foldl (moreF l x k) s).sh z=mst l x z)∧(s.left=0→∀ z,(S.foldl (moreF l x k) s).sh z=s.sh z)∧S.Pairwise (fun a b=>s.sh b<(S.foldl (moreF l x k) s).sh b→(S.foldl (moreF l x k) s).sh a=mst l x a):=by
 intro S
 induction S with
 |nil=>intro s _ h _;simp;exact h
 |cons y S ih =>
  intro s hp h hz
  rw[List.pairwise_cons] at hp
  have hy:y ∉ S:=fun hm=>hp.1 y hm rfl
  have h0:=hz y (by simp)
  have e1:(moreF l x k s y).left=s.left - min s.left (mst l x y - s.sh y):=rfl
  have e2:(moreF l x k s y).sh y=s.sh y+min s.left (mst l x y - s.sh y):=by simp[moreF]
  have e4:∀ z,z ≠ y→(moreF l x k s y).sh z=s.sh z:=fun z hz=>by simp[moreF,hz]
  obtain⟨i1,i2,i3,i4,i5⟩:=ih (moreF l x k s y) hp.2 (by rw[e1];omega) (fun z hz'=>by
   rw[e4 z (fun e=>hy (e ▸ hz'))]
   exact hz z (by simp[hz']))
  have e3:=mores_sh (l:=l) (x:=x) (k:=k) S (moreF l x k s y) hy
  have e5:S.map (moreF l x k s y).sh=S.map s.sh:=List.map_congr_left fun z hz'=>e4 z (fun e=>hy (e ▸ hz'))
  rw[e5] at i1
  rw[e2] at e3
  simp only[List.foldl_cons]
  refine⟨⟨i1.1,?_⟩,?_,?_,?_,?_⟩
  ·simp only[List.map_cons]
   show _+(_+sumL _)=_+(_+sumL _)
   omega
  ·intro z hz'
   rcases List.mem_cons.1 hz' with rfl | hz'
   ·omega
   ·have:=i2 z hz'
    rw[e4 z (fun e=>hy (e ▸ hz'))] at this
    exact this
  ·intro hl z hz'
   rcases List.mem_cons.1 hz' with rfl | hz'
   ·by_cases hc:(moreF l x k s z).left=0
    ·exfalso
     have hsh:=i4 hc
     have:S.map (S.foldl (moreF l x k) (moreF l x k s z)).sh=S.map s.sh:=by
      rw[← e5]
      exact List.map_congr_left fun z _=>hsh z
     rw[this] at i1
     omega
    ·omega
   ·exact i3 hl z hz'
  ·intro hl z
   have:=i4 (by omega) z
   rw[this]
   by_cases hzy:z=y
   ·subst hzy;rw[e2];omega
   ·exact e4 z hzy
  ·refine List.pairwise_cons.2 ⟨fun b hb hlt=>?_,?_⟩
   ·have hby:b ≠ y:=fun e=>hy (e ▸ hb)
    rw[e3]
    by_cases hc:(moreF l x k s y).left=0
    ·exfalso
     have:=i4 hc b
     rw[e4 b hby] at this
     omega
    ·omega
   ·refine i5.imp_of_mem fun {a b} ha hb hab hlt=>hab ?_
    rw[e4 b (fun e=>hy (e ▸ hb))]
    exact hlt
theorem pair_key {key:Nat→Int} {R:Nat→Nat→Prop}:∀ {S:List Nat},S.Pairwise (Bef key)→S.Pairwise R→∀ i ∈ S,∀ m ∈ S,key i<key m→R i m:=by
 intro S
 induction S with
 |nil=>intro _ _ i hi;simp at hi
 |cons y S ih =>
  intro h1 h2 i hi m hm hk
  rw[List.pairwise_cons] at h1 h2
  rcases List.mem_cons.1 hi with hi1 | hi1
  ·rcases List.mem_cons.1 hm with hm1 | hm1
   ·rw[hi1,hm1] at hk;omega
   ·rw[hi1];exact h2.1 m hm1
  ·rcases List.mem_cons.1 hm with hm1 | hm1
   ·rw[hm1] at hk
    rcases h1.1 i hi1 with h | h<;>omega
   ·exact ih h1.2 h2.2 i hi1 m hm1 hk
abbrev inK (l:Sl Mach) (r:Nat→Bool) (k:Int) (i:Nat):Prop:=(l.el i).kind=k∧r i=true
theorem mine_ne (l:Sl Mach) (r:Nat→Bool) (k:Int):(mine l r k).Pairwise (· ≠ ·):=(mineR_ord l r k l.len 0).imp fun h=>Nat.ne_of_lt h
theorem sum_mine (l:Sl Mach) (r:Nat→Bool) (k:Int) (g:Nat→Int):sumL ((mine l r k).map g)=sumP (inK l r k) g l.len :=
 (sum_list _ (mine_ne l r k) (fun z hz=>(mine_mem.1 hz).1)).trans (sumP_congr (fun i hi=>by rw[mine_mem];exact⟨fun h=>h.2,fun h=>⟨hi,h⟩⟩) (fun _ _ _=>rfl))
theorem sum_mineE (l:Sl Mach) (r:Nat→Bool) (x k:Int) (g:Nat→Int):sumL ((mineE l r x k).map g)=sumP (inK l r k) g l.len :=
 (sum_list _ (mineE_ne l r x k) (fun z hz=>(mineE_mem.1 hz).1)).trans (sumP_congr (fun i hi=>by rw[mineE_mem];exact⟨fun h=>h.2,fun h=>⟨hi,h⟩⟩) (fun _ _ _=>rfl))
structure KindOk (l:Sl Mach) (r:Nat→Bool) (f x k:Int) (w:Nat→Int):Prop where
 lim:∀ i,i<l.len→inK l r k i→0≤w i∧w i≤mst l x i
 all:sumP (inK l r k) w l.len=f∨(sumP (inK l r k) w l.len<f∧∀ i,i<l.len→inK l r k i→w i=mst l x i)
 low:(∃ m,m<l.len∧inK l r k m∧(rowAt (l.el m) x).least<w m)→∀ i,i<l.len→inK l r k i→(rowAt (l.el i) x).least≤w i
 full:∀ i m,i<l.len→m<l.len→inK l r k i→inK l r k m→(rowAt (l.el i) x).energy<(rowAt (l.el m) x).energy→(rowAt (l.el m) x).least<w m→w i=mst l x i
theorem kind_ok {l:Sl Mach} (hl:PlantOk l) {r:Nat→Bool} {f x k:Int} (hf:0≤f) (s:Shr):KindOk l r f x k (kindF l r f x s k).sh:=by
 obtain⟨a1,a2,a3,a4⟩:=leasts_spec (l:=l) (x:=x) (mine l r k) { s with left:=f } (mine_ne l r k) hf (fun z hz=>(row_in (hl.1 z (mine_mem.1 hz).1) x).1.1)
 generalize hs1:(mine l r k).foldl (leastF l x) { s with left:=f }=s1 at a1 a2 a3 a4
 have hk:kindF l r f x s k=(mineE l r x k).foldl (moreF l x k) s1:=by rw[← hs1];rfl
 have hin:∀ i,i<l.len→inK l r k i→i ∈ mine l r k:=fun i h1 h2=>mine_mem.2 ⟨h1,h2⟩
 have hinE:∀ i,i<l.len→inK l r k i→i ∈ mineE l r x k:=fun i h1 h2=>mineE_mem.2 ⟨h1,h2⟩
 obtain⟨b1,b2,b3,b4,b5⟩:=mores_spec (l:=l) (x:=x) (k:=k) (mineE l r x k) s1 (mineE_ne l r x k) a1 (fun z hz=>by
  have h:=mineE_mem.1 hz
  have h1:=(a3 z (mine_mem.2 h)).2
  have h2:=(row_in (hl.1 z h.1) x).1.2
  show _≤(rowAt (l.el z) x).most
  omega)
 rw[hk]
 rw[sum_mine] at a2
 rw[sum_mineE,sum_mineE] at b1
 refine⟨?_,?_,?_,?_⟩
 ·intro i hi hki
  have h1:=b2 i (hinE i hi hki)
  have h2:=a3 i (hin i hi hki)
  omega
 ·have a2':s1.left+sumP (inK l r k) s1.sh l.len=f:=a2
  by_cases hc:0<((mineE l r x k).foldl (moreF l x k) s1).left
  ·exact .inr ⟨by omega,fun i hi hki=>b3 hc i (hinE i hi hki)⟩
  ·exact .inl (by omega)
 ·rintro⟨m,hm,hkm,hlt⟩ i hi hki
  have hpos:0<s1.left:=by
   by_cases hc:s1.left=0
   ·have:=b4 hc m
    have:=(a3 m (hin m hm hkm)).2
    omega
   ·omega
  have h1:=a4 hpos i (hin i hi hki)
  have h2:=(b2 i (hinE i hi hki)).1
  omega
 ·intro i m hi hm hki hkm he hlt
  refine pair_key (mineE_ord l r x k) b5 i (hinE i hi hki) m (hinE m hm hkm) he ?_
  have:=(a3 m (hin m hm hkm)).2
  omega
theorem kindOk_congr {l:Sl Mach} {r:Nat→Bool} {f x k:Int} {w w':Nat→Int} (h:KindOk l r f x k w) (e:∀ i,(l.el i).kind=k→w' i=w i):KindOk l r f x k w':=by
 have hs:sumP (inK l r k) w' l.len=sumP (inK l r k) w l.len:=sumP_congr (fun _ _=>Iff.rfl) (fun i _ hi=>e i hi.1)
 refine⟨?_,?_,?_,?_⟩
 ·intro i hi hk;rw[e i hk.1];exact h.lim i hi hk
 ·rw[hs]
  rcases h.all with h1 | ⟨h1,h2⟩
  ·exact .inl h1
  ·exact .inr ⟨h1,fun i hi hk=>by rw[e i hk.1];exact h2 i hi hk⟩
 ·rintro⟨m,hm,hkm,hlt⟩ i hi hk
  rw[e i hk.1]
  exact h.low ⟨m,hm,hkm,by rw[← e m hkm.1];exact hlt⟩ i hi hk
 ·intro i m hi hm hki hkm he hlt
  rw[e i hki.1]
  exact h.full i m hi hm hki hkm he (by rw[← e m hkm.1];exact hlt)
theorem share_ok {l:Sl Mach} (hl:PlantOk l) {r:Nat→Bool} {f x:Int} (hf:0≤f) {k:Int} (hk:1≤k∧k≤3):KindOk l r f x k (shareS l r f x).sh:=by
 have h3:k=1∨k=2∨k=3:=by omega
 rcases h3 with rfl | rfl | rfl
 ·exact kindOk_congr (kind_ok hl hf shr0) fun i hi=>sh_1 r f x hi
 ·exact kindOk_congr (kind_ok hl hf (shr1 l r f x)) fun i hi=>sh_2 r f x hi
 ·rw[shareS_eq];exact kind_ok hl hf _
theorem share_off {l:Sl Mach} {r:Nat→Bool} {f x:Int} {i:Nat} (h:r i=false):(shareS l r f x).sh i=0:=by
 have hn:∀ k,¬ ((l.el i).kind=k∧r i=true):=fun k hk=>by rw[h] at hk;exact absurd hk.2 (by decide)
 rw[shareS_eq,kind_sh (hn 3)]
 show (kindF l r f x (kindF l r f x shr0 1) 2).sh i=0
 rw[kind_sh (hn 2),kind_sh (hn 1)]
 rfl
theorem sumP_le {p:Nat→Prop} [DecidablePred p] {g g':Nat→Int}:∀ {n:Nat},(∀ i,i<n→p i→g i≤g' i)→sumP p g n≤sumP p g' n
 |0,_=>by simp[sumP]
 |n+1,h=>by
  have ih:=sumP_le (p:=p) (g:=g) (g':=g') (n:=n) (fun i hi=>h i (by omega))
  simp only[sumP]
  split
  ·rename_i hp;have:=h n (by omega) hp;omega
  ·omega
theorem sumP_add {p:Nat→Prop} [DecidablePred p] {g g':Nat→Int}:∀ {n:Nat},sumP p (fun i=>g i+g' i) n=sumP p g n+sumP p g' n
 |0=>rfl
 |n+1=>by
  have ih:=sumP_add (p:=p) (g:=g) (g':=g') (n:=n)
  simp only[sumP]
  split<;>omega
theorem sumP_mul {p:Nat→Prop} [DecidablePred p] {g:Nat→Int} {c:Int}:∀ {n:Nat},sumP p (fun i=>c*g i) n=c*sumP p g n
 |0=>by simp[sumP]
 |n+1=>by
  have ih:=sumP_mul (p:=p) (g:=g) (c:=c) (n:=n)
  simp only[sumP]
  rw[ih,Int.mul_add]
  split<;>simp
theorem maxP_le {p:Nat→Prop} [DecidablePred p] {g:Nat→Int} {i:Nat}:∀ {n:Nat},i<n→p i→g i≤maxP p g n
 |0,h,_=>by omega
 |n+1,h,hp=>by
  simp only[maxP]
  rcases Nat.lt_or_eq_of_le (Nat.le_of_lt_succ h) with h1 | rfl
  ·have ih:=maxP_le (p:=p) (g:=g) (n:=n) h1 hp
   split<;>omega
  ·rw[if_pos hp];omega
theorem maxP_at {p:Nat→Prop} [DecidablePred p] {g:Nat→Int}:∀ {n:Nat},0<maxP p g n→∃ i,i<n∧p i∧g i=maxP p g n
 |0,h=>by simp[maxP] at h
 |n+1,h=>by
  simp only[maxP] at h ⊢
  split
  ·rename_i hp
   rw[if_pos hp] at h
   by_cases hc:maxP p g n≤g n
   ·exact⟨n,by omega,hp,by omega⟩
   ·obtain⟨i,h1,h2,h3⟩:=maxP_at (p:=p) (g:=g) (n:=n) (by omega)
    exact⟨i,by omega,h2,by omega⟩
  ·rename_i hp
   rw[if_neg hp] at h
   obtain⟨i,h1,h2,h3⟩:=maxP_at (p:=p) (g:=g) (n:=n) h
   exact⟨i,by omega,h2,h3⟩
theorem mostS_sum (l:Sl Mach) (r:Nat→Bool) (x k:Int):∀ n,mostS l.el r x k n=sumP (inK l r k) (mst l x) n
 |0=>rfl
 |n+1=>by
  have ih:=mostS_sum l r x k n
  simp only[mostS,sumP,ih]
theorem thereS_iff (l:Nat→Mach) (k:Int):∀ n,thereS l k n=true↔∃ i,i<n∧(l i).kind=k
 |0=>by simp[thereS]
 |n+1=>by
  have ih:=thereS_iff l k n
  simp only[thereS,Bool.or_eq_true,decide_eq_true_iff,ih]
  constructor
  ·rintro (⟨i,h1,h2⟩ | h)
   ·exact⟨i,by omega,h2⟩
   ·exact⟨n,by omega,h⟩
  ·rintro⟨i,h1,h2⟩
   rcases Nat.lt_or_eq_of_le (Nat.le_of_lt_succ h1) with h3 | rfl
   ·exact .inl ⟨i,h3,h2⟩
   ·exact .inr h2
theorem lacks_0 {l:Sl Mach} {r:Nat→Bool} {f x:Int}:lacks l r f x=0↔∀ k,1≤k∧k≤3→shortK l.el r f x k l.len=false:=by
 unfold lacks
 simp only[lackK]
 constructor
 ·intro h k hk
  have h3:k=1∨k=2∨k=3:=by omega
  by_cases h1:shortK l.el r f x 1 l.len=true
  ·rw[if_pos h1] at h;omega
  ·rw[if_neg h1] at h
   by_cases h2:shortK l.el r f x (1+1) l.len=true
   ·rw[if_pos h2] at h;omega
   ·rw[if_neg h2] at h
    by_cases h4:shortK l.el r f x (1+1+1) l.len=true
    ·rw[if_pos h4] at h;omega
    ·rcases h3 with rfl | rfl | rfl
     ·simpa using h1
     ·simpa using h2
     ·simpa using h4
 ·intro h
  rw[if_neg (by rw[h 1 (by omega)];simp),if_neg (by rw[h (1+1) (by omega)];simp),if_neg (by rw[h (1+1+1) (by omega)];simp)]
abbrev CarOk (l:Sl Mach) (r:Nat→Bool) (f x:Int) (w:Nat→Int):Prop:=(∀ i,i<l.len→(0≤w i∧w i≤mst l x i)∧(r i=false→w i≤0))∧∀ k:Int,1≤k∧k≤3→thereS l.el k l.len=true→sumP (fun i=>(l.el i).kind=k) w l.len=f
theorem car_kind {l:Sl Mach} {r:Nat→Bool} {x:Int} {w:Nat→Int} (h:∀ i,i<l.len→(0≤w i∧w i≤mst l x i)∧(r i=false→w i≤0)) (k:Int):sumP (fun i=>(l.el i).kind=k) w l.len=sumP (inK l r k) w l.len:=by
 have:∀ n,n≤l.len→sumP (fun i=>(l.el i).kind=k) w n=sumP (inK l r k) w n:=by
  intro n
  induction n with
  |zero=>intro _;rfl
  |succ n ih =>
   intro hn
   have e:=ih (by omega)
   have hw:=h n (by omega)
   simp only[sumP,e]
   by_cases h1:(l.el n).kind=k
   ·rw[if_pos h1]
    by_cases hr:r n=true
    ·rw[if_pos ⟨h1,hr⟩]
    ·rw[if_neg (fun h=>hr h.2)]
     have:=hw.2 (by simpa using hr)
     omega
   ·rw[if_neg h1,if_neg (fun h=>h1 h.1)]
 exact this l.len (Nat.le_refl _)
theorem share_car {l:Sl Mach} (hl:PlantOk l) {r:Nat→Bool} {f x:Int} (hf:0≤f) (hk:lacks l r f x=0):CarOk l r f x (shareS l r f x).sh:=by
 have h1:∀ i,i<l.len→(0≤(shareS l r f x).sh i∧(shareS l r f x).sh i≤mst l x i)∧(r i=false→(shareS l r f x).sh i≤0):=by
  intro i hi
  cases hr:r i with
  |true=>exact⟨(share_ok hl hf (hl.1 i hi).2.1).lim i hi ⟨rfl,hr⟩,fun h=>absurd h (by decide)⟩
  |false =>
   have e:=share_off (l:=l) (f:=f) (x:=x) hr
   have:=(row_in (hl.1 i hi) x).1
   rw[e]
   exact⟨⟨Int.le_refl _,show (0:Int)≤(rowAt (l.el i) x).most by omega⟩,fun _=>Int.le_refl _⟩
 refine⟨h1,fun k hk2 ht=>?_⟩
 rw[car_kind h1]
 rcases (share_ok hl hf hk2 (r:=r) (x:=x)).all with h | ⟨h,h2⟩
 ·exact h
 ·exfalso
  have hs:=(lacks_0.1 hk) k hk2
  unfold shortK at hs
  rw[ht,Bool.true_and,decide_eq_false_iff_not,mostS_sum] at hs
  rw[sumP_congr (fun _ _=>Iff.rfl) h2] at h
  omega
theorem sum_kinds {l:Sl Mach} (hl:PlantOk l) {r:Nat→Bool} {g:Nat→Int}:∀ n,n≤l.len→sumP (fun i=>r i=true) g n=sumP (inK l r 1) g n+sumP (inK l r 2) g n+sumP (inK l r 3) g n
 |0,_=>rfl
 |n+1,h=>by
  have ih:=sum_kinds hl (r:=r) (g:=g) n (by omega)
  have hk:=(hl.1 n (by omega)).2.1
  simp only[sumP,inK,ih]
  by_cases hr:r n=true
  ·have h3:(l.el n).kind=1∨(l.el n).kind=2∨(l.el n).kind=3:=by omega
   rw[if_pos hr]
   rcases h3 with h3 | h3 | h3
   ·rw[if_pos (show inK l r 1 n from ⟨h3,hr⟩),if_neg (show ¬ inK l r 2 n from fun h=>by have:=h.1;omega),if_neg (show ¬ inK l r 3 n from fun h=>by have:=h.1;omega)];omega
   ·rw[if_neg (show ¬ inK l r 1 n from fun h=>by have:=h.1;omega),if_pos (show inK l r 2 n from ⟨h3,hr⟩),if_neg (show ¬ inK l r 3 n from fun h=>by have:=h.1;omega)];omega
   ·rw[if_neg (show ¬ inK l r 1 n from fun h=>by have:=h.1;omega),if_neg (show ¬ inK l r 2 n from fun h=>by have:=h.1;omega),if_pos (show inK l r 3 n from ⟨h3,hr⟩)];omega
  ·rw[if_neg hr,if_neg (fun h=>hr h.2),if_neg (fun h=>hr h.2),if_neg (fun h=>hr h.2)]
   omega
abbrev prcS (l:Sl Mach) (r:Nat→Bool) (x k:Int) (w:Nat→Int):Int:=maxP (fun i=>(l.el i).kind=k∧r i=true∧w i>(rowAt (l.el i) x).least) (fun i=>(rowAt (l.el i) x).energy) l.len
theorem price_1 {l:Sl Mach} {r:Nat→Bool} {x k:Int} {w:Nat→Int} {i:Nat} (hi:i<l.len) (hk:inK l r k i) (h:(rowAt (l.el i) x).least<w i):(rowAt (l.el i) x).energy≤prcS l r x k w :=
 maxP_le (p:=fun i=>(l.el i).kind=k∧r i=true∧w i>(rowAt (l.el i) x).least) (g:=fun i=>(rowAt (l.el i) x).energy) hi ⟨hk.1,hk.2,h⟩
theorem price_2 {l:Sl Mach} (hl:PlantOk l) {r:Nat→Bool} {f x k:Int} {w:Nat→Int} (h:KindOk l r f x k w) {i:Nat} (hi:i<l.len) (hk:inK l r k i) (hp:(rowAt (l.el i) x).energy<prcS l r x k w):w i=mst l x i:=by
 have h0:=(row_in (hl.1 i hi) x).2.2.1
 unfold prcS at hp
 obtain⟨m,hm,hpm,he⟩:=maxP_at (p:=fun i=>(l.el i).kind=k∧r i=true∧w i>(rowAt (l.el i) x).least) (g:=fun i=>(rowAt (l.el i) x).energy) (n:=l.len) (by omega)
 exact h.full i m hi hm hk ⟨hpm.1,hpm.2.1⟩ (by omega) hpm.2.2
theorem kind_least {l:Sl Mach} (hl:PlantOk l) {r:Nat→Bool} {f x k:Int} {w o:Nat→Int} (h:KindOk l r f x k w) (hs:sumP (inK l r k) w l.len=f) (ho:∀ i,i<l.len→inK l r k i→o i≤mst l x i) (hso:sumP (inK l r k) o l.len=f) :
 sumP (inK l r k) (enT l w x) l.len≤sumP (inK l r k) (enT l o x) l.len:=by
 have hP0:0≤prcS l r x k w:=maxP_0
 have hterm:sumP (inK l r k) (fun i=>enT l w x i+prcS l r x k w*max (o i) (rowAt (l.el i) x).least) l.len≤sumP (inK l r k) (fun i=>enT l o x i+prcS l r x k w*max (w i) (rowAt (l.el i) x).least) l.len:=by
  refine sumP_le fun i hi hk=>?_
  have hr:=(row_in (hl.1 i hi) x)
  have ho':o i≤(rowAt (l.el i) x).most:=ho i hi hk
  have hkey:0≤((rowAt (l.el i) x).energy - prcS l r x k w)*(max (o i) (rowAt (l.el i) x).least - max (w i) (rowAt (l.el i) x).least):=by
   rcases Int.lt_trichotomy (rowAt (l.el i) x).energy (prcS l r x k w) with h1 | h1 | h1
   ·have e:w i=(rowAt (l.el i) x).most:=price_2 hl h hi hk h1
    refine Int.mul_nonneg_of_nonpos_of_nonpos (by omega) ?_
    omega
   ·rw[h1,Int.sub_self,Int.zero_mul];exact Int.le_refl _
   ·refine Int.mul_nonneg (by omega) ?_
    by_cases hc:(rowAt (l.el i) x).least<w i
    ·have:=price_1 hi hk hc;omega
    ·omega
  have e:((rowAt (l.el i) x).energy - prcS l r x k w)*(max (o i) (rowAt (l.el i) x).least - max (w i) (rowAt (l.el i) x).least)=(enT l o x i+prcS l r x k w*max (w i) (rowAt (l.el i) x).least) - (enT l w x i+prcS l r x k w*max (o i) (rowAt (l.el i) x).least):=by
   simp only[enT]
   generalize (rowAt (l.el i) x).energy=a
   generalize prcS l r x k w=p
   generalize max (o i) (rowAt (l.el i) x).least=u
   generalize max (w i) (rowAt (l.el i) x).least=v
   rw[Int.sub_mul,Int.mul_sub,Int.mul_sub]
   omega
  omega
 rw[sumP_add,sumP_add,sumP_mul (g:=fun i=>max (o i) (rowAt (l.el i) x).least),sumP_mul (g:=fun i=>max (w i) (rowAt (l.el i) x).least)] at hterm
 have hle:prcS l r x k w*sumP (inK l r k) (fun i=>max (w i) (rowAt (l.el i) x).least) l.len≤prcS l r x k w*sumP (inK l r k) (fun i=>max (o i) (rowAt (l.el i) x).least) l.len:=by
  rcases Int.lt_or_eq_of_le hP0 with h1 | h1
  ·refine Int.mul_le_mul_of_nonneg_left ?_ hP0
   obtain⟨m,hm,hpm,he⟩:=maxP_at (p:=fun i=>(l.el i).kind=k∧r i=true∧w i>(rowAt (l.el i) x).least) (g:=fun i=>(rowAt (l.el i) x).energy) (n:=l.len) h1
   have hlow:=h.low ⟨m,hm,⟨hpm.1,hpm.2.1⟩,hpm.2.2⟩
   have e1:sumP (inK l r k) (fun i=>max (w i) (rowAt (l.el i) x).least) l.len=sumP (inK l r k) w l.len:=sumP_congr (fun _ _=>Iff.rfl) (fun i hi hk=>by have:=hlow i hi hk;show max _ _=_;omega)
   have e2:sumP (inK l r k) o l.len≤sumP (inK l r k) (fun i=>max (o i) (rowAt (l.el i) x).least) l.len:=sumP_le fun i _ _=>by show o i≤max _ _;omega
   omega
  ·rw[← h1,Int.zero_mul,Int.zero_mul];exact Int.le_refl _
 omega
theorem share_least {l:Sl Mach} (hl:PlantOk l) {r:Nat→Bool} {f x:Int} (hf:0≤f) (hk:lacks l r f x=0) {o:Nat→Int} (ho:CarOk l r f x o):enS l r f x≤sumP (fun i=>r i=true) (enT l o x) l.len:=by
 unfold enS
 rw[energy_eq hl r f x,sum_kinds hl l.len (Nat.le_refl _),sum_kinds hl l.len (Nat.le_refl _)]
 have hc:=share_car hl hf hk (r:=r)
 have hk3:∀ k,1≤k∧k≤3→sumP (inK l r k) (enT l (shareS l r f x).sh x) l.len≤sumP (inK l r k) (enT l o x) l.len:=by
  intro k hk'
  by_cases ht:thereS l.el k l.len=true
  ·have h1:=hc.2 k hk' ht
   have h2:=ho.2 k hk' ht
   rw[car_kind hc.1] at h1
   rw[car_kind ho.1] at h2
   exact kind_least hl (share_ok hl hf hk') h1 (fun i hi _=>(ho.1 i hi).1.2) h2
  ·have hn:∀ i,i<l.len→¬ inK l r k i:=fun i hi hki=>ht ((thereS_iff _ _ _).2 ⟨i,hi,hki.1⟩)
   rw[sumP_no hn,sumP_no hn]
   exact Int.le_refl _
 have h1:=hk3 1 (by omega)
 have h2:=hk3 2 (by omega)
 have h3:=hk3 3 (by omega)
 omega
end Go.Sim.Pl

namespace Go.Sim.Pl
open Go.Sim.Le (cfg E E_pf E_hv names look)
open Go.Proofs
theorem rowR_congr {m:Mach} {x y:Int}:∀ j i,(∀ k,i≤k→k<i+j→((m.rows.el k).ratio≥x↔(m.rows.el k).ratio≥y))→rowR m x j i=rowR m y j i
 |0,_,_=>rfl
 |j+1,i,h=>by
  have ih:=rowR_congr (m:=m) (x:=x) (y:=y) j (i+1) (fun k h1 h2=>h k (by omega) (by omega))
  have h0:=h i (by omega) (by omega)
  simp only[rowR,ih]
  by_cases h1:(m.rows.el i).ratio≥x
  ·rw[if_pos h1,if_pos (h0.1 h1)]
  ·rw[if_neg h1,if_neg (fun h=>h1 (h0.2 h))]
theorem ratR_mem {m:Mach} {s:Span} {k:Nat} (h:s.lo<(m.rows.el k).ratio+1∧(m.rows.el k).ratio+1≤s.hi):∀ j i,i≤k→k<i+j→(m.rows.el k).ratio+1 ∈ ratR m s j i
 |0,i,h1,h2=>by omega
 |j+1,i,h1,h2=>by
  simp only[ratR,List.mem_append]
  rcases Nat.eq_or_lt_of_le h1 with h3 | h3
  ·subst h3
   exact .inl (by rw[if_pos h];simp)
  ·exact .inr (ratR_mem h j (i+1) (by omega) (by omega))
theorem ratM_mem {l:Sl Mach} {s:Span} {a:Nat} {x:Int} (h:x ∈ ratR (l.el a) s (l.el a).rows.len 0):∀ j i,i≤a→a<i+j→x ∈ ratM l s j i
 |0,i,h1,h2=>by omega
 |j+1,i,h1,h2=>by
  simp only[ratM,List.mem_append]
  rcases Nat.eq_or_lt_of_le h1 with h3 | h3
  ·subst h3
   exact .inl h
  ·exact .inr (ratM_mem h j (i+1) (by omega) (by omega))
theorem last_le {x:Int}:∀ (L:List Int),(∃ z ∈ L,z≤x)→∃ y ∈ L,y≤x∧∀ z ∈ L,z≤x→z≤y
 |[],h=>by obtain⟨z,hz,_⟩:=h;simp at hz
 |a :: L,h=>by
  by_cases h1:∃ z ∈ L,z≤x
  ·obtain⟨y,hy,hyx,hm⟩:=last_le L h1
   by_cases h2:a≤x∧y≤a
   ·refine⟨a,by simp,h2.1,fun z hz hzx=>?_⟩
    rcases List.mem_cons.1 hz with h3 | h3
    ·omega
    ·have:=hm z h3 hzx;omega
   ·refine⟨y,by simp[hy],hyx,fun z hz hzx=>?_⟩
    rcases List.mem_cons.1 hz with h3 | h3
    ·subst h3;omega
    ·exact hm z h3 hzx
  ·obtain⟨z,hz,hzx⟩:=h
   rcases List.mem_cons.1 hz with h3 | h3
   ·refine⟨a,by simp,by omega,fun w hw hwx=>?_⟩
    rcases List.mem_cons.1 hw with h4 | h4
    ·omega
    ·exact absurd ⟨w,h4,hwx⟩ h1
   ·exact absurd ⟨z,h3,hzx⟩ h1
theorem rat_cover {l:Sl Mach} {s:Span} {x:Int} (hx:s.lo≤x∧x≤s.hi):∃ y ∈ ratL l s,∀ i,i<l.len→rowAt (l.el i) x=rowAt (l.el i) y:=by
 obtain⟨y,hy,hyx,hm⟩:=last_le (x:=x) (ratL l s) ⟨s.lo,by simp[ratL],hx.1⟩
 have hlo:=hm s.lo (by simp[ratL]) hx.1
 refine⟨y,hy,fun i hi=>rowR_congr _ _ fun k _ hk=>⟨fun h=>by omega,fun h=>?_⟩⟩
 by_cases h1:((l.el i).rows.el k).ratio≥x
 ·exact h1
 ·exfalso
  have hin:((l.el i).rows.el k).ratio+1 ∈ ratL l s:=by
   unfold ratL
   refine List.mem_cons_of_mem _ (ratM_mem (a:=i) (ratR_mem (k:=k) ⟨by omega,by omega⟩ _ 0 (by omega) (by omega)) _ 0 (by omega) (by omega))
  have:=hm _ hin (by omega)
  omega
theorem mostS_congr {l:Sl Mach} {r:Nat→Bool} {x y k:Int}:∀ n,(∀ i,i<n→rowAt (l.el i) x=rowAt (l.el i) y)→mostS l.el r x k n=mostS l.el r y k n
 |0,_=>rfl
 |n+1,h=>by
  have ih:=mostS_congr (l:=l) (r:=r) (x:=x) (y:=y) (k:=k) n (fun i hi=>h i (by omega))
  simp only[mostS,ih,h n (by omega)]
theorem lacks_congr {l:Sl Mach} {r:Nat→Bool} {f x y:Int} (h:∀ i,i<l.len→rowAt (l.el i) x=rowAt (l.el i) y):lacks l r f x=lacks l r f y:=by
 have hk:∀ k,shortK l.el r f x k l.len=shortK l.el r f y k l.len:=fun k=>by
  unfold shortK
  rw[mostS_congr l.len h]
 unfold lacks
 simp only[lackK,hk]
theorem fails_iff {l:Sl Mach} {r:Nat→Bool} {f:Int} {s:Span} (hs:RatioOk s):failsB l r f (ratL l s)=true↔∃ x,(s.lo≤x∧x≤s.hi)∧lacks l r f x ≠ 0:=by
 unfold failsB
 rw[List.any_eq_true]
 constructor
 ·rintro⟨x,hx,h⟩
  rw[decide_eq_true_iff] at h
  exact⟨x,ratL_in hs x hx,by omega⟩
 ·rintro⟨x,hx,h⟩
  obtain⟨y,hy,he⟩:=rat_cover (l:=l) hx
  refine⟨y,hy,?_⟩
  rw[decide_eq_true_iff,← lacks_congr he]
  have:=lacks_in l r f x
  omega
theorem short_0 {l:Sl Mach} {r:Nat→Bool} {f:Int} {s:Span} (hs:RatioOk s):shortest l r f s=0↔∀ x,s.lo≤x→x≤s.hi→lacks l r f x=0:=by
 have h:=shortest_0 l r f s
 rw[fails_iff hs] at h
 constructor
 ·intro h0 x h1 h2
  by_cases hk:lacks l r f x=0
  ·exact hk
  ·exact absurd h0 (h.2 ⟨x,⟨h1,h2⟩,hk⟩)
 ·intro ha
  by_cases hk:shortest l r f s=0
  ·exact hk
  ·obtain⟨x,hx,hn⟩:=h.1 hk
   exact absurd (ha x hx.1 hx.2) hn
variable (F d:Nat)
section
variable {l:Sl Mach} {r:Sl Bool} {f:Int} (h4:RunOk l r f) (hF:2000<F) {s:Span} (hs:RatioOk s) (a x:Int) (q16:(E F (d+42)).pf 16 []=some (.ret (.bool true)))
include h4 hF hs q16
end
end Go.Sim.Pl

namespace Go.Sim.Pl
open Go.Sim.Le (cfg E E_pf E_hv names look)
open Go.Proofs
theorem play_fine {l:Sl Mach} {hs:Nat→Hour} {sc:Nat→Sl Int}:∀ (j t:Nat) (lo hi n:Int),(playR l hs sc j t lo hi n).rule=1→∀ k,t≤k→k<t+j→(faultS l (stAt l sc k) (sc k) (hs k)).1=1:=by
 intro j
 induction j with
 |zero=>intro t lo hi n _ k h1 h2;omega
 |succ j ih =>
  intro t lo hi n h k h1 h2
  simp only[playR] at h
  by_cases hr:(faultS l (stAt l sc t) (sc t) (hs t)).1=1
  ·rw[if_neg (fun hh=>hh hr)] at h
   rcases Nat.eq_or_lt_of_le h1 with h3 | h3
   ·subst h3;exact hr
   ·exact ih (t+1) _ _ _ h k (by omega) (by omega)
  ·rw[if_pos hr] at h
   exact absurd h hr
theorem playS_fine {l:Sl Mach} {hs:Sl Hour} {sc:Sl (Sl Int)} (h:(playS l hs sc).rule=1) {k:Nat} (hk:k<hs.len):(faultS l (stAt l sc.el k) (sc.el k) (hs.el k)).1=1 :=
 play_fine hs.len 0 0 0 0 h k (by omega) (by omega)
variable (F d:Nat)
section
variable {l:Sl Mach} (hl:PlantOk l) {hs:Sl Hour} (hh:HoursOk hs) (h24:hs.len≤24) {sc:Sl (Sl Int)} (hsc:SchedOk l hs.len sc) (hF:2000<F) (hfine:∀ k,k<hs.len→(faultS l (stAt l sc.el k) (sc.el k) (hs.el k)).1=1)
include hl hh h24 hsc hF hfine
end
end Go.Sim.Pl

namespace Go.Sim.Pl
open Go.Sim.Le (cfg E E_pf E_hv names look)
open Go.Proofs
abbrev WEq (n:Nat) (w w':Sl Int):Prop:=w.len=n∧w'.len=n∧∀ i,i<n→w.el i=w'.el i
section
variable {l:Sl Mach} {w w':Sl Int} (h:WEq l.len w w')
include h
end
section
variable {l:Sl Mach} {hs:Sl Hour} {sc:Sl (Sl Int)}
end
end Go.Sim.Pl

namespace Go.Sim.Pl
open Go.Sim.Le (cfg E E_pf E_hv names look)
open Go.Proofs
variable (F d:Nat)
section
variable {a b:Sl (Sl Int)} {m:Nat} (hm:m≤1000) (hab:a.len=b.len) (hn:a.len≤1000) (ha:∀ t,t<a.len→(a.el t).len=m) (hb:∀ t,t<a.len→(b.el t).len=m) (hF:2000<F)
include hm hab hn ha hb hF
end
section
variable {l:Sl Mach} (hl:PlantOk l) {hs:Sl Hour} (hh:HoursOk hs) (h24:hs.len≤24) (hF:140737488355330<F) (hr:(bestS l hs).right=true)
include hl hh h24 hF hr
end
end Go.Sim.Pl

namespace Go.Sim.Pl
open Go.Sim.Le (cfg E E_pf E_hv names look)
open Go.Proofs
section
variable {l:Sl Mach} {r:Nat→Bool} {f x y:Int} (h:∀ i,i<l.len→rowAt (l.el i) x=rowAt (l.el i) y)
include h
end
variable (F d:Nat)
end Go.Sim.Pl

namespace Go.Sim.Pl
open Go.Sim.Le (cfg E E_pf E_hv names look)
open Go.Proofs
theorem reduce {p:Nat→Prop} [DecidablePred p] {g:Nat→Int}:∀ (n:Nat) (T:Int),(∀ i,i<n→p i→0≤g i)→0≤T→T≤sumP p g n→∃ o:Nat→Int,(∀ i,0≤o i)∧(∀ i,i<n→p i→o i≤g i)∧sumP p o n=T
 |0,T,_,h0,h1=>⟨fun _=>0,fun _=>Int.le_refl _,fun i hi=>by omega,by simp only[sumP] at h1 ⊢;omega⟩
 |n+1,T,hg,h0,h1=>by
  simp only[sumP] at h1
  have hcong:∀ (o:Nat→Int) (v:Int) (m:Nat),m≤n→sumP p (fun i=>if i=n then v else o i) m=sumP p o m:=fun o v m hm=>sumP_congr (fun _ _=>Iff.rfl) (fun i hi _=>by show (if i=n then v else o i)=o i;rw[if_neg (by omega)])
  by_cases hp:p n
  ·rw[if_pos hp] at h1
   have hgn:=hg n (by omega) hp
   by_cases hc:T≤sumP p g n
   ·obtain⟨o,a1,a2,a3⟩:=reduce n T (fun i hi=>hg i (by omega)) h0 hc
    refine⟨fun i=>if i=n then 0 else o i,fun i=>?_,fun i hi hpi=>?_,?_⟩
    ·simp only;split
     ·exact Int.le_refl _
     ·exact a1 i
    ·simp only;split
     ·rename_i h;subst h;exact hgn
     ·exact a2 i (by omega) hpi
    ·simp only[sumP]
     rw[hcong o 0 n (Nat.le_refl _),a3,if_pos hp]
     simp
   ·have hs0:0≤sumP p g n:=by
     have:∀ m,m≤n→0≤sumP p g m:=by
      intro m
      induction m with
      |zero=>intro _;exact Int.le_refl _
      |succ m ih =>
       intro hm
       have:=ih (by omega)
       simp only[sumP]
       split
       ·rename_i h;have:=hg m (by omega) h;omega
       ·omega
     exact this n (Nat.le_refl _)
    obtain⟨o,a1,a2,a3⟩:=reduce n (sumP p g n) (fun i hi=>hg i (by omega)) hs0 (Int.le_refl _)
    refine⟨fun i=>if i=n then T - sumP p g n else o i,fun i=>?_,fun i hi hpi=>?_,?_⟩
    ·simp only;split
     ·omega
     ·exact a1 i
    ·simp only;split
     ·rename_i h;subst h;omega
     ·exact a2 i (by omega) hpi
    ·simp only[sumP]
     rw[hcong o _ n (Nat.le_refl _),a3,if_pos hp]
     simp only[if_true]
     omega
  ·rw[if_neg hp] at h1
   obtain⟨o,a1,a2,a3⟩:=reduce n T (fun i hi=>hg i (by omega)) h0 (by omega)
   refine⟨o,a1,fun i hi hpi=>?_,?_⟩
   ·rcases Nat.lt_or_eq_of_le (Nat.le_of_lt_succ hi) with h | h
    ·exact a2 i h hpi
    ·subst h;exact absurd hpi hp
   ·simp only[sumP];rw[a3,if_neg hp];omega
theorem less_flow {l:Sl Mach} (hl:PlantOk l) {r:Nat→Bool} {f f' x:Int} (h0:0≤f') (h1:f'≤f) (hk:lacks l r f x=0):lacks l r f' x=0∧enS l r f' x≤enS l r f x:=by
 have hk':lacks l r f' x=0:=by
  rw[lacks_0] at hk ⊢
  intro k hk3
  have:=hk k hk3
  unfold shortK at this ⊢
  cases ht:thereS l.el k l.len with
  |false=>rfl
  |true =>
   rw[ht,Bool.true_and,decide_eq_false_iff_not] at this
   rw[Bool.true_and,decide_eq_false_iff_not]
   omega
 refine⟨hk',?_⟩
 have hc:=share_car hl (show 0≤f by omega) hk (r:=r)
 have hex:∀ k:Int,1≤k∧k≤3→∃ o:Nat→Int,(∀ i,0≤o i)∧(∀ i,i<l.len→(l.el i).kind=k→o i≤(shareS l r f x).sh i)∧(thereS l.el k l.len=true→sumP (fun i=>(l.el i).kind=k) o l.len=f'):=by
  intro k hk3
  by_cases ht:thereS l.el k l.len=true
  ·obtain⟨o,a1,a2,a3⟩:=reduce (p:=fun i=>(l.el i).kind=k) (g:=(shareS l r f x).sh) l.len f' (fun i hi _=>(hc.1 i hi).1.1) h0 (by rw[hc.2 k hk3 ht];exact h1)
   exact⟨o,a1,a2,fun _=>a3⟩
  ·refine⟨fun _=>0,fun _=>Int.le_refl _,fun i hi _=>(hc.1 i hi).1.1,fun h=>absurd h ht⟩
 obtain⟨o1,a1,b1,c1⟩:=hex 1 (by omega)
 obtain⟨o2,a2,b2,c2⟩:=hex 2 (by omega)
 obtain⟨o3,a3,b3,c3⟩:=hex 3 (by omega)
 have ho:CarOk l r f' x (fun i=>if (l.el i).kind=1 then o1 i else if (l.el i).kind=2 then o2 i else o3 i)∧∀ i,i<l.len→(if (l.el i).kind=1 then o1 i else if (l.el i).kind=2 then o2 i else o3 i)≤(shareS l r f x).sh i:=by
  have hle:∀ i,i<l.len→0≤(if (l.el i).kind=1 then o1 i else if (l.el i).kind=2 then o2 i else o3 i)∧(if (l.el i).kind=1 then o1 i else if (l.el i).kind=2 then o2 i else o3 i)≤(shareS l r f x).sh i:=fun i hi=>by
   have hk3:=(hl.1 i hi).2.1
   by_cases k1:(l.el i).kind=1
   ·rw[if_pos k1];exact⟨a1 i,b1 i hi k1⟩
   ·rw[if_neg k1]
    by_cases k2:(l.el i).kind=2
    ·rw[if_pos k2];exact⟨a2 i,b2 i hi k2⟩
    ·rw[if_neg k2];exact⟨a3 i,b3 i hi (by omega)⟩
  refine⟨⟨fun i hi=>?_,fun k hk3 ht=>?_⟩,fun i hi=>(hle i hi).2⟩
  ·have h2:=hle i hi
   have h3:=hc.1 i hi
   refine⟨⟨h2.1,?_⟩,fun hr=>?_⟩
   ·have:=h3.1.2
    have:=h2.2
    simp only
    omega
   ·have:=h3.2 hr
    have:=h2.2
    simp only
    omega
  ·have h3:k=1∨k=2∨k=3:=by omega
   rcases h3 with h3 | h3 | h3
   ·subst h3
    rw[← c1 ht]
    exact sumP_congr (fun _ _=>Iff.rfl) (fun i _ hi=>by show (if (l.el i).kind=1 then o1 i else if (l.el i).kind=2 then o2 i else o3 i)=o1 i;rw[if_pos hi])
   ·subst h3
    rw[← c2 ht]
    exact sumP_congr (fun _ _=>Iff.rfl) (fun i _ hi=>by show (if (l.el i).kind=1 then o1 i else if (l.el i).kind=2 then o2 i else o3 i)=o2 i;rw[if_neg (by omega),if_pos hi])
   ·subst h3
    rw[← c3 ht]
    exact sumP_congr (fun _ _=>Iff.rfl) (fun i _ hi=>by show (if (l.el i).kind=1 then o1 i else if (l.el i).kind=2 then o2 i else o3 i)=o3 i;rw[if_neg (by omega),if_neg (by omega)])
 have e1:=share_least hl h0 hk' ho.1
 refine Int.le_trans e1 ?_
 unfold enS
 rw[energy_eq hl r f x]
 refine sumP_le fun i hi _=>?_
 have hr:=(row_in (hl.1 i hi) x).2.2.1
 have:=ho.2 i hi
 refine Int.mul_le_mul_of_nonneg_left ?_ hr
 show max (if (l.el i).kind=1 then o1 i else if (l.el i).kind=2 then o2 i else o3 i) _≤max _ _
 omega
theorem upd_fl (g:Nat→Hour) (n:Nat) (v:Int):updGet (fun u=>eHour (g u)) n 0 [.int .i64 v]=fun j=>eHour (if j=n then ⟨v,(g n).ratio⟩ else g j):=by
 funext j
 unfold updGet
 by_cases h:j=n
 ·subst h;rw[if_pos rfl,if_pos rfl];rfl
 ·rw[if_neg h,if_neg h]
variable (F d:Nat)
end Go.Sim.Pl

namespace Go.Sim.Le
open Go.Proofs
section
variable {R:Type}
theorem tkOut_ret (v:V) (f:R) (k kp:V→R):tkOut (some (.ret v)) f k kp=k v:=Eq.trans (Eq.refl _) (Eq.refl _)
theorem tkBool_b (b:Bool) (f:R) (k:Bool→R):tkBool (.bool b) f k=k b:=Eq.trans (Eq.refl _) (Eq.refl _)
theorem tkInt_i (q:IntKind) (n:Int) (f:R) (k:IntKind→Int→R):tkInt (.int q n) f k=k q n:=Eq.trans (Eq.refl _) (Eq.refl _)
theorem tkAgg_a (l:List V) (f:R) (k:List V→R):tkAgg (.agg l) f k=k l:=Eq.trans (Eq.refl _) (Eq.refl _)
theorem tkRow_r (a:Bool) (n wd:Nat) (g:Nat→List V) (f:R) (k:Bool→Nat→Nat→(Nat→List V)→R):tkRow (.row a n wd g) f k=k a n wd g:=Eq.trans (Eq.refl _) (Eq.refl _)
theorem tkCons_c (v:V) (l:List V) (f:R) (k:V→List V→R):tkCons (v :: l) f k=k v l:=Eq.trans (Eq.refl _) (Eq.refl _)
theorem tkNil_n (f k:R):tkNil [] f k=k:=Eq.trans (Eq.refl _) (Eq.refl _)
theorem tkFn_f (g:Nat) (a b:List V) (f:R) (k:Nat→List V→List V→R):tkFn (.fn (.func g) a b) f k=k g a b:=Eq.trans (Eq.refl _) (Eq.refl _)
theorem tkPtr_p (n wd:Nat) (g:Nat→List V) (i o:Nat) (f:R) (k:Nat→Nat→(Nat→List V)→Nat→Nat→R):tkPtr (.rptr n wd g i o) f k=k n wd g i o:=Eq.trans (Eq.refl _) (Eq.refl _)
theorem tkHv_h (v:V) (h:List Slot) (f:R) (k:V→List Slot→R):tkHv (some (.ret v,h)) f k=k v h:=Eq.trans (Eq.refl _) (Eq.refl _)
theorem tkSCons_c (s:Slot) (l:List Slot) (f:R) (k:Slot→List Slot→R):tkSCons (s :: l) f k=k s l:=Eq.trans (Eq.refl _) (Eq.refl _)
theorem tkSNil_n (f k:R):tkSNil [] f k=k:=Eq.trans (Eq.refl _) (Eq.refl _)
theorem tkBox_b (e:Nat) (c:List V) (w:Bool) (f:R) (k:Nat→List V→Bool→R):tkBox (.box e c w) f k=k e c w:=Eq.trans (Eq.refl _) (Eq.refl _)
theorem tkArr_a (e wd n:Nat) (g:Nat→List V) (w:Bool) (f:R) (k:Nat→Nat→Nat→(Nat→List V)→Bool→R):tkArr (.arr e wd n g w) f k=k e wd n g w:=Eq.trans (Eq.refl _) (Eq.refl _)
theorem tkMp_m (a:Bool) (ks:List KS) (es:List (V × V)) (w:Bool) (f:R) (k:Bool→List KS→List (V × V)→Bool→R):tkMp (.mp a ks es w) f k=k a ks es w:=Eq.trans (Eq.refl _) (Eq.refl _)
theorem pT (a b:R):(bif true then a else b)=a:=Eq.trans (Eq.refl _) (Eq.refl _)
theorem pF (a b:R):(bif false then a else b)=b:=Eq.trans (Eq.refl _) (Eq.refl _)
end
theorem cAnd (a b:Bool):(bif a then some (Out.ret (.bool b)) else some (.ret (.bool false)))=some (.ret (.bool (a && b))):=by cases a<;>rfl
theorem cOr (a b:Bool):(bif a then some (Out.ret (.bool true)) else some (.ret (.bool b)))=some (.ret (.bool (a || b))):=by cases a<;>rfl
theorem wr {n:Int} (h:-9223372036854775808≤n∧n≤9223372036854775807):IntKind.i64.wrap n=n:=by rw[IntKind.wrap_i64];omega
theorem wrS {i:Nat} (h:i<4611686018427387904):IntKind.i64.wrap ((i:Int)+1)=((i+1:Nat):Int):=by rw[wr (by omega)];omega
theorem b2 {a b:Bool} (h:a=true↔b=true):a=b:=by cases a<;>cases b<;>simp_all
theorem b3 {a b:Bool} (h:a=b):some (Out.ret (.bool a))=some (.ret (.bool b)):=by rw[h]
abbrev Big:Nat:=4611686018427387904
abbrev SpanIn (p:Span) (a b:Int):Prop:=a≤p.lo∧p.lo≤p.hi∧p.hi≤b
abbrev SlcOk (x:Slc):Prop:=SpanIn x.vol 0 10000000000000∧(1000≤x.opn∧x.opn≤3000)∧(0≤x.fall∧x.fall≤x.opn - 1)∧SpanIn x.rate 0 300∧0≤x.most∧x.most≤10000000000000
abbrev CavOk (c:Cav):Prop:=(1≤c.slices.len∧c.slices.len≤10)∧(1≤c.hold∧c.hold≤300)∧(0≤c.oil∧c.oil≤10000000000000)∧∀ i,i<c.slices.len→SlcOk (c.slices.el i)
abbrev StgOk (n:Nat) (s:Stg):Prop:=(1≤s.water∧s.water≤1000000)∧(0≤s.into∧s.into<n)∧(0≤s.out∧s.out<n)∧s.into ≠ s.out∧0≤s.blanket∧s.blanket≤n
variable (F d:Nat)
theorem s59 (x y z:Int):(E F (d+1)).pf 44 [.int .i64 x,.int .i64 y,.int .i64 z]=some (.ret (.bool (decide (y≤x∧x≤z)))):=by
 rw[E_pf,t59];simp only[cAnd,Bool.decide_and,ge_iff_le]
theorem s98 (p:Span) (a n:Int):(E F (d+1)).pf 155 [.agg (eSpan p),.int .i64 a,.int .i64 n]=some (.ret (.bool (decide (SpanIn p a n)))):=by
 rw[E_pf,t98];simp only[cAnd,Bool.decide_and,ge_iff_le]
theorem s97 (x:Slc):(E F (d+2)).pf 154 [.agg (eSlc x)]=some (.ret (.bool (!decide (SlcOk x)))):=by
 rw[E_pf,t97];simp only[s98,s59,tkOut_ret,tkBool_b,cOr]
 refine b3 ?_
 by_cases h:1000≤x.opn∧x.opn≤3000
 ·rw[wr (by omega)]
  simp only[Bool.decide_and,Bool.not_and]
 ·simp[h]
theorem s67 (c:Cav) (s:Stg) (hB:c.slices.len<Big):(E F (d+2)).pf 158 [.agg (eCav c),.agg (eStg s)]=some (.ret (.bool (decide (StgOk c.slices.len s)))):=by
 rw[E_pf,t67];simp only[s59,tkOut_ret,tkBool_b,cAnd]
 have hB':c.slices.len<4611686018427387904:=hB
 rw[wr (by omega)]
 refine b3 (b2 ?_)
 simp only[Bool.and_eq_true,decide_eq_true_iff,bne_iff_ne,ne_eq]
 omega
theorem s108 (c:Cav) (s:Stg) (hB:c.slices.len<Big):(E F (d+3)).pf 157 [.agg (eStg s),.rptr 1 3 (fun _=>eCav c) 0 0]=some (.ret (.bool (!decide (StgOk c.slices.len s)))):=by
 rw[E_pf,t108];simp only[s67 F d c s hB,tkOut_ret,tkBool_b]
theorem s58 (n:Int):(E F (d+2)).pf 43 [.int .i64 n]=some (.ret (.bool (decide (-1000≤n∧n≤1000)))):=by
 rw[E_pf,t58];simp only[s59,tkOut_ret,tkBool_b]
theorem s61 (n:Int):(E F (d+3)).pf 46 [.int .i64 n,.rptr 1 1 (fun _=>[.fn (.func 43) [] []]) 0 0]=some (.ret (.bool (!decide (-1000≤n∧n≤1000)))):=by
 rw[E_pf,t61];simp only[s58,tkOut_ret,tkBool_b]
def ixF (p:Nat→Bool):Nat→Nat→Int
 |0,_=>-1
 |n+1,i=>bif p i then (i:Int) else ixF p n (i+1)
theorem ixF_ge (p:Nat→Bool):∀ n i,0≤ixF p n i↔∃ k,i≤k∧k<i+n∧p k=true:=by
 intro n
 induction n with
 |zero =>
  intro i;simp only[ixF];constructor<;>intro h
  ·omega
  ·obtain⟨k,h1,h2,_⟩:=h;omega
 |succ n ih =>
  intro i
  simp only[ixF]
  cases h:p i
  ·rw[cond_false,ih]
   constructor
   ·rintro⟨k,h1,h2,h3⟩;exact⟨k,by omega,by omega,h3⟩
   ·rintro⟨k,h1,h2,h3⟩
    refine⟨k,?_,by omega,h3⟩
    rcases Nat.eq_or_lt_of_le h1 with rfl | h4
    ·rw[h] at h3;cases h3
    ·omega
  ·rw[cond_true]
   exact⟨fun _=>⟨i,by omega,by omega,h⟩,fun _=>by omega⟩
theorem ge0 (p:Nat→Bool) (n:Nat):(!decide (0≤ixF p n 0))=decide (∀ i,i<n→p i=false):=by
 apply b2
 rw[Bool.not_eq_true',decide_eq_false_iff_not,decide_eq_true_iff,ixF_ge]
 constructor
 ·intro h i hi
  cases hp:p i
  ·rfl
  ·exact (h ⟨i,by omega,by omega,hp⟩).elim
 ·rintro h ⟨k,_,h2,h3⟩
  rw[h k (by omega)] at h3;cases h3
theorem l111 (l:Sl Slc) (hB:l.len<Big):∀ n i fu,l.len=i+n→n<fu →
 L111x0 (E F (d+2)) F l fu (i:Int)=some (.ret (.int .i64 (ixF (fun k=>!decide (SlcOk (l.el k))) n i))):=by
 intro n
 induction n with
 |zero =>
  intro i fu h hf
  obtain⟨fu,rfl⟩:=ex1 (n:=fu) (by omega)
  rw[L111x0s]
  simp only[Int.ofNat_lt,show ¬ i<l.len by omega,decide_false,cond_false,ixF]
 |succ n ih =>
  intro i fu h hf
  obtain⟨fu,rfl⟩:=ex1 (n:=fu) (by omega)
  rw[L111x0s]
  simp only[Int.ofNat_lt,show i<l.len by omega,decide_true,cond_true,Int.natCast_nonneg,tnC,s97,tkOut_ret,tkBool_b,wrS (show i<Big by omega),ih (i+1) fu (by omega) (by omega),ixF]
  cases decide (SlcOk (l.el i))<;>rfl
theorem l114 (c:Cav) (l:Sl Stg) (hC:c.slices.len<Big) (hB:l.len<Big):∀ n i fu,l.len=i+n→n<fu →
 L114x0 (E F (d+3)) F c l fu (i:Int)=some (.ret (.int .i64 (ixF (fun k=>!decide (StgOk c.slices.len (l.el k))) n i))):=by
 intro n
 induction n with
 |zero =>
  intro i fu h hf
  obtain⟨fu,rfl⟩:=ex1 (n:=fu) (by omega)
  rw[L114x0s]
  simp only[Int.ofNat_lt,show ¬ i<l.len by omega,decide_false,cond_false,ixF]
 |succ n ih =>
  intro i fu h hf
  obtain⟨fu,rfl⟩:=ex1 (n:=fu) (by omega)
  rw[L114x0s]
  simp only[Int.ofNat_lt,show i<l.len by omega,decide_true,cond_true,Int.natCast_nonneg,tnC,s108 F d c _ hC,tkOut_ret,tkBool_b,wrS (show i<Big by omega),ih (i+1) fu (by omega) (by omega),ixF]
  cases decide (StgOk c.slices.len (l.el i))<;>rfl
theorem lD2 (w:Sl Int) (hB:w.len<Big):∀ n i fu,w.len=i+n→n<fu →
 LD2x0 (E F (d+3)) F w fu (i:Int)=some (.ret (.int .i64 (ixF (fun k=>!decide (-1000≤w.el k∧w.el k≤1000)) n i))):=by
 intro n
 induction n with
 |zero =>
  intro i fu h hf
  obtain⟨fu,rfl⟩:=ex1 (n:=fu) (by omega)
  rw[LD2x0s]
  simp only[Int.ofNat_lt,show ¬ i<w.len by omega,decide_false,cond_false,ixF]
 |succ n ih =>
  intro i fu h hf
  obtain⟨fu,rfl⟩:=ex1 (n:=fu) (by omega)
  rw[LD2x0s]
  simp only[Int.ofNat_lt,show i<w.len by omega,decide_true,cond_true,Int.natCast_nonneg,tnC,s61,tkOut_ret,tkBool_b,wrS (show i<Big by omega),ih (i+1) fu (by omega) (by omega),ixF]
  cases decide (-1000≤w.el i∧w.el i≤1000)<;>rfl
theorem s96 (l:Sl Slc) (hB:l.len<Big) (hF:l.len<F):(E F (d+4)).pf 153 [sl eSlc 7 l,.fn (.func 154) [] []]=some (.ret (.bool (!decide (∀ i,i<l.len→SlcOk (l.el i))))):=by
 rw[E_pf,t96,E_pf,t111,show L111x0 (E F (d+2)) F l F 0=_ from l111 F d l hB l.len 0 F (by omega) hF]
 simp only[tkOut_ret,tkInt_i,decide_true,cond_true,ge_iff_le]
 refine b3 (Bool.not_inj ?_)
 rw[Bool.not_not]
 exact (ge0 _ _).trans (by simp only[Bool.not_eq_false',decide_eq_true_eq])
theorem s107 (c:Cav) (l:Sl Stg) (hC:c.slices.len<Big) (hB:l.len<Big) (hF:l.len<F):(E F (d+5)).pf 156 [sl eStg 4 l,.fn (.func 157) [] [.rptr 1 3 (fun _=>eCav c) 0 0]]=some (.ret (.bool (!decide (∀ i,i<l.len→StgOk c.slices.len (l.el i))))):=by
 rw[E_pf,t107,E_pf,t114,show L114x0 (E F (d+3)) F c l F 0=_ from l114 F d c l hC hB l.len 0 F (by omega) hF]
 simp only[tkOut_ret,tkInt_i,decide_true,cond_true,ge_iff_le]
 refine b3 (Bool.not_inj ?_)
 rw[Bool.not_not]
 exact (ge0 _ _).trans (by simp only[Bool.not_eq_false',decide_eq_true_eq])
theorem sK4 (w:Sl Int) (hB:w.len<Big) (hF:w.len<F):(E F (d+5)).pf 45 [sl eInt 1 w,.fn (.func 46) [] [.rptr 1 1 (fun _=>[.fn (.func 43) [] []]) 0 0]]=some (.ret (.bool (!decide (∀ i,i<w.len→-1000≤w.el i∧w.el i≤1000)))):=by
 rw[E_pf,tK4,E_pf,tD2,show LD2x0 (E F (d+3)) F w F 0=_ from lD2 F d w hB w.len 0 F (by omega) hF]
 simp only[tkOut_ret,tkInt_i,decide_true,cond_true,ge_iff_le]
 refine b3 (Bool.not_inj ?_)
 rw[Bool.not_not]
 exact (ge0 _ _).trans (by simp only[Bool.not_eq_false',decide_eq_true_eq])
theorem s90 (c:Cav) (l:Sl Stg) (hC:c.slices.len<Big) (hB:l.len<Big) (hF:l.len<F):(E F (d+6)).pf 99 [.agg (eCav c),sl eStg 4 l]=some (.ret (.bool (decide (∀ i,i<l.len→StgOk c.slices.len (l.el i))))):=by
 rw[E_pf,t90];simp only[s107 F d c l hC hB hF,tkOut_ret,tkBool_b,Bool.not_not]
theorem s66 (c:Cav) (hB:c.slices.len<Big) (hF:c.slices.len<F):(E F (d+5)).pf 98 [.agg (eCav c)]=some (.ret (.bool (decide (CavOk c)))):=by
 rw[E_pf,t66];simp only[s59,s96 F d c.slices hB hF,tkOut_ret,tkBool_b,cAnd,Bool.not_not]
 refine b3 (b2 ?_)
 have e:((1:Int)≤(c.slices.len:Int)∧(c.slices.len:Int)≤10)↔(1≤c.slices.len∧c.slices.len≤10):=by omega
 simp only[Bool.and_eq_true,decide_eq_true_iff,e,CavOk]
theorem s57 (c:Cav) (l:Sl Stg) (hC:c.slices.len<Big) (hCF:c.slices.len<F) (hB:l.len<Big) (hF:l.len<F):(E F (d+7)).pf 42 [.agg (eCav c),sl eStg 4 l] =
 some (.ret (.int .i64 (if 8<l.len then 3 else if CavOk c∧∀ i,i<l.len→StgOk c.slices.len (l.el i) then 0 else 2))):=by
 rw[E_pf,t57];simp only[s66 F (d+1) c hC hCF,s90 F d c l hC hB hF,tkOut_ret,tkBool_b]
 by_cases h1:8<l.len
 ·simp[h1,show (8:Int)<(l.len:Int) by omega]
 ·simp only[show ¬ (8:Int)<(l.len:Int) by omega,h1,decide_false,cond_false,if_false]
  by_cases h2:CavOk c
  ·by_cases h3:∀ i,i<l.len→StgOk c.slices.len (l.el i)
   ·rw[if_pos ⟨h2,h3⟩,dT h2,dT h3];rfl
   ·rw[if_neg (fun h=>h3 h.2),dT h2,dF h3];rfl
  ·rw[if_neg (fun h=>h2 h.1),dF h2];rfl
end Go.Sim.Le

namespace Go.Sim.Le
open Go.Proofs
variable (F d:Nat)
abbrev WtOk (c:Cav) (w:Sl Int) (m:Int):Prop:=(∀ i,i<w.len→-1000≤w.el i∧w.el i≤1000)∧w.len=c.slices.len∧(-1000≤m∧m≤1000)
def errP (c:Cav) (l:Sl Stg) (fine:Bool):Int:=if 8<l.len then 3 else if CavOk c∧(∀ i,i<l.len→StgOk c.slices.len (l.el i))∧fine=true then 0 else 2
theorem s57e (c:Cav) (l:Sl Stg) (hC:c.slices.len<Big) (hCF:c.slices.len<F) (hB:l.len<Big) (hF:l.len<F):(E F (d+7)).pf 42 [.agg (eCav c),sl eStg 4 l]=some (.ret (.int .i64 (errP c l true))):=by
 rw[s57 F d c l hC hCF hB hF];simp[errP]
end Go.Sim.Le

namespace Go.Sim.Le
open Go.Proofs
section
variable {α:Type} (e:α→List V) (z:α)
def gl (ms:List α):Nat→List V:=fun j=>e (ms.getD j (ms.getLastD z))
variable {e z}
theorem gl_one {l:List V} {m:α} (hl:l=e m):(fun _:Nat=>l)=gl e z [m]:=by
 subst hl
 funext j
 unfold gl
 cases j<;>rfl
theorem gl_snoc {l:List V} {m:α} {ms:List α} {k:Nat} (hk:ms.length=k) (hl:l=e m):appGet k (gl e z ms) (fun _=>l)=gl e z (ms ++ [m]):=by
 subst hl hk
 funext j
 unfold appGet gl
 rw[List.getLastD_concat,List.getD_eq_getElem?_getD,List.getD_eq_getElem?_getD]
 by_cases h:j<ms.length
 ·rw[if_pos h,List.getElem?_append_left h,List.getElem?_eq_getElem h];rfl
 ·rw[if_neg h,List.getElem?_append_right (by omega)]
  rcases Nat.eq_zero_or_pos (j - ms.length) with h0 | h0
  ·rw[h0];rfl
  ·rw[List.getElem?_eq_none (by simp;omega)];rfl
end
def pathN (s:Stg):Nat:=if s.out<s.into then (s.into - s.out).toNat+1 else (s.out - s.into).toNat+1
def stepOf (s:Stg):Int:=if s.out<s.into then -1 else 1
def pathAt (s:Stg) (k:Nat):Int:=s.into+stepOf s*(k:Int)
theorem pathAt_0 (s:Stg):pathAt s 0=s.into:=by simp[pathAt]
theorem pathAt_last (s:Stg):pathAt s (pathN s - 1)=s.out:=by
 unfold pathAt pathN stepOf
 split
 ·rw[show (((s.into - s.out).toNat+1 - 1:Nat):Int)=s.into - s.out by omega];omega
 ·rw[show (((s.out - s.into).toNat+1 - 1:Nat):Int)=s.out - s.into by omega];omega
theorem pathAt_ne (s:Stg) {k:Nat} (h:k+1<pathN s):pathAt s k ≠ s.out:=by
 unfold pathAt stepOf
 unfold pathN at h
 split at h
 ·rename_i hd;rw[if_pos hd];omega
 ·rename_i hd;rw[if_neg hd];omega
theorem pathAt_in {n:Nat} {s:Stg} (hs:StgOk n s) {k:Nat} (h:k<pathN s):0≤pathAt s k∧pathAt s k<n:=by
 obtain⟨_,h1,h2,h3,_⟩:=hs
 unfold pathAt stepOf
 unfold pathN at h
 split at h
 ·rename_i hd;rw[if_pos hd];omega
 ·rename_i hd;rw[if_neg hd];omega
theorem pathN_le {n:Nat} {s:Stg} (hs:StgOk n s):pathN s≤n:=by
 obtain⟨_,h1,h2,h3,_⟩:=hs
 unfold pathN
 split<;>omega
theorem pathAt_S (s:Stg) (k:Nat):pathAt s (k+1)=pathAt s k+stepOf s:=by
 unfold pathAt
 rw[Int.natCast_add,Int.mul_add]
 simp[Int.add_assoc]
def pathL (s:Stg) (n:Nat):List Int:=(List.range n).map (pathAt s)
theorem pathL_S (s:Stg) (n:Nat):pathL s (n+1)=pathL s n ++ [pathAt s n]:=by
 unfold pathL;rw[List.range_succ,List.map_append];rfl
theorem pathL_len (s:Stg) (n:Nat):(pathL s n).length=n:=by simp[pathL]
theorem pathL_get (s:Stg) {n j:Nat} (h:j<n) (z:Int):(pathL s n).getD j z=pathAt s j:=by
 unfold pathL
 rw[List.getD_eq_getElem?_getD,List.getElem?_map,List.getElem?_range h];rfl
variable (F d:Nat)
def pathSl (s:Stg):Sl Int:=⟨false,pathN s,fun j=>(pathL s (pathN s)).getD j ((pathL s (pathN s)).getLastD 0)⟩
theorem pathSl_el (s:Stg) {j:Nat} (h:j<pathN s):(pathSl s).el j=pathAt s j:=pathL_get s h _
theorem s68 (s:Stg):(E F (d+1)).pf 160 [.agg (eStg s)]=some (.ret (.fn (.func 185) [] [.rptr 1 4 (fun _=>eStg s) 0 0])):=by
 rw[E_pf,t68]
end Go.Sim.Le

namespace Go.Sim.Le
open Go.Proofs
variable (F d:Nat)
def timesS (p:Span) (n:Int):Span:=if n<0 then ⟨n*p.hi,n*p.lo⟩ else ⟨n*p.lo,n*p.hi⟩
abbrev I64 (n:Int):Prop:=-9223372036854775808≤n∧n≤9223372036854775807
theorem s86 (p:Span) (n:Int) (h1:I64 (n*p.lo)) (h2:I64 (n*p.hi)):(E F (d+1)).pf 159 [.agg (eSpan p),.int .i64 n]=some (.ret (.agg (eSpan (timesS p n)))):=by
 rw[E_pf,t86,wr h1,wr h2]
 unfold timesS
 by_cases h:n<0
 ·rw[dT h,cond_true,if_pos h]
 ·rw[dF h,cond_false,if_neg h]
def gainI (c:Cav) (m:Mea) (i:Nat):Int:=(c.slices.el i).opn*m.weights.el i+(c.slices.el i).fall*m.sump
theorem s110 (c:Cav) (m:Mea) (n:Int) (h0:0≤n) (h1:n<c.slices.len) (hl:m.weights.len=c.slices.len) (hw:I64 ((c.slices.el n.toNat).opn*m.weights.el n.toNat)) (hv:I64 ((c.slices.el n.toNat).fall*m.sump)) (hg:I64 (gainI c m n.toNat)) :
 (E F (d+1)).pf 162 [.agg (eCav c),.agg (eMea m),.int .i64 n]=some (.ret (.int .i64 (gainI c m n.toNat))):=by
 rw[E_pf,t110,wr hw,wr hv]
 simp only[h0,h1,show n<(m.weights.len:Int) by omega,decide_true,cond_true]
 unfold gainI at hg ⊢
 rw[wr hg]
end Go.Sim.Le

namespace Go.Sim.Le
open Go.Proofs
theorem mnE (a b:Int):(if b<a then b else a)=min a b:=by omega
theorem mxE (a b:Int):(if a<b then b else a)=max a b:=by omega
abbrev slAt (c:Cav) (s:Stg) (k:Nat):Slc:=c.slices.el (pathAt s k).toNat
theorem slcOk_at {c:Cav} (hc:CavOk c) {s:Stg} (hs:StgOk c.slices.len s) {k:Nat} (h:k<pathN s):SlcOk (slAt c s k):=by
 have:=pathAt_in hs h
 exact hc.2.2.2 _ (by omega)
variable (F d:Nat)
end Go.Sim.Le

namespace Go.Sim.Le
open Go.Proofs
def addS (p q:Span):Span:=⟨p.lo+q.lo,p.hi+q.hi⟩
variable (F d:Nat)
theorem pairGet (p q:Span):(fun u:Nat=>List.take 2 (List.drop (Min.min u 1*2) [V.int .i64 p.lo,V.int .i64 p.hi,V.int .i64 q.lo,V.int .i64 q.hi]))=fun i=>eSpan (if i=0 then p else q):=by
 funext i
 match i with
 |0=>rfl
 |i+1=>simp[show Min.min (i+1) 1=1 by omega]
theorem s85g (env:Env) (F:Nat) (a:Sl Span) (hl:a.len=2) (h1:I64 (a.el 0).lo) (h2:I64 (a.el 0).hi) (h3:I64 ((a.el 0).lo+(a.el 1).lo)) (h4:I64 ((a.el 0).hi+(a.el 1).hi)) :
 evFun Tryz.prog (cfg (F+3)) env 102 [sl eSpan 2 a]=some (.ret (.agg (eSpan (addS (a.el 0) (a.el 1))))):=by
 rw[t85,L85x0s,dT (by omega),cond_true,dT (by omega),cond_true,cond_true,Int.toNat_zero,Int.zero_add,Int.zero_add,Int.zero_add,wr (by decide),wr h1,wr h2]
 rw[L85x0s,dT (by omega),cond_true,dT (by omega),cond_true,cond_true,show (1:Int).toNat=1 from rfl,wr h3,wr h4,wr (by decide)]
 rw[L85x0s,dF (by omega),cond_false]
 rfl
theorem s85 (p q:Span) (hF:20<F) (h1:I64 p.lo) (h2:I64 p.hi) (h3:I64 (p.lo+q.lo)) (h4:I64 (p.hi+q.hi)) :
 (E F (d+1)).pf 102 [.row false 2 2 (fun u=>List.take 2 (List.drop (Min.min u 1*2) [V.int .i64 p.lo,V.int .i64 p.hi,V.int .i64 q.lo,V.int .i64 q.hi]))]=some (.ret (.agg (eSpan (addS p q)))):=by
 obtain⟨F,rfl⟩:∃ k,F=k+3:=⟨F - 3,by omega⟩
 rw[pairGet,E_pf]
 exact s85g (E (F+3) d) F ⟨false,2,fun i=>if i=0 then p else q⟩ rfl h1 h2 h3 h4
abbrev MeaOk (c:Cav) (m:Mea):Prop:=m.weights.len=c.slices.len∧(∀ i,i<c.slices.len→-1000≤m.weights.el i∧m.weights.el i≤1000)∧-1000≤m.sump∧m.sump≤1000
theorem mul_in {a b x y:Int} (h1:-x≤a) (h2:a≤x) (h3:0≤b) (h4:b≤y):-(x*y)≤a*b∧a*b≤x*y:=by
 have hx:0≤x:=by omega
 constructor
 ·have:-a*b≤x*y:=Int.mul_le_mul (by omega) h4 h3 hx
  rw[Int.neg_mul] at this;omega
 ·exact Int.mul_le_mul h2 h4 h3 hx
def firstS (c:Cav) (m:Mea):Nat→Span
 |0=>⟨0,0⟩
 |k+1=>addS (firstS c m k) (timesS (c.slices.el k).vol (m.weights.el k))
theorem times_in {p:Span} {n x y:Int} (h1:-x≤n) (h2:n≤x) (h3:0≤p.lo) (h4:p.lo≤p.hi) (h5:p.hi≤y):(-(x*y)≤n*p.lo∧n*p.lo≤x*y)∧(-(x*y)≤n*p.hi∧n*p.hi≤x*y):=⟨mul_in h1 h2 h3 (by omega),mul_in h1 h2 (by omega) h5⟩
theorem timesS_in {p:Span} {n z:Int} (h:(-z≤n*p.lo∧n*p.lo≤z)∧(-z≤n*p.hi∧n*p.hi≤z)):(-z≤(timesS p n).lo∧(timesS p n).lo≤z)∧(-z≤(timesS p n).hi∧(timesS p n).hi≤z):=by
 unfold timesS
 split
 ·exact⟨h.2,h.1⟩
 ·exact h
theorem vol_in {c:Cav} (hc:CavOk c) {m:Mea} (hm:MeaOk c m) {k:Nat} (h:k<c.slices.len):(-10000000000000000≤m.weights.el k*(c.slices.el k).vol.lo∧m.weights.el k*(c.slices.el k).vol.lo≤10000000000000000)∧(-10000000000000000≤m.weights.el k*(c.slices.el k).vol.hi∧m.weights.el k*(c.slices.el k).vol.hi≤10000000000000000):=by
 have h1:=(hc.2.2.2 k h).1
 have h2:=hm.2.1 k h
 exact times_in (x:=1000) (y:=10000000000000) h2.1 h2.2 h1.1 h1.2.1 h1.2.2
theorem first_in {c:Cav} (hc:CavOk c) {m:Mea} (hm:MeaOk c m):∀ k,k≤c.slices.len→(-(10000000000000000*(k:Int))≤(firstS c m k).lo∧(firstS c m k).lo≤10000000000000000*k)∧(-(10000000000000000*(k:Int))≤(firstS c m k).hi∧(firstS c m k).hi≤10000000000000000*k):=by
 intro k
 induction k with
 |zero=>intro _;simp[firstS]
 |succ k ih =>
  intro h
  have h1:=ih (by omega)
  have h2:=timesS_in (z:=10000000000000000) (vol_in hc hm (k:=k) (by omega))
  simp only[firstS,addS]
  omega
theorem l92 (c:Cav) (hc:CavOk c) (m:Mea) (hm:MeaOk c m) (hF:20<F):∀ j k fu,k+j=c.slices.len→j<fu →
 L92x0 (E F (d+1)) F c m fu k .i64 (firstS c m k).lo .i64 (firstS c m k).hi=some (.ret (.agg (eSpan (firstS c m c.slices.len)))):=by
 intro j
 have hl:=hc.1
 have hw:=hm.1
 induction j with
 |zero =>
  intro k fu h hf
  obtain⟨fu,rfl⟩:=ex1 (n:=fu) (by omega)
  rw[L92x0s]
  have hk:k=c.slices.len:=by omega
  subst hk
  simp (disch:=omega) only[dF,decide_false,cond_false]
 |succ j ih =>
  intro k fu h hf
  obtain⟨fu,rfl⟩:=ex1 (n:=fu) (by omega)
  have h1:=vol_in hc hm (k:=k) (by omega)
  have h2:=first_in hc hm k (by omega)
  have h3:=first_in hc hm (k+1) (by omega)
  simp only[firstS,addS] at h3
  rw[L92x0s]
  have e5:=s85 F d (firstS c m k) (timesS (c.slices.el k).vol (m.weights.el k)) hF (by omega) (by omega) (by omega) (by omega)
  simp (disch:=omega) only[dT,decide_true,cond_true,tnC,s86,tkOut_ret,tkAgg_a,tkCons_c,tkInt_i,tkNil_n,e5]
  rw[wrS (by omega)]
  exact ih (k+1) fu (by omega) (by omega)
theorem s92 (c:Cav) (hc:CavOk c) (m:Mea) (hm:MeaOk c m) (hF:20<F):(E F (d+2)).pf 101 [.agg (eCav c),.agg (eMea m)]=some (.ret (.agg (eSpan (firstS c m c.slices.len)))):=by
 rw[E_pf,t92]
 have hl:=hc.1
 exact l92 F d c hc m hm hF c.slices.len 0 F (by omega) (by omega)
section
variable {κ:Type} (ek ev:κ→V)
def encM (ks:List κ):List (V × V):=ks.map fun k=>(ek k,ev k)
variable {ek ev}
theorem mget_enc [DecidableEq κ] (he:∀ a b,keyEq (ek a) (ek b)=decide (a=b)) (k:κ):∀ ks,mget (encM ek ev ks) (ek k)=if k ∈ ks then some (ev k) else none:=by
 intro ks
 induction ks with
 |nil=>rfl
 |cons a ks ih =>
  simp only[encM,List.map,mget,he]
  by_cases h:a=k
  ·subst h;simp
  ·rw[dF h,cond_false]
   have:(k ∈ a :: ks)↔k ∈ ks:=by simp[show ¬ k=a from fun e=>h e.symm]
   simp only[this]
   exact ih
theorem mput_enc [DecidableEq κ] (he:∀ a b,keyEq (ek a) (ek b)=decide (a=b)) (k:κ):∀ ks,k ∉ ks→mput (encM ek ev ks) (ek k) (ev k)=encM ek ev (ks ++ [k]):=by
 intro ks
 induction ks with
 |nil=>intro _;rfl
 |cons a ks ih =>
  intro h
  simp only[encM,List.map,mput,he,List.cons_append]
  rw[dF (fun e=>h (by simp[e])),cond_false]
  exact congrArg _ (ih fun e=>h (by simp[e]))
theorem encM_len (ks:List κ):(encM ek ev ks).length=ks.length:=by simp[encM]
end
end Go.Sim.Le

namespace Go.Sim.Le
open Go.Proofs
def bestLo (f:Int→Int) (a:Int):Nat→Int
 |0=>f a
 |j+1=>min (bestLo f a j) (f (a+((j+1:Nat):Int)))
def bestHi (f:Int→Int) (a:Int):Nat→Int
 |0=>f a
 |j+1=>max (bestHi f a j) (f (a+((j+1:Nat):Int)))
def restS (c:Cav) (m:Mea) (s:Stg):Nat→Int→Span
 |0,_=>⟨0,0⟩
 |r+1,b =>
  let x:=slAt c s (pathN s - (r+1))
  let g:=gainI c m (pathAt s (pathN s - (r+1))).toNat
  let a:=min x.rate.lo b
  ⟨bestLo (fun n=>(restS c m s r (b - n)).lo+n*g) a (min x.rate.hi b - a).toNat,bestHi (fun n=>(restS c m s r (b - n)).hi+n*g) a (min x.rate.hi b - a).toNat⟩
theorem bestLo_in {f:Int→Int} {a L H:Int}:∀ j:Nat,(∀ n,a≤n→n≤a+j→L≤f n∧f n≤H)→L≤bestLo f a j∧bestLo f a j≤H:=by
 intro j
 induction j with
 |zero=>intro h;exact h a (by omega) (by omega)
 |succ j ih =>
  intro h
  have h1:=ih fun n h1 h2=>h n h1 (by omega)
  have h2:=h (a+((j+1:Nat):Int)) (by omega) (by omega)
  simp only[bestLo]
  omega
theorem bestHi_in {f:Int→Int} {a L H:Int}:∀ j:Nat,(∀ n,a≤n→n≤a+j→L≤f n∧f n≤H)→L≤bestHi f a j∧bestHi f a j≤H:=by
 intro j
 induction j with
 |zero=>intro h;exact h a (by omega) (by omega)
 |succ j ih =>
  intro h
  have h1:=ih fun n h1 h2=>h n h1 (by omega)
  have h2:=h (a+((j+1:Nat):Int)) (by omega) (by omega)
  simp only[bestHi]
  omega
theorem gain_in {c:Cav} (hc:CavOk c) {m:Mea} (hm:MeaOk c m) {k:Nat} (h:k<c.slices.len):(-3000000≤(c.slices.el k).opn*m.weights.el k∧(c.slices.el k).opn*m.weights.el k≤3000000)∧(-3000000≤(c.slices.el k).fall*m.sump∧(c.slices.el k).fall*m.sump≤3000000)∧-6000000≤gainI c m k∧gainI c m k≤6000000:=by
 have h1:=hc.2.2.2 k h
 have h2:=hm.2.1 k h
 have h3:=hm.2.2
 obtain⟨_,⟨h4,h5⟩,⟨h6,h7⟩,_⟩:=h1
 have e1:=mul_in (a:=m.weights.el k) (b:=(c.slices.el k).opn) (x:=1000) (y:=3000) h2.1 h2.2 (by omega) h5
 have e2:=mul_in (a:=m.sump) (b:=(c.slices.el k).fall) (x:=1000) (y:=3000) h3.1 h3.2 h6 (by omega)
 rw[Int.mul_comm] at e1 e2
 unfold gainI
 rw[Int.mul_comm] at e1 e2
 rw[Int.mul_comm (c.slices.el k).opn,Int.mul_comm (c.slices.el k).fall]
 omega
theorem mulg {n g z:Int} (h0:0≤n) (h1:-z≤g) (h2:g≤z):-(z*n)≤n*g∧n*g≤z*n:=by
 have a:=Int.mul_le_mul_of_nonneg_left h1 h0
 have b:=Int.mul_le_mul_of_nonneg_left h2 h0
 rw[Int.mul_neg] at a
 rw[Int.mul_comm z n]
 omega
theorem rest_in {c:Cav} (hc:CavOk c) {m:Mea} (hm:MeaOk c m) {s:Stg} (hs:StgOk c.slices.len s):∀ r,r≤pathN s→∀ b,0≤b→(-(6000000*b)≤(restS c m s r b).lo∧(restS c m s r b).lo≤6000000*b)∧(-(6000000*b)≤(restS c m s r b).hi∧(restS c m s r b).hi≤6000000*b):=by
 intro r
 induction r with
 |zero=>intro _ b h;simp only[restS];omega
 |succ r ih =>
  intro h b hb
  have hk:=pathAt_in hs (k:=pathN s - (r+1)) (by omega)
  have hg:=(gain_in hc hm (k:=(pathAt s (pathN s - (r+1))).toNat) (by omega)).2.2
  have ho:SpanIn (slAt c s (pathN s - (r+1))).rate 0 300:=(slcOk_at hc hs (k:=pathN s - (r+1)) (by omega)).2.2.2.1
  unfold SpanIn at ho
  simp only[restS]
  generalize (slAt c s (pathN s - (r+1))).rate.lo=lo at ho ⊢
  generalize (slAt c s (pathN s - (r+1))).rate.hi=hi at ho ⊢
  generalize gainI c m (pathAt s (pathN s - (r+1))).toNat=g at hg ⊢
  constructor
  ·refine bestLo_in _ fun n h1 h2=>?_
   have h3:=(ih (by omega) (b - n) (by omega)).1
   have h4:=mulg (n:=n) (by omega) hg.1 hg.2
   omega
  ·refine bestHi_in _ fun n h1 h2=>?_
   have h3:=(ih (by omega) (b - n) (by omega)).2
   have h4:=mulg (n:=n) (by omega) hg.1 hg.2
   omega
section
variable (c:Cav) (m:Mea) (s:Stg)
def mK (p:Nat × Int):V:=.agg [.int .i64 p.1,.int .i64 p.2]
def mV (p:Nat × Int):V:=.agg (eSpan (restS c m s (pathN s - p.1) p.2))
abbrev Mem (ks:List (Nat × Int)):Prop:=ks.Nodup∧∀ p ∈ ks,p.1<10∧0≤p.2∧p.2≤300
theorem mK_eq (p q:Nat × Int):keyEq (mK p) (mK q)=decide (p=q):=by
 obtain⟨a,b⟩:=p
 obtain⟨a',b'⟩:=q
 apply b2
 simp[mK,keyEq,keysEq,keyEq1]
 omega
theorem mem_len {ks:List (Nat × Int)} (h:Mem ks):ks.length≤3010:=by
 have h1:ks ⊆ (List.range 10).flatMap fun i=>(List.range 301).map fun j=>(i,((j:Nat):Int)):=by
  intro p hp
  obtain⟨a1,a2,a3⟩:=h.2 p hp
  simp only[List.mem_flatMap,List.mem_range,List.mem_map]
  refine⟨p.1,a1,p.2.toNat,by omega,?_⟩
  rw[Int.toNat_of_nonneg a2]
 have h2:=h.1.length_le_of_subset h1
 rw[show ((List.range 10).flatMap fun i=>(List.range 301).map fun j=>(i,((j:Nat):Int))).length=3010 by decide +kernel] at h2
 exact h2
abbrev memH (N:Nat) (es:List (V × V)):List Slot:=[.box 25 [.osl 5 0 N] true,.box 243 [.mapr 6] true,.box 125 (eCav c) true,.box 130 (eMea m) true,.box 244 [.fn (.func 161) [] [.optr 0 0 0,.optr 1 0 0,.optr 2 0 0,.optr 3 0 0,.optr 4 0 0]] true,.arr 3 1 N (fun i=>eInt ((pathSl s).el i)) true,.mp true [.int .i64,.int .i64] es true]
end
theorem p63:(2:Int) ^ 63=9223372036854775808:=rfl
theorem samO (N:Nat):sameV 8 (.osl 5 0 N) (.osl 5 0 N)=true:=by simp only[sameV,Nat.beq_refl,Bool.and_self]
theorem samM:sameV 8 (.mapr 6) (.mapr 6)=true:=rfl
theorem samF:sameV 8 (.fn (.func 161) [] [.optr 0 0 0,.optr 1 0 0,.optr 2 0 0,.optr 3 0 0,.optr 4 0 0]) (.fn (.func 161) [] [.optr 0 0 0,.optr 1 0 0,.optr 2 0 0,.optr 3 0 0,.optr 4 0 0])=true:=rfl
theorem ks2:ksEq [.int .i64,.int .i64] [.int .i64,.int .i64]=true:=rfl
variable (F d:Nat)
theorem mput_mem {κ:Type} [DecidableEq κ] {ek ev:κ→V} (he:∀ a b,keyEq (ek a) (ek b)=decide (a=b)) (k:κ):∀ ks,k ∈ ks→mput (encM ek ev ks) (ek k) (ev k)=encM ek ev ks:=by
 intro ks
 induction ks with
 |nil=>intro h;simp at h
 |cons a ks ih =>
  intro h
  simp only[encM,List.map,mput,he]
  by_cases e:a=k
  ·rw[dT e,cond_true,e]
  ·rw[dF e,cond_false]
   refine congrArg _ (ih ?_)
   rcases List.mem_cons.1 h with h | h
   ·exact (e h.symm).elim
   ·exact h
theorem mput_some {κ:Type} [DecidableEq κ] {ek ev:κ→V} (he:∀ a b,keyEq (ek a) (ek b)=decide (a=b)) {P:κ→Prop} (k:κ) (hk:P k) {ks:List κ} (h:ks.Nodup∧∀ p ∈ ks,P p) :
 ∃ ks',(ks'.Nodup∧∀ p ∈ ks',P p)∧mput (encM ek ev ks) (ek k) (ev k)=encM ek ev ks':=by
 by_cases hm:k ∈ ks
 ·exact⟨ks,h,mput_mem he k ks hm⟩
 ·refine⟨ks ++ [k],⟨?_,?_⟩,mput_enc he k ks hm⟩
  ·rw[List.nodup_append]
   exact⟨h.1,by simp,fun a ha b hb e=>hm (by rw[List.mem_singleton] at hb;rw[← hb,← e];exact ha)⟩
  ·intro p hp
   rcases List.mem_append.1 hp with hp | hp
   ·exact h.2 p hp
   ·rw[List.mem_singleton] at hp;rw[hp];exact hk
end Go.Sim.Le

namespace Go.Sim.Le
open Go.Proofs
variable (F d:Nat)
theorem l109 {c:Cav} (hc:CavOk c) {m:Mea} (hm:MeaOk c m) {s:Stg} (hs:StgOk c.slices.len s) (D r k:Nat) (hk:k+(r+1)=pathN s) (b:Int) (hb:0≤b∧b≤300) (es:List (V × V))
 (IH:∀ b ks,0≤b→b≤300→Mem ks→∃ ks',Mem ks'∧(E F D).hv 161 [.agg [.int .i64 ((k+1:Nat):Int),.int .i64 b],.optr 0 0 0,.optr 1 0 0,.optr 2 0 0,.optr 3 0 0,.optr 4 0 0] (memH c m s (pathN s) (encM mK (mV c m s) ks))=some (.ret (.agg (eSpan (restS c m s r b))),memH c m s (pathN s) (encM mK (mV c m s) ks'))) :
 let x:=slAt c s k
 let g:=gainI c m (pathAt s k).toNat
 let a:=min x.rate.lo b
 let fl:=fun n=>(restS c m s r (b - n)).lo+n*g
 let fh:=fun n=>(restS c m s r (b - n)).hi+n*g
 ∀ j t fu ks,t+j=(min x.rate.hi b - a).toNat→j<fu→Mem ks→∃ ks',Mem ks' ∧
  L109x0 (E F D) F c m k b (pathN s) (pathSl s).el es fu .i64 g (a+((t+1:Nat):Int)) .i64 (bestLo fl a t) .i64 (bestHi fh a t) c.slices.nl c.slices.len 7 (fun u=>eSlc (c.slices.el u)) .i64 c.hold .i64 c.oil m.weights.nl m.weights.len 1 (fun u=>[.int .i64 (m.weights.el u)]) .i64 m.sump (fun u=>[.int .i64 ((pathSl s).el u)]) (encM mK (mV c m s) ks)
   = some (.ret (.agg (eSpan (restS c m s (r+1) b))),memH c m s (pathN s) (encM mK (mV c m s) ks')):=by
 intro x g a fl fh
 have hp:=pathN_le hs
 have hin:=pathAt_in hs (k:=k) (by omega)
 have hl:=hc.1
 have hg:-6000000≤g∧g≤6000000:=(gain_in hc hm (k:=(pathAt s k).toNat) (by omega)).2.2
 have ho:SpanIn (c.slices.el (pathAt s k).toNat).rate 0 300:=(slcOk_at hc hs (k:=k) (by omega)).2.2.2.1
 unfold SpanIn at ho
 have hkN:pathN s - (r+1)=k:=by omega
 have hR:=fun b h=>rest_in hc hm hs r (by omega) b h
 have ha:a=min (c.slices.el (pathAt s k).toNat).rate.lo b:=rfl
 have hx:x.rate.hi=(c.slices.el (pathAt s k).toNat).rate.hi:=rfl
 have hE:restS c m s (r+1) b=⟨bestLo fl a (min x.rate.hi b - a).toNat,bestHi fh a (min x.rate.hi b - a).toNat⟩:=by
  rw[restS,hkN]
 intro j
 induction j with
 |zero =>
  intro t fu ks h hf hM
  obtain⟨fu,rfl⟩:=ex1 (n:=fu) (by omega)
  have hlen:=mem_len hM
  obtain⟨ks',hM',e'⟩:=mput_some (ev:=mV c m s) mK_eq (P:=fun p=>p.1<10∧0≤p.2∧p.2≤300) (k,b) ⟨by omega,hb.1,hb.2⟩ hM
  refine⟨ks',hM',?_⟩
  rw[L109x0s]
  simp (disch:=omega) only[tnC,pathSl_el,mnE]
  rw[dF (by omega),cond_false]
  simp (disch:=omega) only[p63,dT,decide_true,Bool.and_self,cond_true,encM_len]
  have ht:t=(min x.rate.hi b - a).toNat:=by omega
  have e2:(V.agg [.int .i64 (bestLo fl a t),.int .i64 (bestHi fh a t)])=mV c m s (k,b):=by
   simp only[mV]
   rw[show pathN s - k=r+1 by omega,hE,ht]
  have e3:(V.agg [.int .i64 ((k:Nat):Int),.int .i64 b])=mK (k,b):=rfl
  rw[e2,e3,e',hE,← ht,← e2]
 |succ j ih =>
  intro t fu ks h hf hM
  obtain⟨fu,rfl⟩:=ex1 (n:=fu) (by omega)
  obtain⟨ks1,hM1,e1⟩:=IH (b - (a+((t+1:Nat):Int))) ks (by omega) (by omega) hM
  obtain⟨ks',hM',e'⟩:=ih (t+1) fu ks1 (by omega) (by omega) hM1
  refine⟨ks',hM',?_⟩
  have hr:=hR (b - (a+((t+1:Nat):Int))) (by omega)
  have hng:=mulg (n:=a+((t+1:Nat):Int)) (by omega) hg.1 hg.2
  rw[L109x0s]
  simp (disch:=omega) only[tnC,pathSl_el,mnE]
  rw[dT (by omega),cond_true,wrS (by omega),wr (show _∧_ by omega)]
  simp only[memH,eInt] at e1
  simp only[e1,tkHv_h,tkAgg_a,tkCons_c,tkInt_i,tkNil_n,tkSCons_c,tkBox_b,Nat.beq_refl,Bool.and_self,beq_self_eq_true,cond_true,samO,samM,samF,ks2,tkRow_r,tkArr_a,tkMp_m,tkSNil_n,decide_true]
  rw[show (a+((t+1:Nat):Int)==min (c.slices.el (pathAt s k).toNat).rate.lo b)=false by rw[beq_eq_false_iff_ne];omega,cond_false]
  rw[wr (n:=a+((t+1:Nat):Int)+1) (show _∧_ by omega),wr (n:=(a+((t+1:Nat):Int))*g) (show _∧_ by omega),wr (show _∧_ by omega),wr (show _∧_ by omega)]
  simp only[mnE,mxE]
  rw[show a+((t+1:Nat):Int)+1=a+((t+1+1:Nat):Int) by omega]
  exact e'
theorem s109 {c:Cav} (hc:CavOk c) {m:Mea} (hm:MeaOk c m) {s:Stg} (hs:StgOk c.slices.len s) (hF:400<F):∀ r k D,k+r=pathN s→∀ b ks,0≤b→b≤300→Mem ks→∃ ks',Mem ks' ∧
 (E F (D+r+2)).hv 161 [.agg [.int .i64 ((k:Nat):Int),.int .i64 b],.optr 0 0 0,.optr 1 0 0,.optr 2 0 0,.optr 3 0 0,.optr 4 0 0] (memH c m s (pathN s) (encM mK (mV c m s) ks))=some (.ret (.agg (eSpan (restS c m s r b))),memH c m s (pathN s) (encM mK (mV c m s) ks')):=by
 intro r
 induction r with
 |zero =>
  intro k D hk b ks h0 h1 hM
  refine⟨ks,hM,?_⟩
  rw[E_hv,t109]
  rw[show ((k:Int)==(pathN s:Int))=true by rw[beq_iff_eq];omega,cond_true]
  rfl
 |succ r ih =>
  intro k D hk b ks h0 h1 hM
  have hp:=pathN_le hs
  have hin:=pathAt_in hs (k:=k) (by omega)
  have hl:=hc.1
  have hG:=gain_in hc hm (k:=(pathAt s k).toNat) (by omega)
  have hg:=hG.2.2
  have ho:SpanIn (c.slices.el (pathAt s k).toNat).rate 0 300:=(slcOk_at hc hs (k:=k) (by omega)).2.2.2.1
  unfold SpanIn at ho
  rw[show D+(r+1)+2=(D+r+2)+1 by omega,E_hv,t109]
  rw[show ((k:Int)==(pathN s:Int))=false by rw[beq_eq_false_iff_ne];omega,cond_false]
  simp (disch:=omega) only[p63,dT,decide_true,Bool.and_self,cond_true,tnC,pathSl_el]
  rw[show (V.agg [.int .i64 ((k:Nat):Int),.int .i64 b])=mK (k,b) from rfl,mget_enc mK_eq]
  by_cases hmem:(k,b) ∈ ks
  ·rw[if_pos hmem]
   refine⟨ks,hM,?_⟩
   simp only[tkOpt,mV,tkAgg_a,tkCons_c,tkInt_i,tkNil_n]
   rw[show pathN s - k=r+1 by omega]
  ·rw[if_neg hmem]
   have IH:=fun b ks=>ih (k+1) D (by omega) b ks
   obtain⟨ks1,hM1,e1⟩:=IH (b - min (c.slices.el (pathAt s k).toNat).rate.lo b) ks (by omega) (by omega) hM
   obtain⟨ks',hM',e'⟩:=l109 F hc hm hs (D+r+2) r k hk b ⟨h0,h1⟩ (encM mK (mV c m s) ks) IH (min (c.slices.el (pathAt s k).toNat).rate.hi b - min (c.slices.el (pathAt s k).toNat).rate.lo b).toNat 0 (F - 1) ks1 (by simp[slAt]) (by omega) hM1
   refine⟨ks',hM',?_⟩
   have hr:=rest_in hc hm hs r (by omega) (b - min (c.slices.el (pathAt s k).toNat).rate.lo b) (by omega)
   have hng:=mulg (n:=min (c.slices.el (pathAt s k).toNat).rate.lo b) (by omega) hg.1 hg.2
   have e110:=s110 F (D+r+1) c m (pathAt s k) hin.1 hin.2 hm.1 (by omega) (by omega) (by omega)
   simp only[tkOpt]
   rw[e110]
   simp only[tkOut_ret,tkInt_i]
   obtain⟨F,rfl⟩:=ex1 (n:=F) (by omega)
   rw[L109x0s]
   simp (disch:=omega) only[tnC,pathSl_el,mnE]
   rw[dT (by omega),cond_true,wrS (by omega),wr (show _∧_ by omega)]
   simp only[memH,eInt] at e1
   simp only[e1,tkHv_h,tkAgg_a,tkCons_c,tkInt_i,tkNil_n,tkSCons_c,tkBox_b,Nat.beq_refl,Bool.and_self,beq_self_eq_true,cond_true,samO,samM,samF,ks2,tkRow_r,tkArr_a,tkMp_m,tkSNil_n,decide_true]
   rw[wr (n:=min (c.slices.el (pathAt s k).toNat).rate.lo b+1) (show _∧_ by omega),wr (n:=(min (c.slices.el (pathAt s k).toNat).rate.lo b)*gainI c m (pathAt s k).toNat) (show _∧_ by omega),wr (show _∧_ by omega),wr (show _∧_ by omega)]
   simp only[mnE,mxE,Int.min_self,Int.max_self]
   exact e'
end Go.Sim.Le

namespace Go.Sim.Le
open Go.Proofs
variable (F d:Nat)
def grownS (c:Cav) (m:Mea) (s:Stg):Span:=timesS (restS c m s (pathN s) c.hold) s.water
theorem grown_in {c:Cav} (hc:CavOk c) {m:Mea} (hm:MeaOk c m) {s:Stg} (hs:StgOk c.slices.len s):((-1800000000000000≤s.water*(restS c m s (pathN s) c.hold).lo∧s.water*(restS c m s (pathN s) c.hold).lo≤1800000000000000)∧-1800000000000000≤s.water*(restS c m s (pathN s) c.hold).hi∧s.water*(restS c m s (pathN s) c.hold).hi≤1800000000000000) ∧
 (-1800000000000000≤(grownS c m s).lo∧(grownS c m s).lo≤1800000000000000)∧-1800000000000000≤(grownS c m s).hi∧(grownS c m s).hi≤1800000000000000:=by
 have h1:=rest_in hc hm hs (pathN s) (Nat.le_refl _) c.hold (by have:=hc.2.1;omega)
 have h2:=hc.2.1
 have h3:=hs.1
 have e1:=mul_in (a:=(restS c m s (pathN s) c.hold).lo) (b:=s.water) (x:=1800000000) (y:=1000000) (by omega) (by omega) (by omega) (by omega)
 have e2:=mul_in (a:=(restS c m s (pathN s) c.hold).hi) (b:=s.water) (x:=1800000000) (y:=1000000) (by omega) (by omega) (by omega) (by omega)
 rw[Int.mul_comm (restS c m s (pathN s) c.hold).lo] at e1
 rw[Int.mul_comm (restS c m s (pathN s) c.hold).hi] at e2
 have e3:(-1800000000000000≤s.water*(restS c m s (pathN s) c.hold).lo∧s.water*(restS c m s (pathN s) c.hold).lo≤1800000000000000)∧-1800000000000000≤s.water*(restS c m s (pathN s) c.hold).hi∧s.water*(restS c m s (pathN s) c.hold).hi≤1800000000000000:=⟨by omega,by omega⟩
 exact⟨e3,timesS_in e3⟩
theorem l93 {c:Cav} (hc:CavOk c) {m:Mea} (hm:MeaOk c m) {s:Stg} (hs:StgOk c.slices.len s) (hF:400<F):∀ j k fu,k+1+j=pathN s→1≤k→j<fu →
 L93x1 (E F (d+12)) F c s m fu (fun _=>eStg s) (stepOf s) .i64 (pathAt s k) k k (gl eInt 0 (pathL s k)) (fun _=>eStg s)=some (.ret (.agg (eSpan (grownS c m s)))):=by
 intro j
 have hp:=pathN_le hs
 have hl:=hc.1
 have hH:=hc.2.1
 induction j with
 |zero =>
  intro k fu h hk hf
  obtain⟨fu,rfl⟩:=ex1 (n:=fu) (by omega)
  have hk':k=pathN s - 1:=by omega
  have e1:pathAt s k=s.out:=by rw[hk',pathAt_last]
  have e2:k+1=pathN s:=by omega
  have hg:=grown_in hc hm hs
  obtain⟨ks',_,e9⟩:=s109 F hc hm hs hF (pathN s) 0 (d+10 - pathN s) (by omega) c.hold [] (by omega) (by omega) ⟨List.nodup_nil,by simp⟩
  rw[show d+10 - pathN s+pathN s+2=d+12 by omega] at e9
  have e3:appGet k (gl eInt 0 (pathL s k)) (fun _=>[.int .i64 (pathAt s k)])=fun i=>eInt ((pathSl s).el i):=by
   refine (gl_snoc (m:=pathAt s k) (e:=eInt) (pathL_len s k) rfl).trans ?_
   rw[← pathL_S,e2];rfl
  rw[L93x1s,e3,e2]
  simp (disch:=omega) only[dT,decide_true,pT,List.drop,tkCons_c,tkInt_i,show (pathAt s k != s.out)=false by simp[e1],pF]
  simp only[memH,eInt,encM,List.map,Int.natCast_zero] at e9
  simp only[e9,tkHv_h,tkAgg_a,tkCons_c,tkInt_i,tkNil_n,tkSCons_c,tkBox_b,Nat.beq_refl,Bool.and_self,beq_self_eq_true,pT,samO,samM,samF,ks2,tkRow_r,tkArr_a,tkMp_m,tkSNil_n,decide_true]
  rw[s86 F (d+11) (restS c m s (pathN s) c.hold) s.water (by omega) (by omega)]
  simp only[tkOut_ret,tkAgg_a,tkCons_c,tkInt_i,tkNil_n]
  rfl
 |succ j ih =>
  intro k fu h hk hf
  obtain⟨fu,rfl⟩:=ex1 (n:=fu) (by omega)
  have hne:(pathAt s k != s.out)=true:=by
   have:=pathAt_ne s (k:=k) (by omega)
   simpa using this
  have hS:pathAt s k+stepOf s=pathAt s (k+1):=by rw[← pathAt_S]
  have hin2:=pathAt_in hs (k:=k+1) (by omega)
  rw[L93x1s]
  simp (disch:=omega) only[wr,dT,decide_true,pT,List.drop,tkCons_c,tkInt_i,hne,hS]
  have e3:appGet k (gl eInt 0 (pathL s k)) (fun _=>[.int .i64 (pathAt s k)])=gl eInt 0 (pathL s (k+1)):=by
   refine (gl_snoc (m:=pathAt s k) (e:=eInt) (pathL_len s k) rfl).trans ?_
   rw[← pathL_S]
  rw[e3]
  exact ih (k+1) fu (by omega) (by omega) (by omega)
theorem s93 {c:Cav} (hc:CavOk c) {m:Mea} (hm:MeaOk c m) {s:Stg} (hs:StgOk c.slices.len s) (hF:400<F):(E F (d+13)).pf 103 [.agg (eCav c),.agg (eStg s),.agg (eMea m)]=some (.ret (.agg (eSpan (grownS c m s)))):=by
 have hl:=hc.1
 have hp:=pathN_le hs
 have hne:2≤pathN s:=by
  have:=hs.2.2.2.1
  unfold pathN;split<;>omega
 have hne2:(s.into != s.out)=true:=by have:=hs.2.2.2.1;simpa using this
 obtain⟨F,rfl⟩:=ex1 (n:=F) (by omega)
 have h:=l93 (F+1) d hc hm hs hF (pathN s - 2) 1 F (by omega) (by omega) (by omega)
 have hin2:=pathAt_in hs (k:=1) (by omega)
 have hS:s.into+stepOf s=pathAt s 1:=by rw[← pathAt_0 s,← pathAt_S]
 have h1:(fun _:Nat=>[V.int .i64 s.into])=gl eInt 0 (pathL s 1):=by
  rw[show pathL s 1=[s.into] by simp[pathL,pathAt_0]]
  exact gl_one rfl
 rw[E_pf,t93]
 simp (disch:=omega) only[dT,decide_true,pT,s68,tkOut_ret,tkFn_f,tkNil_n,tkCons_c,tkPtr_p,tkInt_i,Nat.beq_refl,Bool.and_self]
 unfold stepOf at h hS
 by_cases hd:s.out<s.into
 ·rw[if_pos hd] at h hS
  rw[dT hd,pT,L93x0s]
  simp (disch:=omega) only[wr,decide_true,pT,List.drop,tkCons_c,tkInt_i,hne2,hS,h1]
  exact h
 ·rw[if_neg hd] at h hS
  rw[dF hd,pF,L93x0s]
  simp (disch:=omega) only[wr,decide_true,pT,List.drop,tkCons_c,tkInt_i,hne2,hS,h1]
  exact h
def boundS (c:Cav) (l:Nat→Stg) (m:Mea):Nat→Span
 |0=>firstS c m c.slices.len
 |k+1=>addS (boundS c l m k) (grownS c m (l k))
theorem bound_in {c:Cav} (hc:CavOk c) {m:Mea} (hm:MeaOk c m) {n:Nat} {l:Nat→Stg} (hl:∀ i,i<n→StgOk c.slices.len (l i)):∀ k,k≤n→(-(100000000000000000+1800000000000000*(k:Int))≤(boundS c l m k).lo∧(boundS c l m k).lo≤100000000000000000+1800000000000000*(k:Int))∧(-(100000000000000000+1800000000000000*(k:Int))≤(boundS c l m k).hi∧(boundS c l m k).hi≤100000000000000000+1800000000000000*(k:Int)):=by
 intro k
 induction k with
 |zero =>
  intro _
  have h1:=first_in hc hm c.slices.len (Nat.le_refl _)
  have h2:=hc.1
  simp only[boundS]
  omega
 |succ k ih =>
  intro h
  have h1:=ih (by omega)
  have h2:=(grown_in hc hm (hl k (by omega))).2
  simp only[boundS,addS]
  omega
theorem l62 {c:Cav} (hc:CavOk c) {m:Mea} (hm:MeaOk c m) (l:Sl Stg) (hn:l.len≤1000) (hl:∀ i,i<l.len→StgOk c.slices.len (l.el i)) (hF:400<F):∀ j k fu,k+j=l.len→j<fu →
 L62x0 (E F (d+13)) F c l m fu k .i64 (boundS c l.el m k).lo .i64 (boundS c l.el m k).hi=some (.ret (.agg (eSpan (boundS c l.el m l.len)))):=by
 intro j
 induction j with
 |zero =>
  intro k fu h hf
  obtain⟨fu,rfl⟩:=ex1 (n:=fu) (by omega)
  rw[L62x0s]
  have hk:k=l.len:=by omega
  rw[hk]
  simp (disch:=omega) only[dF,decide_false,pF]
 |succ j ih =>
  intro k fu h hf
  obtain⟨fu,rfl⟩:=ex1 (n:=fu) (by omega)
  have h2:=bound_in hc hm hl k (by omega)
  have h3:=bound_in hc hm hl (k+1) (by omega)
  simp only[boundS,addS] at h3
  have e5:=s85 F (d+12) (boundS c l.el m k) (grownS c m (l.el k)) (by omega) (by omega) (by omega) (by omega) (by omega)
  have e6:=s93 F d hc hm (hl k (by omega)) hF
  rw[L62x0s]
  simp (disch:=omega) only[dT,decide_true,pT,tnC,tkOut_ret,tkAgg_a,tkCons_c,tkInt_i,tkNil_n,e5,e6]
  rw[wrS (by omega)]
  exact ih (k+1) fu (by omega) (by omega)
theorem s62 {c:Cav} (hc:CavOk c) {m:Mea} (hm:MeaOk c m) (l:Sl Stg) (hn:l.len≤300) (hl:∀ i,i<l.len→StgOk c.slices.len (l.el i)) (hF:400<F) :
 (E F (d+14)).pf 47 [.agg (eCav c),sl eStg 4 l,.agg (eMea m)]=some (.ret (.agg (eSpan (boundS c l.el m l.len)))):=by
 rw[E_pf,t62]
 simp only[s92 F (d+11) c hc m hm (by omega),tkOut_ret,tkAgg_a,tkCons_c,tkInt_i,tkNil_n]
 exact l62 F d hc hm l (by omega) hl hF l.len 0 F (by omega) (by omega)
end Go.Sim.Le

namespace Go.Sim.Le
open Go.Proofs
variable (F d:Nat)
section
variable {c:Cav} (hc:CavOk c) {m:Mea} (hm:MeaOk c m) {s:Stg} (hs:StgOk c.slices.len s) (w:Sl Int) (hwl:w.len=c.slices.len) (hw:∀ i,i<c.slices.len→w.el i=gainI c m i)
include hc hm hs hwl hw
end
end Go.Sim.Le

namespace Go.Sim.Le
open Go.Proofs
variable (F d:Nat)
theorem s22 (c:Cav) (l:Sl Stg) (w:Sl Int) (n:Int) (hC:c.slices.len<Big) (hCF:c.slices.len<F) (hB:l.len<Big) (hLF:l.len<F) (hW:w.len<Big) (hWF:w.len<F) (hF:400<F) :
 (E F (d+15)).pf 14 [.agg (eCav c),sl eStg 4 l,sl eInt 1 w,.int .i64 n] =
 some (.ret (.tup (if errP c l (decide (WtOk c w n))=0 then [.agg (eSpan (boundS c l.el ⟨w,n⟩ l.len)),.int .i64 0] else [.agg [.int .i64 0,.int .i64 0],.int .i64 (errP c l (decide (WtOk c w n)))]))):=by
 rw[E_pf,t22]
 simp only[s57e F (d+7) c l hC hCF hB hLF,tkOut_ret,tkInt_i,decide_true,pT]
 by_cases h0:errP c l true=0
 ·have h0':8≥l.len∧CavOk c∧∀ i,i<l.len→StgOk c.slices.len (l.el i):=by
   unfold errP at h0
   split at h0
   ·omega
   ·rename_i h8
    split at h0
    ·rename_i h9;exact⟨by omega,h9.1,h9.2.1⟩
    ·omega
  obtain⟨h8,hc,hl⟩:=h0'
  rw[h0,show ((0:Int) != 0)=false from rfl,pF]
  by_cases hw:w.len=c.slices.len
  ·have e1:((w.len:Int) != (c.slices.len:Int))=false:=by rw[hw];simp
   rw[e1,pF,s58 F (d+12)]
   simp only[tkOut_ret,tkBool_b]
   by_cases hn:-1000≤n∧n≤1000
   ·rw[dT hn,Bool.not_true,pF,sK4 F (d+9) w hW hWF]
    simp only[tkOut_ret,tkBool_b]
    by_cases ha:∀ i,i<w.len→-1000≤w.el i∧w.el i≤1000
    ·have hm:MeaOk c ⟨w,n⟩:=⟨hw,fun i hi=>ha i (by omega),hn.1,hn.2⟩
     have hk:WtOk c w n:=⟨ha,hw,hn⟩
     rw[dT ha,Bool.not_true,pF]
     have e2:=s62 F d hc hm l (by omega) hl hF
     simp only[eMea] at e2
     rw[e2]
     simp only[tkOut_ret,tkAgg_a,tkCons_c,tkInt_i,tkNil_n]
     rw[dT hk,h0,if_pos rfl]
    ·have hk:¬ WtOk c w n:=fun h=>ha h.1
     rw[dF ha,Bool.not_false,pT]
     have e3:errP c l (decide (WtOk c w n))=2:=by rw[dF hk];unfold errP;rw[if_neg (by omega),if_neg (fun h=>by cases h.2.2)]
     rw[e3];rfl
   ·have hk:¬ WtOk c w n:=fun h=>hn h.2.2
    rw[dF hn,Bool.not_false,pT]
    have e3:errP c l (decide (WtOk c w n))=2:=by rw[dF hk];unfold errP;rw[if_neg (by omega),if_neg (fun h=>by cases h.2.2)]
    rw[e3];rfl
  ·have e1:((w.len:Int) != (c.slices.len:Int))=true:=by simp;omega
   have hk:¬ WtOk c w n:=fun h=>hw h.2.1
   rw[e1,pT]
   have e3:errP c l (decide (WtOk c w n))=2:=by rw[dF hk];unfold errP;rw[if_neg (by omega),if_neg (fun h=>by cases h.2.2)]
   rw[e3];rfl
 ·have e1:(errP c l true != 0)=true:=by simpa using h0
  have e3:errP c l (decide (WtOk c w n))=errP c l true:=by
   unfold errP at h0 ⊢
   split
   ·rfl
   ·rename_i h8
    rw[if_neg h8] at h0
    split
    ·rename_i h9
     rw[if_pos ⟨h9.1,h9.2.1,rfl⟩] at h0
     exact (h0 rfl).elim
    ·rename_i h9
     split
     ·rename_i h10
      rw[if_pos h10] at h0
      exact (h0 rfl).elim
     ·rfl
  rw[e1,pT,e3,if_neg h0]
end Go.Sim.Le

namespace Go.Sim.Le
open Go.Proofs
variable (F d:Nat)
end Go.Sim.Le

namespace Go.Sim.Le
open Go.Proofs
def z0:Stg:=⟨0,0,0,0⟩
variable (F d:Nat)
section
variable {c:Cav} (hc:CavOk c) {l:Sl Stg} (hL:l.len≤300) (hl:∀ i,i<l.len→StgOk c.slices.len (l.el i)) (hF:100000<F) (w:Sl Int) (hw:w.len≤c.slices.len)
include hc hL hl hF hw
end
end Go.Sim.Le

namespace Go.Sim.Le
open Go.Proofs
def gcdI (a b:Int):Int:=((Nat.gcd a.toNat b.toNat:Nat):Int)
def fracF (x y:Int):Int × Int:=(x / gcdI x y,y / gcdI x y)
variable (F d:Nat)
end Go.Sim.Le

namespace Go.Sim.Le
open Go.Proofs
def oAt (c:Cav) (s:Stg) (k:Nat):Int:=(slAt c s k).opn - (slAt c s k).fall
inductive Reach (c:Cav) (s:Stg):Nat→Int→Int→Prop where
 |zero:Reach c s 0 0 0
 |step {k h r n}:Reach c s k h r→min (slAt c s k).rate.lo (c.hold - h)≤n→n≤min (slAt c s k).rate.hi (c.hold - h)→Reach c s (k+1) (h+n) (r+n*oAt c s k)
def numOf (c:Cav) (h r:Int):Int:=1000000*h - c.hold*r
def denOf (r:Int):Int:=1000000 - r
section
variable {c:Cav} (hc:CavOk c) {s:Stg} (hs:StgOk c.slices.len s)
include hc hs
omit hs in
omit hs in
omit hs in
end
end Go.Sim.Le

namespace Go.Sim.Le
open Go.Proofs
variable (F d:Nat)
section
variable {c:Cav} (hc:CavOk c) {s:Stg} (hs:StgOk c.slices.len s) (hF:1000000000<F) (b0 b1 b2 b3 b4:Bool)
include hc hs hF
end
end Go.Sim.Le

namespace Go.Sim.Le
open Go.Proofs
variable (F d:Nat)
def fh (c:Cav) (p:Int × Span):Int × Int:=fracF (numOf c p.1 p.2.hi) (denOf p.2.hi)
def fl (c:Cav) (p:Int × Span):Int × Int:=fracF (numOf c p.1 p.2.lo) (denOf p.2.lo)
section
variable {c:Cav} (hc:CavOk c) {s:Stg} (hs:StgOk c.slices.len s)
include hc hs
end
end Go.Sim.Le

namespace Go.Sim.Le
open Go.Proofs
abbrev RatesOk (c:Cav) (w:Nat→Int):Prop:=∀ i,i<c.slices.len→(c.slices.el i).rate.lo≤w i∧w i≤(c.slices.el i).rate.hi
variable (F d:Nat)
section
variable {c:Cav} (hc:CavOk c) {s:Stg} (hs:StgOk c.slices.len s) (w:Nat→Int) (hw:RatesOk c w)
include hc hs hw
omit hc hs hw in
omit hc hs hw in
end
end Go.Sim.Le

namespace Go.Sim.Le
open Go.Proofs
def exSl:Nat→Slc
 |0=>⟨⟨900000,1000000⟩,1200,100,⟨20,40⟩,1480000⟩
 |1=>⟨⟨1000000,1000000⟩,1100,50,⟨30,50⟩,3000000⟩
 |_=>⟨⟨500000,600000⟩,1000,0,⟨40,60⟩,3000000⟩
def exC:Cav:=⟨⟨false,3,exSl⟩,100,700000⟩
def exB:Stg:=⟨10,2,0,3⟩
def tR3 (a b c:Int):Nat→Int
 |0=>a
 |1=>b
 |_=>c
def ex3 (a b c:Int):Sl Int:=⟨false,3,tR3 a b c⟩
theorem kBound:boundS exC (fun _=>exB) ⟨ex3 0 0 0,1⟩ 1=⟨20000,45000⟩:=by decide +kernel
theorem exGet (z0 z1 z2:Slc):(fun u:Nat=>List.take 7 (List.drop (Min.min u 2*7) (eSlc z0 ++ eSlc z1 ++ eSlc z2)))=fun i=>eSlc (match i with | 0=>z0 | 1=>z1 | _=>z2):=by
 funext i
 match i with
 |0=>rfl
 |1=>rfl
 |i+2=>simp[show Min.min (i+2) 2=2 by omega]
variable (F d:Nat)
theorem s54:(E F (d+1)).pf 15 []=some (.ret (.agg (eCav exC))):=by
 rw[E_pf,t54]
 have h:=exGet ⟨⟨900000,1000000⟩,1200,100,⟨20,40⟩,1480000⟩ ⟨⟨1000000,1000000⟩,1100,50,⟨30,50⟩,3000000⟩ ⟨⟨500000,600000⟩,1000,0,⟨40,60⟩,3000000⟩
 refine congrArg (fun g=>some (Out.ret (V.agg [V.row false 3 7 g,V.int .i64 100,V.int .i64 700000]))) (h.trans ?_)
 funext i
 match i with
 |0=>rfl
 |1=>rfl
 |i+2=>rfl
theorem s55:(E F (d+1)).pf 16 []=some (.ret (.agg (eStg exB))):=by rw[E_pf,t55];rfl
end Go.Sim.Le

namespace Go.Sim.Le
open Go.Proofs
abbrev TruthOk (c:Cav) (n:Nat) (t:Truth):Prop:=t.vols.len=c.slices.len∧t.rates.len=n∧(∀ i,i<t.vols.len→(c.slices.el i).vol.lo≤t.vols.el i∧t.vols.el i≤(c.slices.el i).vol.hi) ∧
 ∀ k,k<t.rates.len→(t.rates.el k).len=c.slices.len∧∀ i,i<c.slices.len→(c.slices.el i).rate.lo≤(t.rates.el k).el i∧(t.rates.el k).el i≤(c.slices.el i).rate.hi
variable (F d:Nat)
section
variable (c:Cav) (l:Sl Stg) (t:Truth) (hcl:c.slices.len<Big) (htl:t.rates.len<Big) (hCF:c.slices.len<F) (hTF:t.rates.len<F)
include hcl htl hCF hTF
end
end Go.Sim.Le

namespace Go.Sim.Le
open Go.Proofs
section
variable {c:Cav} (hc:CavOk c) {s:Stg} (hs:StgOk c.slices.len s) (w:Nat→Int) (hw:RatesOk c w)
include hc hs hw
end
section
variable {c:Cav} (hc:CavOk c) {n:Nat} {l:Nat→Stg} (hl:∀ i,i<n→StgOk c.slices.len (l i)) {t:Truth} (ht:TruthOk c n t)
include hc hl ht
end
variable (F d:Nat)
section
variable {c:Cav} (hc:CavOk c) {l:Sl Stg} (hL:l.len≤300) (hl:∀ i,i<l.len→StgOk c.slices.len (l.el i)) {t:Truth} (ht:TruthOk c l.len t) (hF:400<F)
include hc hL hl ht hF
end
end Go.Sim.Le

namespace Go.Sim.Le
open Go.Proofs
section
variable {c:Cav} (hc:CavOk c) {n:Nat} {l:Nat→Stg} (hl:∀ i,i<n→StgOk c.slices.len (l i)) {t:Truth} (ht:TruthOk c n t)
include hl in
include hc hl ht
end
variable (F d:Nat)
section
variable {c:Cav} (hc:CavOk c) {l:Sl Stg} (hL:l.len≤8) (hl:∀ i,i<l.len→StgOk c.slices.len (l.el i)) {t:Truth} (ht:TruthOk c l.len t) (hF:1000000000<F)
include hc hL hl ht hF
end
end Go.Sim.Le

namespace Go.Sim.Le
open Go.Proofs
section
variable {c:Cav} (hc:CavOk c) {s:Stg} (hs:StgOk c.slices.len s)
include hc hs
end
end Go.Sim.Le

namespace Go.Sim.Le
open Go.Proofs
section
variable {c:Cav} (hc:CavOk c) {s:Stg} (hs:StgOk c.slices.len s) (w:Nat→Int) (hw:RatesOk c w)
include hc hs hw
end
section
variable {c:Cav} (hc:CavOk c) {n:Nat} {l:Nat→Stg} (hl:∀ i,i<n→StgOk c.slices.len (l i)) {t:Truth} (ht:TruthOk c n t)
include hc hl ht
end
section
variable {c:Cav} (hc:CavOk c) {n:Nat} {l:Nat→Stg} (hl:∀ i,i<n→StgOk c.slices.len (l i)) {t:Truth} (ht:TruthOk c n t)
include hc hl ht
omit hc hl ht in
end
end Go.Sim.Le
