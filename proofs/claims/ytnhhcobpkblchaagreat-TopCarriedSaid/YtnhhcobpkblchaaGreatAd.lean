import Derived.Test.YtnhhcobpkblchaaGreatAc
import Derived.Laws.StructEq
import Derived.Carry
import Derived.ChangeArms
import Derived.ProofKit
import Derived.OpenShut
import Derived.SizedLaws
import Derived.Test.YtnhhcobpkblchaaGreatProg
import Derived.KernelRfl
import Derived.DeepKeys4
import Derived.Maps.Keyed
import Derived.IntWalk
set_option linter.unusedVariables false
set_option linter.unusedSimpArgs false
set_option linter.unusedSectionVars false
namespace Go.Sim
open Go.RowKit
section
variable {P:Program} {N:Nat→Prop} {w:World} {pv:Nat→Prop} {ρ:Nat→Option Info} {hp:List Slot} {a:Act}
theorem resH_ok {r:Out × List Slot} {st:St} (pre:Pre N w pv ρ st.hp) (hr:RelL w pv ρ a.tmps st.tm) :
 ∀ (rs:List ResultVar) (k:List V→Option (Out × List Slot)),resH P st rs k=some r→∃ (vs:List V) (us:List Value),k vs=some r∧us.length=vs.length ∧
  (rs.mapM (resF a.tmps)).run P w = .ok us w∧∀ (i:Nat) u c,us[i]? = some u→vs[i]? = some c→Rel w pv ρ u c:=by
 intro rs
 induction rs with
 |nil=>intro k h;exact⟨[],[],h,rfl,by simp,fun i u c h=>by simp at h⟩
 |cons x rs ih =>
  intro k h
  cases x with
  |tmp t =>
   simp only[resH] at h
   obtain⟨vs,us,h,hlen,hrun,hrel⟩:=ih _ h
   have h0:=eval_rel hr (.tmp t)
   refine⟨_,a.eval (.tmp t) :: us,h,by simp[hlen],?_,fun i u c g1 g2=>?_⟩
   ·rw[List.mapM_cons]
    simp only[resF,Sem.run_bind,Sem.run_pure,Result.andThen_ok,hrun]
    rfl
   ·cases i with
    |zero=>simp at g1 g2;subst g1 g2;rw[← List.getD_eq_getElem?_getD];exact h0
    |succ i=>exact hrel i u c (by simpa using g1) (by simpa using g2)
  |cell x t =>
   simp only[resH] at h
   obtain⟨v,rd,ad,v',h,had,hld,hv⟩:=loadK_run (P:=P) pre (eval_rel hr (.tmp x)) h
   obtain⟨vs,us,h,hlen,hrun,hrel⟩:=ih _ h
   refine⟨_,v' :: us,h,by simp[hlen],?_,fun i u c g1 g2=>?_⟩
   ·rw[List.mapM_cons]
    have had':a.tmps.getD x undef = .pointer (some ad):=had
    simp only[resF,Sem.run_bind,Sem.run_pure,Result.andThen_ok,hrun,had',asAddr,hld]
   ·cases i with
    |zero=>simp at g1 g2;subst g1 g2;exact hv
    |succ i=>exact hrel i u c (by simpa using g1) (by simpa using g2)
def blkVal:Option Info→Value
 |some i=>.tuple #[.int .i64 i.r,.int .i64 i.len,.int .i64 i.wd]
 |none=>undef
theorem blksK_inv {r:Out × List Slot}:∀ {l:List V} {k:List Nat→Option (Out × List Slot)},blksK l k=some r→∃ bs:List Nat,l=bs.map .blk∧k bs=some r:=by
 intro l
 induction l with
 |nil=>intro k h;exact⟨[],rfl,h⟩
 |cons v l ih =>
  intro k h
  cases v with
  |blk b =>
   simp only[blksK] at h
   obtain⟨bs,hl,h2⟩:=ih h
   exact⟨b :: bs,by rw[hl];rfl,h2⟩
  |_=>cases h
def blkVals (ρ0:Nat→Option Info) (n:Nat):Array Value:=((List.range n).map fun b=>blkVal (ρ0 b)).toArray
theorem blk_rho {w0:World} {ρ0:Nat→Option Info} {n:Nat} (hall:∀ b,b<n→∃ i,ρ0 b=some i) {bs:List Nat} (h:RelL w pv ρ (blkVals ρ0 n) (bs.map .blk)):bs.length=n∧∀ b i,b<n→ρ0 b=some i→∃ b',bs[b]? = some b'∧ρ b'=some i:=by
 have hl:bs.length=n:=by have:=h.1;simp[blkVals] at this;omega
 refine⟨hl,fun b i hb hi=>?_⟩
 have hb':b<bs.length:=by omega
 have h1:=h.2 b (blkVal (ρ0 b)) (.blk bs[b]) (by simp[blkVals,hb]) (by simp[hb'])
 rw[hi] at h1
 refine⟨bs[b],List.getElem?_eq_getElem hb',?_⟩
 generalize hv:blkVal (some i)=v at h1
 cases h1 with
 |@blk _ _ i' hr =>
  rw[hr]
  unfold blkVal at hv
  injection hv with hv
  injection hv with hv
  simp only[List.cons.injEq,Value.int.injEq,true_and,and_true] at hv
  obtain⟨e1,e2,e3⟩:=hv
  cases i;cases i'
  simp only[Int.natCast_inj] at e1 e2 e3
  subst e1 e2 e3
  rfl
theorem reach_pre (hp:List Slot):∀ (n:Nat) (wl seen:List Nat),∃ more,reach hp n wl seen=seen ++ more:=by
 intro n
 induction n with
 |zero=>intro wl seen;exact⟨[],by simp[reach]⟩
 |succ n ih =>
  intro wl seen
  cases wl with
  |nil=>exact⟨[],by simp[reach]⟩
  |cons c wl =>
   simp only[reach]
   cases seen.contains c with
   |true=>exact ih wl seen
   |false =>
    obtain⟨more,h⟩:=ih (wl ++ slotRefs (hp.getD c .free)) (seen ++ [c])
    exact⟨[c] ++ more,by rw[cond_false,h,List.append_assoc]⟩
theorem finH_ok {w0:World} {ρ0:Nat→Option Info} {n:Nat} {pv0:Nat→Prop} (hall:∀ b,b<n→∃ i,ρ0 b=some i) {st:St} {v0 v:V} {hp':List Slot} (h:finH st v0=some (.ret v,hp')) (hn:Nw N w0 pv0 ⟨blkVals ρ0 n,fun _=>[],none⟩ st a w pv ρ) {u:Value} (hu:Rel w pv ρ u v0) :
 ∃ ρ',HvPost N w0 pv0 ρ0 n hp' v (.returned u) w pv ρ':=by
 unfold finH at h
 obtain⟨bs,hext,h⟩:=blksK_inv h
 simp only[] at h
 generalize hseen:reach st.hp 1000 (bs.flatMap (fun b=>slotRefs (st.hp.getD b .free)) ++ vrefs closeD v0) bs=seen at h
 obtain⟨hnd,h⟩:=bif_inv h
 injection h with h
 injection h with h1 h2
 injection h1 with h1
 subst h1 h2
 have hxs:=hn.ext
 rw[hext] at hxs
 obtain⟨hbl,hbr⟩:=blk_rho (w0:=w0) hall hxs
 obtain⟨more,hmore⟩:=reach_pre st.hp 1000 (bs.flatMap (fun b=>slotRefs (st.hp.getD b .free)) ++ vrefs closeD v0) bs
 rw[hseen] at hmore
 have pre:=hn.pre
 refine⟨fun j=>(seen[j]?).bind ρ,⟨hn.keeps,hn.below,hn.sub,pre.lt,hn.low,fun b i hb hi=>?_,⟨fun b s hs=>?_,fun b hs=>?_,fun b b' s s' i i' hs hs' hl hl' hi hi' he=>?_⟩,u,rfl,ren_rel closeD hu⟩⟩
 ·obtain⟨b',g1,g2⟩:=hbr b i hb hi
  show (seen[b]?).bind ρ=some i
  rw[hmore,List.getElem?_append_left (by omega),g1]
  exact g2
 ·rw[List.getElem?_map] at hs
  cases hx:seen[b]? with
  |none=>simp[hx] at hs
  |some b0 =>
   simp only[hx,Option.map_some,Option.some.injEq] at hs
   have hsl:SlotR N w pv ρ (ρ b0) (st.hp.getD b0 .free):=by
    rw[List.getD_eq_getElem?_getD]
    cases hy:st.hp[b0]? with
    |none=>exact pre.slots.out b0 hy
    |some s0=>exact pre.slots.slot b0 s0 hy
   show SlotR N w pv _ (ρ b0) s
   subst hs
   exact hsl.ren_ (fun _ _ h=>h)
 ·rw[List.getElem?_map] at hs
  cases hx:seen[b]? with
  |none=>rfl
  |some b0=>simp[hx] at hs
 ·rw[List.getElem?_map] at hs hs'
  cases hx:seen[b]? with
  |none=>simp[hx] at hs
  |some b0 =>
   cases hx':seen[b']? with
   |none=>simp[hx'] at hs'
   |some b0' =>
    simp only[hx,hx',Option.map_some,Option.some.injEq] at hs hs'
    have e1:ρ b0=some i:=by have:(seen[b]?).bind ρ=some i:=hi;rwa [hx] at this
    have e2:ρ b0'=some i':=by have:(seen[b']?).bind ρ=some i':=hi';rwa [hx'] at this
    have live:∀ (b0:Nat) s i,ρ b0=some i→renS seen (st.hp.getD b0 .free)=s→s.live=true→∃ s0,st.hp[b0]? = some s0∧s0.live=true:=by
     intro b0 s i hi hs hl
     cases hy:st.hp[b0]? with
     |none=>rw[pre.slots.out b0 hy] at hi;cases hi
     |some s0 =>
      refine⟨s0,rfl,?_⟩
      rw[List.getD_eq_getElem?_getD,hy,Option.getD_some] at hs
      subst hs
      exact renS_live _ _ hl
    obtain⟨t,ht,htl⟩:=live b0 s i e1 hs hl
    obtain⟨t',ht',htl'⟩:=live b0' s' i' e2 hs' hl'
    have:=pre.slots.inj b0 b0' t t' i i' ht ht' htl htl' e1 e2 he
    subst this
    exact nodupB_inj hnd b b' b0 hx hx'
theorem callDefH_ok {β:Type} {r:β} {C:Nat→Cfg} (hC:OkCfg P C) (hnm:OkNames P) {env:Env} (henv:OkEnv P env) {w0:World} {pv0:Nat→Prop} {cl:V} {pm:Option V} {st:St} {k:St→Option β} (h:callDefH P C env cl pm st k=some r)
 {fn0:Func} {R:Ending→World→Prop} {pv:Nat→Prop} {ρ:Nat→Option Info} {d:Deferred} (hdf:Df1 w pv ρ d cl) {vals:Array Value} (hn:Nw N w0 pv0 ⟨vals,fun _=>[],none⟩ st a w pv ρ) {u:FrameMode} (hpm:PmR w pv pm u)
 (hk:∀ st' w',k st'=some r→Now N w0 pv0 ⟨vals,fun _=>[],none⟩ st' { tmps:=a.tmps,defers:=[] } w'→∃ v,(results fn0 a.tmps).run P w' = .ok v w'∧R (.returned v) w'):Leaves P fn0 a.tmps R [d] u w:=by
 have hn0:=hn
 unfold callDefH at h
 split at h
 ·rename_i g cap
  split at h
  ·rename_i fn hfn
   split at h
   ·rename_i id ops rest hbody hres
    split at h
    ·rename_i o hops
     split at h
     ·rename_i c ho hg
      split at h
      ·rename_i hc hargs
       cases hdf with
       |@fn _ vb _ hf =>
       cases hf with
       |@fn _ _ _ _ _ _ hla ha hlb hb =>
       have hca:c.args = #[]:=by rw[← Array.toArray_toList (xs:=c.args),hargs]
       have hops':ops = #[o]:=by rw[← Array.toArray_toList (xs:=ops),hops]
       have hu:u ≠ .run:=by
        cases pm with
        |none=>rw[show u = .returning from hpm];simp
        |some c=>obtain⟨x,hx,_⟩:=hpm;rw[hx];simp
       refine leaves_cons hu (f:=g) (args:=vb) ?_ ?_
       ·simp only[invoke]
        rw[MuLone.run_callFunc_enter hfn (hnm g fn _ hfn hbody) hbody]
        simp
       ·refine callsD_of_wpS hfn hbody fun c₀ cs hc₀=>?_
        refine wpS_seq (wpS_region ?_)
        have hrec:∀ (a':Act),(execOp a'.eval o).run P w = .ok .recover w:=by
         intro a'
         simp[execOp,ho,resolve,hc,hca,invoke,builtin]
        subst hops'
        have fin:∀ (v:Value) (cv:V) (u':FrameMode),Rel w pv none_ v cv→settle u' = .returning→evCode P (C g) env .no rest { tm:=setTm (cap ++ List.replicate (fn.ntmps - cap.length) .undef) o.dst cv,hp:=st.hp,df:=[],ext:=st.tm ++ st.ext }
         (fun ex st'=>(match ex,st'.df with
          |.normal,[]=>k { tm:=st'.ext.take st.tm.length,hp:=st'.hp,df:=[],ext:=st'.ext.drop st.tm.length }
          |.ret,[]=>k { tm:=st'.ext.take st.tm.length,hp:=st'.hp,df:=[],ext:=st'.ext.drop st.tm.length }
          |_,_=>none))=some r →
         rest.wpS P (bodyPostS P fn c₀ cs fun
          |.returned _,u',w'=>Leaves P fn0 a.tmps R [] (settle u') w'
          |.panicked chain,u',w'=>Leaves P fn0 a.tmps R [] (raised u' chain) w'
          |.outgrown,_,w'=>R .outgrown w') (Act.put { tmps:=vb ++ Array.replicate (fn.ntmps - vb.size) undef,defers:=[] } o.dst v) ({ c₀ with mode:=u' } :: cs) w:=by
         intro v cv u' hv hset h
         refine wpS_of_wp ((wpIn_wide (n:=0)).1 (evCode_ok (N:=N) (ro:=none) (n:=0) (w0:=w0) (pv0:=pv0) (cx:=⟨a.tmps ++ vals,fun _=>[],none⟩) (hC g) henv HkOk.no_ rest _ _ _ h ?_ _ w ?_))
         ·intro ex st' a' w' e h he
          have fin2:st'.df=[]→k { tm:=st'.ext.take st.tm.length,hp:=st'.hp,df:=[],ext:=st'.ext.drop st.tm.length }=some r→Now N w0 pv0 ⟨a.tmps ++ vals,fun _=>[],none⟩ st' a' w'→a'.defers=[]∧∃ u'',({ c₀ with mode:=u' } :: cs:List Frame) = { c₀ with mode:=u'' } :: cs∧∃ v,(results fn a'.tmps).run P w' = .ok v w'∧Leaves P fn0 a.tmps R [] (settle u'') w':=by
           intro hdf h hn
           obtain⟨pv1,ρ1,hn⟩:=hn
           have hsz:a.tmps.size=st.tm.length:=hn0.tm.1
           have hd:a'.defers=[]:=by
            have:=hn.df
            rw[hdf] at this
            exact dfR_nil this
           obtain⟨v1,g1,g2⟩:=hk _ w' h ⟨pv1,ρ1,hn.pre,(relL_take (xs:=a.tmps) (ys:=vals) hn.ext hsz).1,hn.low,.nil,(relL_take (xs:=a.tmps) (ys:=vals) hn.ext hsz).2,fun p h=>by simp at h,hn.below,hn.keeps,hn.sub⟩
           refine⟨hd,u',rfl,.tuple #[],?_,?_⟩
           ·rw[results_resF]
            have:fn.results = #[]:=by rw[← Array.toArray_toList (xs:=fn.results),hres]
            rw[this]
            simp
           ·rw[hset]
            exact⟨v1,g1,g2⟩
          split at h
          ·rename_i hex hdf
           obtain⟨rfl,hn⟩:=he
           exact fin2 hdf h hn
          ·rename_i hex hdf
           obtain⟨rfl,hn⟩:=he
           exact fin2 hdf h hn
          ·cases h
         ·refine⟨pv,ρ,hn.pre,put_rel (v:=v) ?_ (hv.closed ρ) o.dst,hn.low,by rw[put_defers];exact .nil,relL_app hn.tm hn.ext,fun p h=>by simp at h,hn.below,hn.keeps,hn.sub⟩
          refine⟨by simp[hlb],fun i v c g1 g2=>?_⟩
          have g1:(vb ++ Array.replicate (fn.ntmps - vb.size) undef)[i]? = some v:=g1
          rw[Array.getElem?_append] at g1
          rw[List.getElem?_append,← hlb] at g2
          split at g1
          ·rename_i hlt'
           rw[if_pos hlt'] at g2
           exact hb i v c g1 g2
          ·rename_i hlt'
           rw[if_neg hlt'] at g2
           have e1:v=undef:=by
            have:=Array.mem_of_getElem? g1
            simp at this
            exact this.2
           have e2:c = .undef:=by
            have:=List.mem_of_getElem? g2
            simp at this
            exact this.2
           subst e1 e2
           exact .undef
        have hw:∀ (t:Array Value),Region.wanted o (yielded #[o] t)=true:=fun t=>by unfold Region.wanted;rw[hg]
        show wpOpsS P #[o] _ [0] _ _ _
        simp only[wpOpsS]
        rw[show (#[o]:Array Oper)[0]? = some o from rfl]
        simp only[hw,if_true,hrec]
        cases pm with
        |none =>
         have hm:c₀.mode = .returning:=hc₀.trans hpm
         have hr:recoverD (c₀ :: cs)=none:=by simp[recoverD,hm]
         rw[hr]
         have hc0:({ c₀ with mode:=.returning }:Frame)=c₀:=by rw[← hm]
         have:=fin .nilIface .nili .returning .nili rfl h
         rw[hc0] at this
         exact this
        |some c1 =>
         obtain⟨x,hx,hrx⟩:=hpm
         have hm:c₀.mode = .panicking [{ v:=x,recovered:=false }]:=hc₀.trans hx
         have hr:recoverD (c₀ :: cs)=some (x,{ c₀ with mode:=.panicking [{ v:=x,recovered:=true }] } :: cs):=by simp[recoverD,hm]
         rw[hr]
         exact fin x c1 (.panicking [{ v:=x,recovered:=true }]) hrx rfl h
      ·cases h
     ·cases h
    ·cases h
   ·cases h
  ·cases h
 ·cases h
theorem resHK2xok {w0:World} {ρ0:Nat→Option Info} {n:Nat} {pv0:Nat→Prop} (hall:∀ b,b<n→∃ i,ρ0 b=some i) {fn:Func} {v:V} {hp':List Slot}:∀ {st:St} {w:World} {tmps:Array Value} {pv ρ},resHK2 P fn.results.toList st=some (.ret v,hp')→Nw N w0 pv0 ⟨blkVals ρ0 n,fun _=>[],none⟩ st { tmps:=tmps,defers:=[] } w pv ρ→∃ x,(results fn tmps).run P w = .ok x w∧∃ pv' ρ',HvPost N w0 pv0 ρ0 n hp' v (.returned x) w pv' ρ':=by
 intro st w tmps pv ρ h hn
 unfold resHK2 at h
 obtain⟨cs,us,h,hlen,hrun,hrel⟩:=resH_ok (P:=P) hn.pre hn.tm _ _ h
 have hres:(results fn tmps).run P w = .ok (if h:us.toArray.size=1 then us.toArray[0] else .tuple us.toArray) w:=by
  rw[results_resF,Array.mapM_eq_mapM_toList]
  simp only[Sem.run_bind,Sem.run_map,hrun,Result.andThen_ok,Sem.run_pure]
 refine⟨_,hres,?_⟩
 split at h
 ·rename_i c
  match us,hlen,hrel with
  |[u],_,hrel =>
   obtain⟨ρ',hpost⟩:=finH_ok hall h hn (hrel 0 u c rfl rfl)
   exact⟨pv,ρ',hpost⟩
 ·rename_i hne
  have h1:us.toArray.size ≠ 1:=fun h1=>by
   have h2:cs.length=1:=by rw[← hlen];simpa using h1
   match cs,h2 with
   |[c],_=>exact hne c rfl
  rw[dif_neg h1]
  obtain⟨ρ',hpost⟩:=finH_ok hall h hn (u:=.tuple us.toArray) (.tup (by simpa using hlen) fun i u c g1 g2=>hrel i u c (by simpa using g1) g2)
  exact⟨pv,ρ',hpost⟩
theorem resH_same {st st':St} (h1:st.tm=st'.tm) (h2:st.hp=st'.hp) (h3:st.ext=st'.ext):∀ (rs:List ResultVar) (k k':List V→Option (Out × List Slot)),(∀ vs,k vs=k' vs)→resH P st rs k=resH P st' rs k':=by
 intro rs
 induction rs with
 |nil=>intro k k' hk;exact hk []
 |cons x rs ih =>
  intro k k' hk
  cases x with
  |tmp t=>simp only[resH,h1];exact ih _ _ fun vs=>hk _
  |cell a t =>
   simp only[resH,h1,h2]
   congr 1
   funext v _ _
   exact ih _ _ fun vs=>hk _
theorem endHM_ok {w0:World} {ρ0:Nat→Option Info} {n m:Nat} {pv0:Nat→Prop} (hall:∀ b,b<n→∃ i,ρ0 b=some i) {fn:Func} {ex:Ex} {st:St} {v:V} {hp':List Slot} {e:Exit} (h:endHM P fn.results.toList ex st=some (.ret v,hp')) (hn:ExNow N w0 pv0 (Cx.marks w0.heap.size (blkVals ρ0 n)) ex st a w e) :
 bodyPostM (Fr none) m P fn (fun e w'=>∃ pv' ρ',HvPost N w0 pv0 ρ0 n hp' v e w' pv' ρ') e a w:=by
 have hdf:st.df=[]:=by
  unfold endHM at h
  split at h<;>first | assumption | cases h
 have hres:resHK2 P fn.results.toList st=some (.ret v,hp')→Now N w0 pv0 (Cx.marks w0.heap.size (blkVals ρ0 n)) st a w→LeavesInM (Fr none) m P fn a.tmps (fun e w'=>∃ pv' ρ',HvPost N w0 pv0 ρ0 n hp' v e w' pv' ρ') a.defers .returning w:=by
  rintro h ⟨pv,ρ,hn⟩
  obtain⟨Ds,h1,h2,h4⟩:=marks_inv (by have:=hn.df;rw[hdf] at this;exact this)
  rw[h1]
  refine leaves_marks (xs:=blkVals ρ0 n) (st:=st) (v:=undef) (c:=.top) (by simp) Ds w ⟨hn.pre,hn.tm,hn.low,.nil,hn.ext,fun p hp=>by simp at hp,hn.below,hn.keeps,hn.sub⟩ .top h2 h4 fun w' hn' _=>?_
  have hres2:resHK2 P fn.results.toList { st with df:=[],pend:=none }=some (.ret v,hp'):=by
   rw[← h]
   unfold resHK2
   exact resH_same (P:=P) (st:={ st with df:=[],pend:=none }) (st':=st) rfl rfl rfl _ _ _ fun vs=>rfl
  exact resHK2xok hall hres2 hn'
 unfold endHM at h
 rw[hdf] at h
 cases ex with
 |normal=>obtain⟨rfl,hn⟩:=hn;exact hres h hn
 |ret=>obtain⟨rfl,hn⟩:=hn;exact hres h hn
 |exit id=>cases h
 |pan c=>cases h
theorem endH_ok {C:Nat→Cfg} (hC:OkCfg P C) (hnm:OkNames P) {env:Env} (henv:OkEnv P env) {w0:World} {ρ0:Nat→Option Info} {n:Nat} {pv0:Nat→Prop} (hall:∀ b,b<n→∃ i,ρ0 b=some i) {fn:Func} {ex:Ex} {st:St} {v:V} {hp':List Slot} {e:Exit} (h:endH P C env fn.results.toList ex st=some (.ret v,hp')) (hn:ExNow N w0 pv0 ⟨blkVals ρ0 n,fun _=>[],none⟩ ex st a w e) :
 bodyPostD P fn (fun e w'=>∃ pv' ρ',HvPost N w0 pv0 ρ0 n hp' v e w' pv' ρ') e a w:=by
 have hres1:∀ {st:St} {w:World} {tmps:Array Value} {pv ρ},resHK2 P fn.results.toList st=some (.ret v,hp')→Nw N w0 pv0 ⟨blkVals ρ0 n,fun _=>[],none⟩ st { tmps:=tmps,defers:=[] } w pv ρ→∃ x,(results fn tmps).run P w = .ok x w∧∃ pv' ρ',HvPost N w0 pv0 ρ0 n hp' v (.returned x) w pv' ρ':=resHK2xok hall
 unfold endH at h
 split at h
 ·rename_i hdf
  have hres:∀ {pv ρ},resHK2 P fn.results.toList st=some (.ret v,hp')→Nw N w0 pv0 ⟨blkVals ρ0 n,fun _=>[],none⟩ st a w pv ρ→Leaves P fn a.tmps (fun e w'=>∃ pv' ρ',HvPost N w0 pv0 ρ0 n hp' v e w' pv' ρ') a.defers .returning w:=by
   intro pv ρ h hn
   have hd:a.defers=[]:=by have:=hn.df;rw[hdf] at this;exact dfR_nil this
   rw[hd]
   have hn':Nw N w0 pv0 ⟨blkVals ρ0 n,fun _=>[],none⟩ st { tmps:=a.tmps,defers:=[] } w pv ρ:=by rw[← hd];exact hn
   exact hres1 h hn'
  cases ex with
  |normal=>obtain⟨rfl,pv,ρ,hn⟩:=hn;exact hres h hn
  |ret=>obtain⟨rfl,pv,ρ,hn⟩:=hn;exact hres h hn
  |exit id=>cases h
  |pan c=>cases h
 ·rename_i cl hdf
  have hres:∀ {pm:Option V} {u:FrameMode} {pv ρ},callDefH P C env cl pm st (resHK2 P fn.results.toList)=some (.ret v,hp')→Nw N w0 pv0 ⟨blkVals ρ0 n,fun _=>[],none⟩ st a w pv ρ→PmR w pv pm u→Leaves P fn a.tmps (fun e w'=>∃ pv' ρ',HvPost N w0 pv0 ρ0 n hp' v e w' pv' ρ') a.defers u w:=by
   intro pm u pv ρ h hn hpm
   obtain⟨d,hd,hdf1⟩:∃ d,a.defers=[d]∧Df1 w pv ρ d cl:=by have:=hn.df;rw[hdf] at this;exact dfR_one this
   rw[hd]
   refine callDefH_ok hC hnm henv h hdf1 hn hpm fun st' w' h hn'=>?_
   obtain⟨pv1,ρ1,hn'⟩:=hn'
   exact hres1 h hn'
  cases ex with
  |normal=>obtain⟨rfl,pv,ρ,hn⟩:=hn;exact hres h hn rfl
  |ret=>obtain⟨rfl,pv,ρ,hn⟩:=hn;exact hres h hn rfl
  |exit id=>cases h
  |pan c=>obtain⟨u,rfl,pv,ρ,hn,hu⟩:=hn;exact hres h hn ⟨u,rfl,hu⟩
 ·cases h
theorem fzCells_ok (hs:SRel N w pv ρ hp) (old:List V):∀ {β:Type} {r:β} (is:List Nat) (cs:List V) (k:List V→List Nat→Option β),fzCells hp old is cs none k=some r →
 ∃ cs' l,k cs' l=some r∧cs'.length=cs.length∧(∀ b,b ∈ l→∃ s,hp[b]? = some s∧s.live=true) ∧
  ∀ pv':Nat→Prop,(∀ r,pv' r→pv r)→Safe ρ pv' l→∀ vs,RelL w pv ρ vs old→RelL w pv' ρ vs cs→RelL w pv' ρ vs cs':=by
 intro β r is
 induction is with
 |nil=>intro cs k h;exact⟨cs,[],h,rfl,fun b hb=>by simp at hb,fun pv' hpv _ vs _ hv=>hv⟩
 |cons i is ih =>
  intro cs k h
  simp only[fzCells] at h
  split at h
  ·rename_i c hc
   obtain⟨c',l,h,h1,_,h2⟩:=closeK_ok hs closeD c _ h
   obtain⟨cs',l',hk,h3,h4,h5⟩:=ih _ _ h
   refine⟨cs',l ++ l',hk,by simpa using h3,fun b hb=>?_,fun pv' hpv hsafe vs ho hv=>?_⟩
   ·rcases List.mem_append.1 hb with hb | hb
    ·exact h1 b hb
    ·exact h4 b hb
   ·have s1:Safe ρ pv' l:=fun b hb=>hsafe b (List.mem_append_left _ hb)
    have s2:Safe ρ pv' l':=fun b hb=>hsafe b (List.mem_append_right _ hb)
    refine h5 pv' hpv s2 vs ho ⟨by simpa using hv.1,fun j v x g1 g2=>?_⟩
    rw[List.getElem?_set] at g2
    split at g2
    ·rename_i hij
     subst hij
     split at g2
     ·cases g2
      exact (h2 pv' hpv s1 v (ho.2 _ v c g1 hc)).closed ρ
     ·cases g2
    ·exact hv.2 j v x g1 g2
  ·cases h
theorem setSlots_dead:∀ (l:List Nat) (hp:List Slot),(∀ b,b ∈ l→b<hp.length)→(setSlots hp (l.map fun b=>(b,Slot.dead))).length=hp.length∧∀ b:Nat,(setSlots hp (l.map fun b=>(b,Slot.dead)))[b]? = if b ∈ l then some .dead else hp[b]?
 |[],hp,_=>⟨rfl,fun b=>by simp[setSlots]⟩
 |b0 :: l,hp,h=>by
  have hb0:=h b0 (List.mem_cons_self ..)
  have hlen:(setSlot hp b0 .dead).length=hp.length:=setSlot_len_lt _ _ _ hb0
  obtain⟨h1,h2⟩:=setSlots_dead l (setSlot hp b0 .dead) (fun b hb=>by rw[hlen];exact h b (List.mem_cons_of_mem _ hb))
  refine⟨by rw[← hlen];exact h1,fun b=>?_⟩
  have e:=h2 b
  rw[setSlot_get hp b0 .dead b (by omega)] at e
  show (setSlots (setSlot hp b0 .dead) (l.map fun b=>(b,Slot.dead)))[b]? = _
  rw[e]
  by_cases hb:b ∈ l
  ·rw[if_pos hb,if_pos (List.mem_cons_of_mem _ hb)]
  ·rw[if_neg hb]
   by_cases hbb:b=b0
   ·rw[if_pos hbb,if_pos (by rw[hbb];exact List.mem_cons_self ..)]
   ·rw[if_neg hbb,if_neg (fun hm=>(List.mem_cons.1 hm).elim hbb hb)]
theorem pre_closed (pre:Pre N w pv ρ hp) {b0:Nat} {e:TypeId} {cs cs':List V} {l:List Nat} (hz:hp[b0]? = some (.box e cs true)) (hl:∀ b,b ∈ l→∃ s,hp[b]? = some s∧s.live=true) (hlen:cs'.length=cs.length) (h0:b0 ∉ l) (hone:cs'.all V.one=true)
 (hrel:∀ pv':Nat→Prop,(∀ r,pv' r→pv r)→Safe ρ pv' l→∀ vs,RelL w pv ρ vs cs→RelL w pv' ρ vs cs→RelL w pv' ρ vs cs') :
 Pre N w (pvF pv ρ l) ρ (setSlots hp (l.map (fun b=>(b,Slot.dead)) ++ [(b0,.box e cs' true)]))∧(setSlots hp (l.map (fun b=>(b,Slot.dead)) ++ [(b0,.box e cs' true)])).length=hp.length:=by
 have st:=step_freeze pre hl
 have hlt:∀ b,b ∈ l→b<hp.length:=fun b hb=>by
  obtain⟨s,hs,_⟩:=hl b hb
  exact (List.getElem?_eq_some_iff.1 hs).1
 obtain⟨d1,d2⟩:=setSlots_dead l hp hlt
 have hz0:b0<hp.length:=(List.getElem?_eq_some_iff.1 hz).1
 rw[setSlots_append]
 generalize hp1d:setSlots (setSlots hp (l.map fun b=>(b,Slot.dead))) [(b0,Slot.box e cs' true)]=hp1
 have hg1:∀ b:Nat,hp1[b]? = if b=b0 then some (.box e cs' true) else if b ∈ l then some .dead else hp[b]?:=fun b=>by
  rw[← hp1d]
  show (setSlot (setSlots hp (l.map fun b=>(b,Slot.dead))) b0 (.box e cs' true))[b]? = _
  rw[setSlot_get _ b0 _ b (by omega),d2]
 have hl1:hp1.length=hp.length:=by
  rw[← hp1d]
  show (setSlot (setSlots hp (l.map fun b=>(b,Slot.dead))) b0 (.box e cs' true)).length=_
  rw[setSlot_len_lt _ _ _ (by omega),d1]
 have hlive:∀ (b:Nat) s,hp1[b]? = some s→s.live=true→∃ s',hp[b]? = some s'∧s'.live=true:=fun b s hb hlv=>by
  rw[hg1] at hb
  split at hb
  ·rename_i hb0;subst hb0;exact⟨_,hz,rfl⟩
  ·split at hb
   ·cases hb;cases hlv
   ·exact⟨s,hb,hlv⟩
 refine⟨⟨⟨fun b s hb=>?_,fun b hb=>?_,fun b b' s s' i i' hb hb' hs hs' hi hi' he=>?_⟩,pre.low,fun r h=>pre.lt r h.1⟩,hl1⟩
 ·rw[hg1] at hb
  split at hb
  ·rename_i hb0
   cases hb
   subst hb0
   obtain⟨r,ws,e1,e2,e3,e4,e5,e6⟩:=pre.slots.slot _ _ hz
   refine⟨r,ws,by rw[hlen];exact e1,e2,e3,hrel (pvF pv ρ l) (fun r h=>h.1) (safe_pvF pv ρ l) ws e4 (e4.to st),hone,fun hw=>⟨e6 hw,fun b1 hb i hi he=>?_⟩⟩
   obtain⟨s,hs,hsl⟩:=hl b1 hb
   have:=pre.slots.inj _ b1 _ s _ i hz hs rfl hsl e1 hi (by rw[he])
   subst this
   exact h0 hb
  ·split at hb
   ·cases hb;trivial
   ·rename_i hb0 hbl
    exact (pre.slots.slot b s hb).keep st (fun _ _ _=>rfl) (fun x hx hlv hp=>⟨hp,fun b2 hb2 i2 hi2 he=>by
     obtain⟨s2,hs2,hl2⟩:=hl b2 hb2
     have:=pre.slots.inj b b2 s s2 x i2 hb hs2 hlv hl2 hx hi2 he.symm
     exact hbl (this ▸ hb2)⟩)
 ·rw[hg1] at hb
  split at hb
  ·cases hb
  ·split at hb
   ·cases hb
   ·exact pre.slots.out b hb
 ·obtain⟨x,hx,hxl⟩:=hlive b s hb hs
  obtain⟨x',hx',hxl'⟩:=hlive b' s' hb' hs'
  exact pre.slots.inj b b' x x' i i' hx hx' hxl hxl' hi hi' he
theorem endHZ_ok {C:Nat→Cfg} (hC:OkCfg P C) (hnm:OkNames P) {env:Env} (henv:OkEnv P env) {w0:World} {ρ0:Nat→Option Info} {n:Nat} {pv0:Nat→Prop} (hall:∀ b,b<n→∃ i,ρ0 b=some i) {fn:Func} {fe:List Nat} {ex:Ex} {st:St} {v:V} {hp':List Slot} {e:Exit} (h:endHZ P fe fn.results.toList ex st=some (.ret v,hp')) (hn:ExNow N w0 pv0 ⟨blkVals ρ0 n,fun _=>[],none⟩ ex st a w e) :
 bodyPostD P fn (fun e w'=>∃ pv' ρ',HvPost N w0 pv0 ρ0 n hp' v e w' pv' ρ') e a w:=by
 have hdf:st.df=[]:=by
  unfold endHZ at h
  split at h<;>first | assumption | cases h
 have key:∀ {pv ρ},feK fe st (resHK2 P fn.results.toList)=some (.ret v,hp')→Nw N w0 pv0 ⟨blkVals ρ0 n,fun _=>[],none⟩ st a w pv ρ→∃ st' pv',st'.df=[]∧resHK2 P fn.results.toList st'=some (.ret v,hp')∧Nw N w0 pv0 ⟨blkVals ρ0 n,fun _=>[],none⟩ st' a w pv' ρ:=by
  intro pv ρ h hn
  unfold feK at h
  split at h
  ·rename_i b0 _ _
   split at h
   ·rename_i e cs hz
    obtain⟨cs',l,h,hlen,hl,hrel⟩:=fzCells_ok hn.pre.slots cs _ _ _ h
    cases h0:l.contains b0 with
    |true=>rw[h0] at h;cases h
    |false =>
     rw[h0,cond_false] at h
     obtain⟨hone,h⟩:=bif_inv h
     have h0':b0 ∉ l:=fun hm=>by rw[List.contains_iff_mem.2 hm] at h0;cases h0
     have st1:=step_freeze hn.pre hl
     have hd:a.defers=[]:=by have:=hn.df;rw[hdf] at this;exact dfR_nil this
     refine⟨{ st with hp:=setSlots st.hp (l.map (fun b=>(b,Slot.dead)) ++ [(b0,.box e cs' true)]) },pvF pv ρ l,hdf,h,(pre_closed hn.pre hz hl hlen h0' hone hrel).1,hn.tm.to st1,fun r hr=>(st1.pvlow r hr).trans (hn.low r hr),?_,hn.ext.to st1,hn.kp,hn.below,hn.keeps,fun r hr hp=>hn.sub r hr hp.1⟩
     show DfR none N w (pvF pv ρ l) ρ a.defers st.df
     rw[hd,hdf]
     exact .nil
   ·cases h
  ·cases h
 unfold endHZ at h
 rw[hdf] at h
 cases ex with
 |normal =>
  obtain⟨rfl,pv,ρ,hn⟩:=hn
  obtain⟨st',pv',hdf',h',hn'⟩:=key h hn
  exact endH_ok hC hnm henv hall (ex:=.normal) (st:=st') (by unfold endH;rw[hdf'];exact h') ⟨rfl,pv',ρ,hn'⟩
 |ret =>
  obtain⟨rfl,pv,ρ,hn⟩:=hn
  obtain⟨st',pv',hdf',h',hn'⟩:=key h hn
  exact endH_ok hC hnm henv hall (ex:=.ret) (st:=st') (by unfold endH;rw[hdf'];exact h') ⟨rfl,pv',ρ,hn'⟩
 |exit id=>cases h
 |pan c=>cases h
theorem evFunH0xok {C:Nat→Cfg} (hC:OkCfg P C) (hnm:OkNames P) {env:Env} {f:Nat} {args:List V} (henv:OkEnv P env) {v:V} {hp':List Slot} (h:evFunH0 P C env f args hp=some (.ret v,hp')) (pre:Pre N w pv ρ hp) (hall:∀ b,b<hp.length→∃ i,ρ b=some i) (vs:Array Value) (hvs:RelL w pv ρ vs args) :
 Calls P f vs w fun e w'=>∃ pv' ρ',HvPost N w pv ρ hp.length hp' v e w' pv' ρ':=by
 unfold evFunH0 at h
 split at h
 ·rename_i fn hfn
  split at h
  ·rename_i c hbody
   have hstart:∀ mk,Now N w pv ⟨blkVals ρ hp.length,fun _=>[],mk⟩ { tm:=args ++ List.replicate (fn.ntmps - args.length) .undef,hp:=hp,ext:=(List.range hp.length).map .blk } { tmps:=vs ++ Array.replicate (fn.ntmps - vs.size) undef,defers:=[] } w:=by
    intro mk
    refine⟨pv,ρ,pre,?_,fun _ _=>Iff.rfl,.nil,⟨by simp[blkVals],fun i v c g1 g2=>?_⟩,fun p hp=>by simp at hp,BelowP.refl _ _,Keeps.refl _ _,fun _ _ h=>h⟩
    ·rw[hvs.1]
     refine relL_app hvs ⟨by simp,fun i v c g1 g2=>?_⟩
     have e1:v=undef:=by
      have:=Array.mem_of_getElem? g1
      simp at this
      exact this.2
     have e2:c = .undef:=by
      have:=List.mem_of_getElem? g2
      simp at this
      exact this.2
     subst e1 e2
     exact .undef
    ·have hi:i<hp.length:=by have:=(List.getElem?_eq_some_iff.1 g2).1;simpa using this
     simp[blkVals,hi] at g1
     simp[hi] at g2
     obtain⟨x,hx⟩:=hall i hi
     rw[hx] at g1
     subst g1 g2
     exact .blk hx
   have noyk:∀ (n:Nat) (cx:Cx),OkYk P N w pv cx none n (Out.ret v,hp') (hkH P C env f).yk:=fun n cx _ _ _ _ h=>by cases h
   cases hmk:(C f).marks with
   |false =>
    have hH:HkOk P (C f) env N w pv ⟨blkVals ρ hp.length,fun _=>[],none⟩ none 0 (Out.ret v,hp') (hkH P C env f):=⟨fun _=>rfl,noyk _ _,by
     intro g ps x y st k Q h
     simp only[hkH,hmk,cond_false] at h
     cases h⟩
    refine calls_of_wp_defers hfn hbody ((wpIn_wide (n:=0)).1 (evCode_ok (ro:=none) (n:=0) (hC f) henv hH c _ _ _ h (fun ex st a w' e h he=>?_) _ w (hstart none)))
    simp only[endHF,hmk,cond_false] at h
    cases hfe:(C f).fe.isEmpty with
    |true=>rw[hfe,cond_true] at h;exact endH_ok hC hnm henv hall h he
    |false=>rw[hfe,cond_false] at h;exact endHZ_ok hC hnm henv hall h he
   |true =>
    have hH:HkOk P (C f) env N w pv (Cx.marks w.heap.size (blkVals ρ hp.length)) none 0 (Out.ret v,hp') (hkH P C env f):=⟨fun _=>rfl,noyk _ _,by
     intro g ps x y st k Q h
     simp only[hkH,hmk,cond_true] at h
     exact inl_ok hC hnm henv g ps x y st k Q h⟩
    refine callsIn_wide.1 (callsIn_of_wp_marks (n:=0) hfn hbody trivial (evCode_ok (ro:=none) (n:=0) (hC f) henv hH c _ _ _ h (fun ex st a w' e h he=>?_) _ w (hstart (some w.heap.size))))
    simp only[endHF,hmk,cond_true] at h
    exact endHM_ok hall h he
  ·cases h
 ·cases h
theorem evFunH0xfn {C : Nat → Cfg} (hnm : OkNames P) {env : Env} {f : Nat} {args : List V} {r : Out × List Slot} (h : evFunH0 P C env f args hp = some r) : ∃ fn c, P.funcs[f]? = some fn ∧ (fn.name == "runtime.NumGoroutine") = false ∧ fn.body = some c := by
 unfold evFunH0 at h
 split at h
 ·rename_i fn hfn
  split at h
  ·rename_i c hbody
   exact⟨fn,c,hfn,hnm f fn c hfn hbody,hbody⟩
  ·cases h
 ·cases h
theorem evFunH_ok {C:Nat→Cfg} (hC:OkCfg P C) (hnm:OkNames P) {env:Env} {f:Nat} {args:List V} (henv:OkEnv P env) {v:V} {hp':List Slot} (h:evFunH P C env f args hp=some (.ret v,hp')) (pre:Pre N w pv ρ hp) (hall:∀ b,b<hp.length→∃ i,ρ b=some i) (vs:Array Value) (hvs:RelL w pv ρ vs args) :
 Calls P f vs w fun e w'=>∃ pv' ρ',HvPost N w pv ρ hp.length hp' v e w' pv' ρ':=by
 unfold evFunH fzK at h
 split at h
 ·exact evFunH0xok hC hnm henv h pre hall vs hvs
 ·split at h
  ·rename_i e cs rest
   obtain⟨cs',l,h,hlen,hl,hrel⟩:=fzCells_ok pre.slots cs _ _ _ h
   cases h0:l.contains 0 with
   |true=>rw[h0] at h;cases h
   |false =>
    rw[h0,cond_false] at h
    obtain⟨hone,h⟩:=bif_inv h
    have h0':0 ∉ l:=fun hm=>by rw[List.contains_iff_mem.2 hm] at h0;cases h0
    have st:=step_freeze pre hl
    generalize hhp:(Slot.box e cs true :: rest)=hp0 at *
    have hz:hp0[0]? = some (Slot.box e cs true):=by rw[← hhp];rfl
    obtain⟨pre1,hl1⟩:=pre_closed pre hz hl hlen h0' hone hrel
    refine (evFunH0xok hC hnm henv h pre1 (fun b hb=>hall b (by rw[← hl1];exact hb)) vs (hvs.to st)).mono ?_
    rintro e' w' ⟨pv',ρ',post⟩
    rw[hl1] at post
    exact⟨pv',ρ',{ keeps:=⟨post.keeps.size,fun r hr hp=>post.keeps.block r hr (fun hx=>hp hx.1),fun r cs e hp hc=>by
     by_cases hx:pvF pv ρ l r
     ·exact post.keeps.own r cs e hx hc
     ·exact⟨cs,(post.keeps.block r (lt_of_block hc) hx).trans hc,rfl⟩,post.keeps.other⟩,below:=post.below,pvsub:=fun r hr h=>(post.pvsub r hr h).1,pvlt:=post.pvlt,pvlow:=fun r hr=>(post.pvlow r hr).trans (st.pvlow r hr),rho:=post.rho,slots:=post.slots,out:=post.out }⟩
  ·cases h
theorem fzCells_some {hp:List Slot} {old:List V} {β:Type} {r:β}:∀ {is:List Nat} {cs:List V} {k:List V→List Nat→Option β},fzCells hp old is cs none k=some r→∃ cs' l,k cs' l=some r
 |[],cs,k,h=>⟨_,_,h⟩
 |i :: is,cs,k,h=>by
  simp only[fzCells] at h
  split at h
  ·rename_i c hc
   obtain⟨o,ho⟩:=closeK_n hp closeD c
   rw[ho] at h
   cases o with
   |none=>cases h
   |some p=>exact fzCells_some (k:=fun cs' l'=>k cs' (p.2 ++ l')) h |>.elim fun cs' hx=>hx.elim fun l' hk=>⟨cs',p.2 ++ l',hk⟩
  ·cases h
theorem evFunH_fn {C : Nat → Cfg} (hnm : OkNames P) {env : Env} {f : Nat} {args : List V} {r : Out × List Slot} (h : evFunH P C env f args hp = some r) : ∃ fn c, P.funcs[f]? = some fn ∧ (fn.name == "runtime.NumGoroutine") = false ∧ fn.body = some c := by
 unfold evFunH fzK at h
 split at h
 ·exact evFunH0xfn hnm h
 ·split at h
  ·obtain⟨cs',l,h⟩:=fzCells_some h
   cases h0:l.contains 0 with
   |true=>rw[h0] at h;cases h
   |false =>
    rw[h0,cond_false] at h
    obtain⟨_,h⟩:=bif_inv h
    exact evFunH0xfn hnm h
  ·cases h
end
end Go.Sim

namespace Go.Sim
open Go.RowKit
noncomputable def envN (P:Program) (C:Nat→Cfg):Nat→Env
 |0=>⟨fun _ _=>none,fun _ _ _=>none⟩
 |d+1=>⟨fun f args=>evFun P C (envN P C d) f args,fun f args hp=>evFunH P C (envN P C d) f args hp⟩
theorem okEv {P:Program} {C:Nat→Cfg} (hC:OkCfg P C) (hnm:OkNames P) {env:Env} (ih:OkEnv P env):OkEnv P ⟨fun f args=>evFun P C env f args,fun f args hp=>evFunH P C env f args hp⟩:=by
 constructor
 ·intro g args out h
  have h':evFun P C env g args=some out:=h
  refine⟨?_,fun w pv hlt vs hvs=>evFun_ok hC hnm ih h' w pv hlt vs hvs⟩
  unfold evFun at h'
  split at h'
  ·rename_i fn hfn
   split at h'
   ·rename_i c hbody
    exact⟨fn,c,hfn,hnm g fn c hfn hbody,hbody⟩
   ·cases h'
  ·cases h'
 ·intro g args hp v hp' h
  exact⟨evFunH_fn hnm h,fun N w pv ρ pre hall vs hvs=>evFunH_ok hC hnm ih h pre hall vs hvs⟩
theorem envN_ok {P:Program} {C:Nat→Cfg} (hC:OkCfg P C) (hnm:OkNames P):∀ d,OkEnv P (envN P C d):=by
 intro d
 induction d with
 |zero=>exact⟨fun g args out h=>(by cases h),fun g args hp v hp' h=>(by cases h)⟩
 |succ d ih=>exact okEv hC hnm ih
theorem okNames_of {P : Program} (h : P.funcs.toList.all (fun fn => !(fn.name == "runtime.NumGoroutine")) = true) : OkNames P := by
 intro g fn c hg _
 have:=List.all_eq_true.1 h fn (List.mem_of_getElem? (by rw[Array.getElem?_toList];exact hg))
 simpa using this
theorem eqCs_inv:∀ {bs cs:List V} {r:Bool},eqCs (R:=Option Bool) bs cs none some=some r→∃ l:List (IntKind × Int × Int),bs=l.map (fun p=>.int p.1 p.2.1)∧cs=l.map (fun p=>.int p.1 p.2.2)∧r=l.all (fun p=>p.2.1==p.2.2):=by
 intro bs
 induction bs with
 |nil =>
  intro cs r h
  cases cs with
  |nil=>injection h with h;exact⟨[],rfl,rfl,h.symm⟩
  |cons c cs=>cases h
 |cons b bs ih =>
  intro cs r h
  cases cs with
  |nil=>cases h
  |cons c cs =>
   simp only[eqCs] at h
   split at h
   ·rename_i q x q' y
    obtain⟨hq0,g⟩:=bif_inv h
    clear h
    have hq:q=q':=by simpa using hq0
    clear hq0
    subst hq
    obtain⟨o,ho⟩:=eqCs_n bs cs
    rw[ho] at g
    cases o with
    |none=>cases g
    |some r' =>
     injection g with h
     obtain⟨l,h1,h2,h3⟩:=ih (by rw[ho];rfl:eqCs (R:=Option Bool) bs cs none some=some r')
     exact⟨(q,x,y) :: l,by simp[h1],by simp[h2],by rw[← h,h3];rfl⟩
   ·cases h
theorem relL_ints {w:World} {pv:Nat→Prop} {ρ:Nat→Option Info} {vs:Array Value} {l:List (IntKind × Int)} (h:RelL w pv ρ vs (l.map fun p=>.int p.1 p.2)):vs=(l.map fun p=>Value.int p.1 p.2).toArray:=by
 obtain⟨h1,h2⟩:=h
 refine Array.ext (by simpa using h1) fun i hi hi'=>?_
 have hi2:i<l.length:=by simpa using hi'
 have:=h2 i vs[i] (.int l[i].1 l[i].2) (by simp[hi]) (by simp[hi2])
 generalize vs[i]=u at this
 cases this
 simp
end Go.Sim

namespace Go.Sim
open Go.RowKit Go.ChangeShapes Go.WideShapes Go.ChangeAt
inductive Sh where
 |int (k:IntKind)
 |bool
 |str
 |row (l:List Sh)
inductive Fit:Sh→V→Prop where
 |int {k n} (h:k.min≤n∧n≤k.max):Fit (.int k) (.int k n)
 |bool {b}:Fit .bool (.bool b)
 |str {s:ByteArray} (h:s.size≤140737488355328):Fit .str (.str s)
 |row {l:List Sh} {nl:Bool} {len:Nat} {get:Nat→List V} (h:len≤140737488355328) (hn:nl=true→len=0) (hl:∀ i,(get i).length=l.length) (hf:∀ (i j:Nat) (s:Sh) (c:V),l[j]? = some s→(get i)[j]? = some c→Fit s c):Fit (.row l) (.row nl len l.length get)
def FitL (l:List Sh) (cs:List V):Prop:=cs.length=l.length∧∀ (j:Nat) (s:Sh) (c:V),l[j]? = some s→cs[j]? = some c→Fit s c
theorem Fit.one {s:Sh} {c:V} (h:Fit s c):c.one=true:=by cases h<;>rfl
def shFs (P:Program) (sh:TypeId→Option (List Sh)):List Field→Nat→Option (List Sh)
 |[],_=>some []
 |f :: r,off=>match sh f.type,shFs P sh r (off+P.cellsOf f.type) with
  |some a,some b=>bif f.offset==off && a.length==P.cellsOf f.type then some (a ++ b) else none
  |_,_=>none
def shRep:Nat→List Sh→List Sh
 |0,_=>[]
 |n+1,l=>l ++ shRep n l
def shOf (P:Program):Nat→TypeId→Option (List Sh)
 |0,_=>none
 |d+1,t=>match P.underlying t with
  |some (.int k)=>some [.int k]
  |some .bool=>some [.bool]
  |some .string=>some [.str]
  |some (.slice e)=>(match shOf P d e with
   |some (s :: l)=>bif (s :: l).length==P.cellsOf e && Nat.ble 1 (P.bytesOf e) then some [.row (s :: l)] else none
   |_=>none)
  |some (.struct fs)=>(match shFs P (shOf P d) fs.toList 0 with
   |some l=>bif l.length==P.cellsOf t then some l else none
   |none=>none)
  |some (.array n e)=>(match shOf P d e with
   |some l=>bif l.length==P.cellsOf e && (shRep n l).length==P.cellsOf t then some (shRep n l) else none
   |none=>none)
  |_=>none
mutual
def zeroV:Sh→V
 |.int k=>.int k 0
 |.bool=>.bool false
 |.str=>.str ByteArray.empty
 |.row l=>.row true 0 l.length fun _=>zeroL l
def zeroL:List Sh→List V
 |[]=>[]
 |s :: l=>zeroV s :: zeroL l
end
theorem zeroL_len:∀ l:List Sh,(zeroL l).length=l.length
 |[]=>by simp[zeroL]
 |_ :: l=>by simp[zeroL,zeroL_len l]
theorem zero_int (k:IntKind):k.min≤0∧0≤k.max:=by cases k<;>decide
mutual
theorem zeroV_fit:∀ s:Sh,Fit s (zeroV s)
 |.int k=>by rw[zeroV];exact .int (zero_int k)
 |.bool=>by rw[zeroV];exact .bool
 |.str=>by rw[zeroV];exact .str (Nat.zero_le _)
 |.row l=>by
  rw[zeroV]
  exact .row (Nat.zero_le _) (fun _=>rfl) (fun _=>zeroL_len l) (fun _ j s c h1 h2=>(zeroL_fit l) j s c h1 h2)
theorem zeroL_fit:∀ (l:List Sh) (j:Nat) (s:Sh) (c:V),l[j]? = some s→(zeroL l)[j]? = some c→Fit s c
 |[],j,s,c,h,_=>by simp at h
 |x :: l,0,s,c,h1,h2=>by
  simp only[zeroL,List.getElem?_cons_zero,Option.some.injEq] at h1 h2
  subst h1 h2
  exact zeroV_fit x
 |x :: l,j+1,s,c,h1,h2=>by
  simp only[zeroL,List.getElem?_cons_succ] at h1 h2
  exact zeroL_fit l j s c h1 h2
end
section
variable {H:Type} {enc:TypeId × Value→H} {P:Program} {w:World} {base:Nat} {sp:Nat→Bool} {held:Bool}
abbrev noPv:Nat→Prop:=fun _=>False
def Seen (w:World) (vs:List Value) (sh:List Sh) (cs:List V):Prop :=
 vs.length=cs.length∧FitL sh cs∧∀ (i:Nat) (v:Value) (c:V),vs[i]? = some v→cs[i]? = some c→Rel w noPv none_ v c
theorem Seen.one {vs:List Value} {sh:List Sh} {cs:List V} (h:Seen w vs sh cs) {i:Nat} {c:V} (hc:cs[i]? = some c):c.one=true:=by
 have hi:i<sh.length:=by
  have:=(List.getElem?_eq_some_iff.1 hc).1
  rw[← h.2.1.1];exact this
 exact (h.2.1.2 i sh[i] c (List.getElem?_eq_getElem hi) hc).one
theorem seen1 {v:Value} {s:Sh} {c:V} (hf:Fit s c) (hr:Rel w noPv none_ v c):Seen w [v] [s] [c]:=by
 refine⟨rfl,⟨rfl,?_⟩,?_⟩
 ·intro j s' c' h1 h2
  match j with
  |0=>simp only[List.getElem?_cons_zero,Option.some.injEq] at h1 h2;subst h1 h2;exact hf
  |j+1=>simp at h1
 ·intro j v' c' h1 h2
  match j with
  |0=>simp only[List.getElem?_cons_zero,Option.some.injEq] at h1 h2;subst h1 h2;exact hr
  |j+1=>simp at h1
theorem Seen.append {vs vs':List Value} {sh sh':List Sh} {cs cs':List V} (h:Seen w vs sh cs) (h':Seen w vs' sh' cs'):Seen w (vs ++ vs') (sh ++ sh') (cs ++ cs'):=by
 obtain⟨a1,a2,a3⟩:=h
 obtain⟨b1,b2,b3⟩:=h'
 refine⟨by simp[a1,b1],⟨by simp[a2.1,b2.1],fun j s c h1 h2=>?_⟩,fun j v c h1 h2=>?_⟩
 ·by_cases hj:j<sh.length
  ·rw[List.getElem?_append_left hj] at h1
   rw[List.getElem?_append_left (by rw[a2.1];exact hj)] at h2
   exact a2.2 j s c h1 h2
  ·rw[List.getElem?_append_right (by omega)] at h1
   rw[List.getElem?_append_right (by rw[a2.1];omega),a2.1] at h2
   exact b2.2 _ s c h1 h2
 ·by_cases hj:j<vs.length
  ·rw[List.getElem?_append_left hj] at h1
   rw[List.getElem?_append_left (by rw[← a1];exact hj)] at h2
   exact a3 j v c h1 h2
  ·rw[List.getElem?_append_right (by omega)] at h1
   rw[List.getElem?_append_right (by rw[← a1];omega),← a1] at h2
   exact b3 _ v c h1 h2
theorem wf_bounds {k:IntKind} {n:Int} (h:(Lit.int k n).wf=true):k.min≤n∧n≤k.max:=by
 simpa[Lit.wf] using h
theorem weights_all {e:TypeId} {d:DataW H}:∀ {l:List (DataW H)},d ∈ l→∀ n ∈ d.weights P e,n ∈ DataW.weightsAll P e l:=by
 intro l
 induction l with
 |nil=>intro h;cases h
 |cons x l ih =>
  intro h n hn
  rw[DataW.weightsAll,List.mem_append]
  rcases List.mem_cons.1 h with rfl | h
  ·exact .inl hn
  ·exact .inr (ih h n hn)
theorem seen_of:∀ (d fuel:Nat) (t:TypeId) (vs:List Value) (x:DataW H × List MemPlace) (sh:List Sh),DataW.trod enc P w base sp held fuel t vs=some x→(∀ n ∈ x.1.weights P t,n≤reachBytes)→shOf P d t=some sh→∃ cs,Seen w vs sh cs:=by
 intro d
 induction d with
 |zero=>intro fuel t vs x sh _ _ h;simp[shOf] at h
 |succ d ih =>
  intro fuel t vs x sh h hwt hs
  unfold shOf at hs
  split at hs
  ·rename_i k ht
   injection hs with hs
   subst hs
   obtain⟨n,rfl,_,hw⟩:=DataW.trod_int ht h
   exact⟨[.int k n],seen1 (.int (wf_bounds hw)) .int⟩
  ·rename_i ht
   injection hs with hs
   subst hs
   obtain⟨b,rfl,_⟩:=DataW.trod_bool ht h
   exact⟨[.bool b],seen1 .bool .bool⟩
  ·rename_i ht
   injection hs with hs
   subst hs
   obtain⟨s,rfl,rfl,hm⟩:=DataW.trod_string ht h
   have hm2:s.size≤reachBytes:=by
    have:=hwt s.data.toList.length (by simp[DataW.weights])
    rwa [show s.data.toList.length=s.size from by rw[Array.length_toList];rfl] at this
   exact⟨[.str s],seen1 (.str (by unfold reachBytes at hm2;omega)) .str⟩
  ·rename_i e ht
   split at hs
   ·rename_i s0 l he
    cases hc:(s0 :: l).length==P.cellsOf e && Nat.ble 1 (P.bytesOf e) with
    |false=>rw[hc] at hs;cases hs
    |true =>
     rw[hc,cond_true] at hs
     injection hs with hs
     subst hs
     rw[Bool.and_eq_true] at hc
     have hw:(s0 :: l).length=P.cellsOf e:=by simpa using hc.1
     have hby:1≤P.bytesOf e:=Nat.le_of_ble_eq_true hc.2
     rcases DataW.trod_slice ht h with⟨rfl,_⟩ | ⟨a,len,cap,elems,rest,n,_,rfl,rfl,hb,hlc,hcm,hel,hget,_⟩
     ·exact⟨[.row true 0 (s0 :: l).length fun _=>zeroL (s0 :: l)],seen1 (.row (Nat.zero_le _) (fun _=>rfl) (fun _=>zeroL_len _) fun _ j s c h1 h2=>zeroL_fit _ j s c h1 h2) .nilrow⟩
     ·have hlen:len≤140737488355328:=by
       have:=hwt (((elems.map (·.1)).length+(rest.map (·.1)).length)*P.bytesOf e) (by simp[DataW.weights,ht])
       have h2:len*1≤((elems.map (·.1)).length+(rest.map (·.1)).length)*P.bytesOf e:=Nat.mul_le_mul (by simp;omega) hby
       unfold reachBytes at this
       omega
      have hwe:∀ i (hi:i<elems.length),∀ n ∈ elems[i].1.weights P e,n≤reachBytes:=fun i hi n hn=>hwt n (by
       simp only[DataW.weights,ht,List.mem_cons,List.mem_append]
       exact .inr (.inl (weights_all (List.mem_map_of_mem (List.getElem_mem hi)) n hn)))
      have each:∀ i,i<len→∃ vs',w.cells? base (a.add (i*P.cellsOf e)) (P.cellsOf e)=some vs'∧∃ cs,Seen w vs' (s0 :: l) cs:=fun i hi=>by
       have g:=hget i hi
       rw[List.getElem?_eq_getElem (by omega),Option.bind_eq_some_iff] at g
       obtain⟨vs',g1,g2⟩:=g
       exact⟨vs',g1,ih n e vs' _ _ g2 (hwe i (by omega)) he⟩
      have pick:∃ f:Nat→List Value × List V,∀ i,i<len→w.cells? base (a.add (i*P.cellsOf e)) (P.cellsOf e)=some (f i).1∧Seen w (f i).1 (s0 :: l) (f i).2:=by
       refine⟨fun i=>if hi:i<len then ((each i hi).choose,(each i hi).choose_spec.2.choose) else ([],[]),fun i hi=>?_⟩
       simp only[dif_pos hi]
       exact⟨(each i hi).choose_spec.1,(each i hi).choose_spec.2.choose_spec⟩
      obtain⟨f,hf⟩:=pick
      refine⟨[.row false len (s0 :: l).length fun i=>if i<len then (f i).2 else zeroL (s0 :: l)],seen1 (.row hlen (fun h=>by cases h) (fun i=>?_) fun i j s c h1 h2=>?_) (.row (fun i j=>((f i).1[j]?).getD Go.undef) hlc (fun h0=>⟨?_,id⟩) (fun i hi=>?_) (fun i j hi hj=>?_) (fun i j c hi hc'=>?_) fun i j c hi hc'=>?_)⟩
      ·by_cases hi:i<len
       ·rw[if_pos hi];exact (hf i hi).2.2.1.1
       ·rw[if_neg hi];exact zeroL_len _
      ·by_cases hi:i<len
       ·rw[if_pos hi] at h2;exact (hf i hi).2.2.1.2 j s c h1 h2
       ·rw[if_neg hi] at h2;exact zeroL_fit _ j s c h1 h2
      ·have:=World.cells?_block (hf 0 h0).1 (by rw[← hw];simp)
       rwa [block_add] at this
      ·rw[if_pos hi];exact (hf i hi).2.2.1.1
      ·obtain⟨_,q1,q2⟩:=World.cells?_some (hf i hi).1
       have hj':j<(f i).1.length:=by rw[q1,← hw];exact hj
       have:=q2 j (by rw[← hw];exact hj)
       rw[← hw,Addr.add_add] at this
       rw[this,List.getElem?_eq_getElem hj']
       rfl
      ·rw[if_pos hi] at hc'
       have hj:j<(f i).2.length:=(List.getElem?_eq_some_iff.1 hc').1
       have hj':j<(f i).1.length:=by rw[(hf i hi).2.1];exact hj
       refine (hf i hi).2.2.2 j _ c ?_ hc'
       rw[List.getElem?_eq_getElem hj'];rfl
      ·rw[if_pos hi] at hc'
       exact (hf i hi).2.one hc'
   ·cases hs
  ·rename_i fs ht
   split at hs
   ·rename_i l hl
    cases hc:l.length==P.cellsOf t with
    |false=>rw[hc] at hs;cases hs
    |true =>
     rw[hc,cond_true] at hs
     injection hs with hs
     subst hs
     have hw:l.length=P.cellsOf t:=by simpa using hc
     obtain⟨xs,n,_,rfl,hlen,hxs,hget⟩:=DataW.trod_struct ht h
     have key:∀ (r:List Field) (off:Nat) (l:List Sh),(∀ f ∈ r,∃ y,DataW.trod enc P w base sp held n f.type ((vs.drop f.offset).take (P.cellsOf f.type))=some y∧∀ n ∈ y.1.weights P f.type,n≤reachBytes)→shFs P (shOf P d) r off=some l→vs.length=off+l.length→∃ cs,Seen w (vs.drop off) l cs:=by
      intro r
      induction r with
      |nil =>
       intro off l _ hl hv
       simp only[shFs,Option.some.injEq] at hl
       subst hl
       rw[List.drop_of_length_le (by simpa using Nat.le_of_eq hv)]
       exact⟨[],rfl,⟨rfl,fun j s c h=>by simp at h⟩,fun j v c h=>by simp at h⟩
      |cons f r ihr =>
       intro off l hr hl hv
       unfold shFs at hl
       split at hl
       ·rename_i a b ha hb
        cases hc:f.offset==off && a.length==P.cellsOf f.type with
        |false=>rw[hc] at hl;cases hl
        |true =>
         rw[hc,cond_true] at hl
         injection hl with hl
         subst hl
         rw[Bool.and_eq_true,beq_iff_eq,beq_iff_eq] at hc
         obtain⟨y,hy,hy2⟩:=hr f (by simp)
         obtain⟨cs,hcs⟩:=ih n f.type _ _ a hy hy2 ha
         obtain⟨cs',hcs'⟩:=ihr (off+P.cellsOf f.type) b (fun g hg=>hr g (by simp[hg])) hb (by rw[hv,List.length_append,hc.2];omega)
         refine⟨cs ++ cs',?_⟩
         have e:vs.drop off=(vs.drop off).take (P.cellsOf f.type) ++ vs.drop (off+P.cellsOf f.type):=by
          rw[← List.drop_drop];exact (List.take_append_drop _ _).symm
         rw[e]
         rw[hc.1] at hcs
         exact hcs.append hcs'
       ·cases hl
     have:=key fs.toList 0 l (fun f hf=>by
      obtain⟨i,hi,rfl⟩:=List.getElem_of_mem hf
      have hi':i<fs.size:=by simpa using hi
      have g:=hget i fs[i] (Array.getElem?_eq_getElem hi')
      rw[List.getElem?_eq_getElem (by omega)] at g
      refine⟨xs[i]'(by omega),by simpa using g,fun n hn=>hwt n ?_⟩
      simp only[DataW.weights,ht]
      exact DataW.weights_mem_each (j:=i) (t:=fs[i].type) (d:=(xs[i]'(by omega)).1) (by simp[hi']) (by simp[show i<xs.length by omega]) n (by simpa using hn)) hl (by rw[hlen,hw,Nat.zero_add])
     rwa [List.drop_zero] at this
   ·cases hs
  ·rename_i n e ht
   split at hs
   ·rename_i l hl
    cases hc:l.length==P.cellsOf e && (shRep n l).length==P.cellsOf t with
    |false=>rw[hc] at hs;cases hs
    |true =>
     rw[hc,cond_true] at hs
     injection hs with hs
     subst hs
     rw[Bool.and_eq_true,beq_iff_eq,beq_iff_eq] at hc
     obtain⟨xs,m,_,rfl,hlen,hxs,hget⟩:=DataW.trod_array ht h
     have key:∀ (k i:Nat),i+k=n→vs.length=i*P.cellsOf e+(shRep k l).length→∃ cs,Seen w (vs.drop (i*P.cellsOf e)) (shRep k l) cs:=by
      intro k
      induction k with
      |zero =>
       intro i _ hv
       rw[List.drop_of_length_le (by simp only[shRep,List.length_nil] at hv;omega)]
       exact⟨[],rfl,⟨rfl,fun j s c h=>by simp[shRep] at h⟩,fun j v c h=>by simp at h⟩
      |succ k ihk =>
       intro i hi hv
       have g:=hget i (by omega)
       rw[List.getElem?_eq_getElem (by omega)] at g
       obtain⟨cs,hcs⟩:=ih m e _ _ l g (fun q hq=>hwt q (by
        simp only[DataW.weights,ht]
        exact weights_all (List.mem_map_of_mem (List.getElem_mem (by omega))) q hq)) hl
       obtain⟨cs',hcs'⟩:=ihk (i+1) (by omega) (by rw[hv,shRep,List.length_append,hc.1,Nat.succ_mul];omega)
       refine⟨cs ++ cs',?_⟩
       have e2:vs.drop (i*P.cellsOf e)=(vs.drop (i*P.cellsOf e)).take (P.cellsOf e) ++ vs.drop ((i+1)*P.cellsOf e):=by
        rw[Nat.succ_mul,← List.drop_drop];exact (List.take_append_drop _ _).symm
       rw[e2]
       exact hcs.append hcs'
     have:=key n 0 (by omega) (by rw[hlen,← hc.2];omega)
     rwa [Nat.zero_mul,List.drop_zero] at this
   ·cases hs
  ·cases hs
end
def argKs (P:Program):List TypeId→Option (List (Bool × List Sh))
 |[]=>some []
 |t :: ts=>match shOf P 12 t,argKs P ts with
  |some l,some r=>some ((aggT P t,l) :: r)
  |_,_=>none
def ArgsFit:List (Bool × List Sh)→List V→Prop
 |[],cs=>cs=[]
 |(true,sh) :: r,cs=>∃ l cs',cs = .agg l :: cs'∧FitL sh l∧ArgsFit r cs'
 |(false,sh) :: r,cs=>∃ s c cs',sh=[s]∧cs=c :: cs'∧Fit s c∧ArgsFit r cs'
section
variable {H:Type} {enc:TypeId × Value→H} {P:Program} {W:World} {sp:Nat→Bool}
theorem cells_one {r:Reach} {b:Nat} {t:TypeId} {v:Value} {sh:List Sh} (hv:Value.okWide P W r b t v) (ha:aggT P t=false) (hs:shOf P 12 t=some sh):v.cells.toList=[v]∧sh.length=1:=by
 unfold shOf at hs
 unfold aggT at ha
 unfold Value.okWide Cell.okWide Cell.ok at hv
 split at hs
 ·rename_i k ht
  rw[ht] at hv
  injection hs with hs;subst hs
  cases v<;>simp at hv<;>exact⟨rfl,rfl⟩
 ·rename_i ht
  rw[ht] at hv
  injection hs with hs;subst hs
  cases v<;>simp at hv<;>exact⟨rfl,rfl⟩
 ·rename_i ht
  rw[ht] at hv
  injection hs with hs;subst hs
  cases v<;>simp at hv<;>exact⟨rfl,rfl⟩
 ·rename_i e ht
  rw[ht] at hv
  have h1:sh.length=1:=by
   split at hs
   ·rename_i s0 l he
    cases hc:(s0 :: l).length==P.cellsOf e && Nat.ble 1 (P.bytesOf e) with
    |false=>rw[hc] at hs;cases hs
    |true=>rw[hc,cond_true] at hs;injection hs with hs;subst hs;rfl
   ·cases hs
  refine⟨?_,h1⟩
  cases v<;>first | rfl | (simp at hv)
 ·rename_i fs ht
  rw[ht] at ha
  cases ha
 ·rename_i n e ht
  rw[ht] at ha
  cases ha
 ·cases hs
theorem agg_of {r:Reach} {b:Nat} {t:TypeId} {v:Value} (hv:Value.okWide P W r b t v) (ha:aggT P t=true):∃ a,v = .agg a:=by
 unfold aggT at ha
 unfold Value.okWide at hv
 split at ha
 ·rename_i fs ht;rw[ht] at hv;exact⟨_,hv.choose_spec.1⟩
 ·rename_i n e ht;rw[ht] at hv;exact⟨_,hv.choose_spec.1⟩
 ·cases ha
theorem args_seen {r:Reach} {b:Nat}:∀ (ts:List TypeId) (vs:List Value) (ds:List (DataW H)) (ps:List MemPlace) (ks:List (Bool × List Sh)),DataW.TrodAll enc P W 0 sp true ts vs ds ps →
 (∀ (j:Nat) t v,ts[j]? = some t→vs[j]? = some v→Value.okWide P W r b t v)→(∀ n ∈ DataW.weightsEach P ts ds,n≤reachBytes)→argKs P ts=some ks →
 ∃ cs,vs.length=cs.length∧ArgsFit ks cs∧∀ (i:Nat) (v:Value) (c:V),vs[i]? = some v→cs[i]? = some c→Rel W noPv none_ v c:=by
 intro ts
 induction ts with
 |nil =>
  intro vs ds ps ks h _ _ hk
  obtain⟨rfl,rfl,rfl⟩:=trodAll_nil h
  simp only[argKs,Option.some.injEq] at hk
  subst hk
  exact⟨[],rfl,rfl,fun i v c h=>by simp at h⟩
 |cons t ts ih =>
  intro vs ds ps ks h hv hwt hk
  obtain⟨v,vs',dd,ds',p,q,rfl,rfl,rfl,h0,hr⟩:=trodAll_cons h
  unfold argKs at hk
  split at hk
  ·rename_i sh kr hsh hkr
   injection hk with hk
   subst hk
   obtain⟨cs',l',f',r'⟩:=ih vs' ds' q kr hr (fun j t' v' a1 a2=>hv (j+1) t' v' (by simpa using a1) (by simpa using a2)) (fun n hn=>hwt n (by simp only[DataW.weightsEach,List.mem_append];exact .inr hn)) hkr
   obtain⟨fuel,hfu⟩:=h0
   obtain⟨cs,hcs⟩:=seen_of 12 fuel t _ _ sh hfu (fun n hn=>hwt n (by simp only[DataW.weightsEach,List.mem_append];exact .inl hn)) hsh
   have hv0:=hv 0 t v rfl rfl
   cases ha:aggT P t with
   |true =>
    obtain⟨a,rfl⟩:=agg_of hv0 ha
    refine⟨.agg cs :: cs',by simp[l'],⟨cs,cs',rfl,hcs.2.1,f'⟩,fun i v c h1 h2=>?_⟩
    match i with
    |0 =>
     simp only[List.getElem?_cons_zero,Option.some.injEq] at h1 h2
     subst h1 h2
     have hl:=hcs.1
     simp only[Value.cells,Array.length_toList] at hl
     refine .agg hl fun j v c g1 g2=>hcs.2.2 j v c ?_ g2
     rw[Array.getElem?_toList];exact g1
    |i+1=>exact r' i v c (by simpa using h1) (by simpa using h2)
   |false =>
    obtain⟨e1,e2⟩:=cells_one hv0 ha hsh
    rw[e1] at hcs
    match sh,e2 with
    |[s],_ =>
     have hl:cs.length=1:=hcs.1.symm
     match cs,hl with
     |[c0],_ =>
      refine⟨c0 :: cs',by simp[l'],⟨s,c0,cs',rfl,rfl,hcs.2.1.2 0 s c0 rfl rfl,f'⟩,fun i v c h1 h2=>?_⟩
      match i with
      |0 =>
       simp only[List.getElem?_cons_zero,Option.some.injEq] at h1 h2
       subst h1 h2
       exact hcs.2.2 0 _ _ rfl rfl
      |i+1=>exact r' i v c (by simpa using h1) (by simpa using h2)
  ·cases hk
theorem trod_count:∀ {ts:List TypeId} {vs:List Value} {ds:List (DataW H)} {ps:List MemPlace},DataW.TrodAll enc P W 0 sp true ts vs ds ps→ds.length=ts.length:=by
 intro ts
 induction ts with
 |nil=>intro vs ds ps h;obtain⟨rfl,rfl,rfl⟩:=trodAll_nil h;rfl
 |cons t ts ih =>
  intro vs ds ps h
  obtain⟨v,vs',dd,ds',p,q,rfl,rfl,rfl,_,hr⟩:=trodAll_cons h
  simp[ih hr]
theorem args_stay (hl:laidOutB P=true) {W':World} (hb:Below W.heap.size W W') {sp':Nat→Bool}:∀ (ts:List TypeId) (vs:List Value) (ds:List (DataW H)) (ps:List MemPlace),(∀ t ∈ ts,P.readableRec t=true∧t<P.types.size) →
 DataW.TrodAll enc P W 0 (fun _=>true) true ts vs ds ps→(∀ x ∈ ps,x.block<W.heap.size)→(∀ x ∈ ps,sp' x.block=true)→DataW.TrodAll enc P W' 0 sp' true ts vs ds ps:=by
 intro ts
 induction ts with
 |nil =>
  intro vs ds ps _ h _ _
  obtain⟨rfl,rfl,rfl⟩:=trodAll_nil h
  exact trodAll_mk0
 |cons t ts ih =>
  intro vs ds ps ht h hlt hsp
  obtain⟨v,vs',dd,ds',p,q,rfl,rfl,rfl,h0,hr⟩:=trodAll_cons h
  exact trodAll_cons_mk (WideElems.Trod_stays hl (ht t (by simp)).1 (ht t (by simp)).2 h0 (fun x hx=>hb.same (hlt x (by simp[hx]))) fun x hx=>hsp x (by simp[hx]))
   (ih vs' ds' q (fun t' h'=>ht t' (by simp[h'])) hr (fun x hx=>hlt x (by simp[hx])) fun x hx=>hsp x (by simp[hx]))
theorem post_below {f:Func} {s:ChangeSpec} {apart fresh handsOn again:Bool} {W W':World} {args:Array Value} {v:Value} {ds gs:List (DataW H)} {before pa pv:List MemPlace}
 (hW:DataW.Whole enc P f.params.toList s.vars apart W args.toList ds gs before)
 (hres:∀ (b:Nat) (sp:Nat→Bool) (hd:Bool),DataW.TrodAll enc P W' b sp hd f.resultTypes.toList (v.resultList f.resultTypes.size) (s.fn H (ds ++ gs)).results [])
 (hargs:∀ sp:Nat→Bool,(∀ p ∈ before,sp p.block=true)→DataW.TrodAll enc P W' 0 sp true f.params.toList args.toList (s.fn H (ds ++ gs)).args pa)
 (hvars:∀ sp:Nat→Bool,(∀ p ∈ before,sp p.block=true)→DataW.TrodVars enc P W' sp s.vars (s.fn H (ds ++ gs)).vars pv)
 (hps:before=pa ++ pv) (hb:Below W.heap.size W W')
 (hok:∀ (j:Nat) (t:TypeId) (r:Value),f.resultTypes[j]? = some t→(v.resultList f.resultTypes.size)[j]? = some r→Value.okWide P W' .any 0 t r) :
 s.post enc P f apart fresh handsOn again W args v W':=by
 have hlt:∀ p ∈ before,p.block<W.heap.size:=fun p hp=>hW.lt p hp
 have hold:∀ p ∈ before,(fun b=>decide (b<W.heap.size)) p.block=true:=fun p hp=>by simpa using hlt p hp
 refine⟨ds,gs,before,[],pa,pv,hW,hres _ _ _,hargs _ hold,hvars _ hold,World.keptBut_mono (fun p hp=>⟨hp,?_⟩) (hb.frame (· ∈ before)),fun _=>?_⟩
 ·rw[hps,List.mem_append] at hp
  exact Or.inr hp
 ·obtain⟨_,_,_,_,_,hz,hn⟩:=hW
  refine⟨hok,_,_,([] ++ pa) ++ pv,⟨[] ++ pa,pv,trodAll_append (hargs _ (fun _ _=>rfl)) (hres _ _ _),hvars _ (fun _ _=>rfl),rfl,?_,?_⟩,?_⟩
  ·intro b off hp
   have hin:MemPlace.cell b off ∈ before:=by rw[hps];simpa using hp
   rw[hb.frozen (hlt _ hin)]
   exact hz b off hin
  ·intro ha
   have:=hn ha
   rw[hps] at this
   simpa using this
  ·intro p hp _
   rw[hps]
   simpa using hp
end
theorem weights_more {H:Type} {P:Program}:∀ (ts us:List TypeId) (ds:List (DataW H)) (n:Nat),n ∈ DataW.weightsEach P ts ds→n ∈ DataW.weightsEach P (ts ++ us) ds:=by
 intro ts
 induction ts with
 |nil=>intro us ds n h;simp[DataW.weightsEach] at h
 |cons t ts ih =>
  intro us ds n h
  cases ds with
  |nil=>simp[DataW.weightsEach] at h
  |cons d ds =>
   simp only[List.cons_append,DataW.weightsEach,List.mem_append] at h ⊢
   rcases h with h | h
   ·exact .inl h
   ·exact .inr (ih us ds n h)
def SaysTrue (s:ChangeSpec) (n:Nat):Prop:=s.vars=[]∧∀ (H:Type) (ds:List (DataW H)),ds.length=n→(s.fn H (ds ++ [])).results=[.lit (.bool true)]∧(s.fn H (ds ++ [])).args=ds∧(s.fn H (ds ++ [])).vars=[]
theorem law_contract {P:Program} {H:Type} {enc:TypeId × Value→H} {f:FuncId} {fn:Func} {s:ChangeSpec} {env:Env} {ks:List (Bool × List Sh)} {tb:TypeId} (henv:OkEnv P env) (hk:argKs P fn.params.toList=some ks)
 (hE:∀ cs,ArgsFit ks cs→env.pf f cs=some (.ret (.bool true))) (hs:SaysTrue s fn.params.size) (hr:fn.resultTypes = #[tb]) (htb:P.underlying tb=some .bool)
 (hl:laidOutB P=true) (hrd:∀ t ∈ fn.params.toList,P.readableRec t=true∧t<P.types.size) (W:World) (base:Nat) (args:Array Value) (ds gs:List (DataW H)) (before:List MemPlace)
 (hval:∀ (j:Nat) t v,fn.params[j]? = some t→args[j]? = some v→Value.okWide P W .any base t v) (hW:DataW.Whole enc P fn.params.toList s.vars false W args.toList ds gs before)
 (hwt:(DataW.weightsEach P (fn.params.toList ++ s.plain.varTypes P) (ds ++ gs)).all (· ≤ reachBytes)=true) :
 Calls P f args W fun e W'=>∃ v,e = .returned v∧s.post enc P fn false true false false W args v W':=by
 have hW':=hW
 have hlt:=hW.lt
 obtain⟨p,q,hA,hV,rfl,_,_⟩:=hW
 rw[hs.1] at hV
 obtain⟨rfl,rfl⟩:=trodVars_none hV
 rw[List.append_nil] at hW' hlt
 have hds:ds.length=fn.params.size:=by simpa using trod_count hA
 obtain⟨cs,hlen,hfit,hrel⟩:=args_seen fn.params.toList args.toList ds p ks hA (fun j t v h1 h2=>hval j t v (by simpa using h1) (by simpa using h2)) (fun n hn=>by
  have:=List.all_eq_true.1 hwt n (by rw[List.append_nil];exact weights_more _ _ _ n hn)
  simpa using this) hk
 obtain⟨s1,s2,s3⟩:=hs.2 H ds hds
 refine ((henv.pf f cs _ (hE cs hfit)).2 W noPv (fun _ h=>h.elim) args ⟨by simpa using hlen,fun i v c h1 h2=>hrel i v c (by rw[Array.getElem?_toList];exact h1) h2⟩).mono fun e W' ⟨ho,hb⟩=>?_
 obtain⟨u,rfl,hu⟩:=ho
 cases hu
 refine⟨_,rfl,post_below (pa:=p) (pv:=[]) hW' (fun b sp hd=>?_) (fun sp hsp=>?_) (fun sp _=>?_) (List.append_nil p).symm hb (ok_one hr rfl (okWide_bool_mk htb _))⟩
 ·rw[s1,hr]
  exact trodAll_mk1 (shut_bool htb true)
 ·rw[s2]
  exact args_stay hl hb fn.params.toList args.toList ds p hrd hA (fun x hx=>hlt x hx) hsp
 ·rw[hs.1,s3]
  exact rfl
end Go.Sim

namespace Go.Sim
end Go.Sim

namespace Go.Sim.Le
open Go.RowKit Go.Proofs Go.Maps
def keepTab:List (Nat × List (Nat × List Nat)):=[
 (3,[(4,[0,1,2,3,10,11,13]),(9,[0,1,2,3,10,11,14]),(14,[0,1,2,3,10,11,15]),(20,[0,1,2,3,10,11,16,17]),(32,[0,2,3,11,16,21,23]),(38,[0,2,3,11,16,21,23,24,25])]),
 (5,[(2,[0,3])]),
 (6,[(2,[0,3])]),
 (7,[(2,[0,1,2,7]),(7,[0,1,2,7,8])]),
 (9,[(2,[1,2,5]),(8,[1,2,7])]),
 (11,[(6,[2,3,4,7,8,27,28])]),
 (12,[(3,[0,3,4])]),
 (20,[(6,[0,1,2,30,31,32]),(11,[0,1,2,8,10,11,30,31,32])]),
 (21,[(2,[1,3])]),
 (27,[(2,[0,3])]),
 (28,[(2,[1,2,5])]),
 (30,[(2,[0,1,5])]),
 (32,[(5,[0,1,6,7,9,10,11,21,22,23])]),
 (35,[(3,[2,3,7,8,9])]),
 (36,[(4,[6,7,8,42,43])]),
 (40,[(2,[0,1,2,3,15,16]),(6,[0,1,2,3,10,11,12,15,16,19,20,21])]),
 (41,[(4,[0,2,5,7,11,12,13,29,30]),(10,[0,2,5,7,11,12,13,15,16,17,18,29,30,38,39,40]),(16,[0,2,5,7,11,12,13,15,17,18,29,30,66,67,68])]),
 (47,[(3,[3,5,6,7,13,14,15])]),
 (48,[(2,[1,4])]),
 (55,[(4,[1,3])]),
 (56,[(3,[0,1,4,5,6])]),
 (60,[(2,[1,7,8,9])]),
 (62,[(2,[1,7,8,9])]),
 (64,[(3,[3,6,7,8])]),
 (65,[(2,[20,21])]),
 (66,[(12,[1,2,4,5,11,59,60,61])]),
 (67,[(3,[0,3,9,10,11])]),
 (72,[(2,[1,6,7,8])]),
 (73,[(2,[1,6])]),
 (82,[(2,[0,2,11,12,13])]),
 (83,[(1,[0,9,10,11])]),
 (87,[(1,[0,9,10,11])]),
 (91,[(2,[1,4,9,10,11])]),
 (94,[(3,[1,3,5,7,10,11,12])]),
 (97,[(3,[3,6,7,8])]),
 (100,[(2,[0,1,7,8])]),
 (101,[(3,[3,4,5,10,11,12])]),
 (102,[(3,[2,3,6,7,8])]),
 (110,[(2,[0,1,7,8])]),
 (115,[(2,[1,7,8,9])]),
 (124,[(3,[3,9,10,11])]),
 (128,[(2,[0,1,7,8])]),
 (131,[(3,[1,6,7,10,11,12])]),
 (132,[(3,[3,6,7,8])]),
 (133,[(2,[0,1,7,8])]),
 (136,[(2,[0,1,7,8])]),
 (138,[(1,[0,1,10,11,12])]),
 (139,[(3,[1,2,3,4,9,12,13,14])]),
 (140,[(3,[1,2,4,5,13,14,15])]),
 (143,[(3,[4,5,8,9,10])]),
 (144,[(3,[3,6,7,8])]),
 (146,[(3,[0,1,5,8,9])]),
 (147,[(3,[0,1,2,7,15,16,17]),(10,[0,2,7,10,11,12,30,31,32])]),
 (148,[(2,[1,7,8,9])]),
 (161,[(10,[2,5,6,7,11,12,13,14])]),
 (167,[(2,[0,1,11,12,13])]),
 (174,[(2,[0,1,13,14,15]),(5,[0,1,13,14,15,20,21,22])]),
 (177,[(2,[0,1,7,8])]),
 (178,[(5,[2,3,4,7,22,23]),(13,[2,7,9,10,11,34,35]),(21,[9,13,58,59])]),
 (179,[(2,[1,7,8,9])]),
 (182,[(2,[0,1,2,6,7,8]),(7,[0,1,2,6]),(9,[0,1,2,6,7,8])]),
 (183,[(2,[0,1,7,8])]),
 (184,[(2,[0,1,7,8])]),
 (185,[(4,[0,1,3,4])]),
 (194,[(1,[0,1,2,3,8]),(4,[0,1,2,3,8,9])]),
 (195,[(3,[0,1,4,10,11]),(9,[0,10,13]),(15,[0,2,4,14,15]),(21,[0,14,17]),(33,[0,1,2,3,4,18,19,20,21,22])]),
 (196,[(2,[0,1,3,5])]),
 (198,[(3,[2,3,6,7,8])]),
 (200,[(2,[0,2,4,10,11])]),
 (201,[(1,[0,1,2,3,10])])]
def look {α:Type} (n:Nat):List (Nat × α)→(d:α)→α
 |[],d=>d
 |(m,a) :: r,d=>bif n==m then a else look n r d
def eqT (t n:Nat):Bool:=(t==40 && n==2) || (t==97 && n==10)
def hb (f:Nat):Bool:=f==147 || f==80 || f==161 || f==107 || f==108 || f==109 || f==187 || f==151 || f==167 || f==171 || f==182 || f==194 || f==195 || f==200 || f==201
def keyT (t:Nat):Bool:=t==246 || t==93
def fnT (t:Nat):Option (Nat × List Nat):=bif t==212 then some (174,[40,22]) else bif t==266 then some (196,[83]) else none
def fnL (t:Nat):Option (Nat × List Nat):=bif t==212 then some (185,[79]) else none
def ro (f _:Nat):Bool:=f==147
def hm (f:Nat):Bool:=f==187 || f==82 || f==83 || f==84 || f==85 || f==86 || f==87 || f==88
def spRun (g:Nat) (old:List Slot):Option (Vp × Sp):=match old with
 |.box _ cs true :: rest =>
  let s (i:Nat):Cp:=.same (cs.getD i .undef)
  let b (c11 c12 c14 c15 c16 c17 c18:Cp):List Cp:=[s 0,s 1,s 2,s 3,s 4,s 5,s 6,s 7,s 8,s 9,s 10,c11,c12,s 13,c14,c15,c16,c17,c18]
  let o:Sp→Sp:=Sp.arr 112 5
  let r:Sp:=Sp.arr 3 1 .nil
  let n:=rest.length
  let kk (t:Sp):Sp:=bif n==0 then t else .keep (.keep t)
  bif (!(g==187) && !Nat.beq cs.length 19) || (g==82 && n==1) then some (.unit,.cells 175 [] fun _=>.nil)
  else bif g==82 then some (.unit,.cells 175 (b (s 11) (s 12) (bif n==0 then .row else .nos fun _=>3) (s 15) (s 16) (s 17) (s 18)) fun c=>kk (bif c==0 then .nil else o .nil))
  else bif g==83 then some (.unit,.cells 175 (b (s 11) (s 12) .row (s 15) (s 16) (s 17) .row) fun _=>kk (bif n==3 then .dead .nil else .nil))
  else bif g==84 then some (.unit,.cells 175 (b (s 11) (s 12) (s 14) (.osl (n+1)) (s 16) (s 17) (s 18)) fun _=>kk r)
  else bif g==85 then some (.unit,.cells 175 (b (s 11) (s 12) (s 14) .row .row (s 17) (s 18)) fun _=>bif n==1 then .dead .nil else .keep (.keep (.dead .nil)))
  else bif g==86 then some (.unit,.cells 175 (b .int (s 12) (s 14) (s 15) (s 16) .row (s 18)) fun _=>kk .nil)
  else bif g==87 then some (.unit,.cells 175 (b (s 11) .int (s 14) (s 15) (s 16) (s 17) (s 18)) fun _=>kk .nil)
  else bif g==88 then some (.unit,.cells 175 (b (s 11) (s 12) (s 14) (s 15) (s 16) (s 17) (s 18)) fun _=>kk .nil)
  else none
 |_=>none
def opt:Opt:={ eqT:=eqT,hb:=hb,keyT:=keyT,fnT:=fnT,ro:=ro,hm:=hm,sp:=spRun }
def optL:Opt:={ eqT:=eqT,hb:=hb,keyT:=keyT,fnT:=fnL,ro:=ro,hm:=hm }
def cfg (F f:Nat):Cfg:={ x:=bif f==103 then optL else opt,keep:=fun r=>look r (look f keepTab []) [],fuel:=fun r=>bif (f==65 && r==2) || (f==36 && r==4) then F+7 else F,marks:=f==173 || f==66 || f==103 || f==158 || f==164 || f==165 || f==166 || f==84 || f==88,bar:=fun r=>bif f==196 && r==4 then 22 else bif f==138 && r==3 then 11 else 0,fz:=bif f==85 then [15] else [],fe:=bif f==83 then [14,18] else [] }
noncomputable def E (F d:Nat):Env:=envN Tryz.prog (cfg F) d
theorem E_pf (F d f:Nat) (a:List V):(E F (d+1)).pf f a=evFun Tryz.prog (cfg F) (E F d) f a:=by kernel_rfl
theorem E_hv (F d f:Nat) (a:List V) (hp:List Slot):(E F (d+1)).hv f a hp=evFunH Tryz.prog (cfg F) (E F d) f a hp:=by kernel_rfl
theorem names:OkNames Tryz.prog:=okNames_of (by kernel_rfl)
end Go.Sim.Le

namespace Go.Sim.Le
open Go.RowKit Go.Proofs Go.Maps
section
variable (w:World)
theorem part3 (cs:Array Value) (off:Nat) (v:Value) (h:cs[off]? = some v):(part 3 cs off).run Tryz.prog w = .ok v w:=by
 unfold part;simp[Tryz.isAgg3,h]
theorem int3 (d:Nat) (k:IntKind) (a b:Int):(Op.equalIn (d+1) 3 (.int k a) (.int k b)).run Tryz.prog w = .ok (a==b) w:=run_equalIn_int w d 3 k .i64 a b Tryz.underlying3
theorem fieldsOf_ {t:TypeId} {fs:Array Field} (h:Tryz.prog.underlying t=some (.struct fs)):Tryz.prog.fieldsOf t=fs:=by simp[Program.fieldsOf,h]
theorem eqS {d:Nat} {t:TypeId} {fs:Array Field} (xs ys:Array Value) (h:Tryz.prog.underlying t=some (.struct fs)) (hp:Tryz.prog.stoodInHeld t=false):(Op.equalIn (d+1) t (.agg xs) (.agg ys)).run Tryz.prog w=(Op.eqFields d xs ys fs.toList).run Tryz.prog w:=by
 rw[run_equalIn_struct w d t xs ys (by rw[fieldsOf_ h];exact h) hp,fieldsOf_ h]
theorem eqF {d : Nat} {xs ys : Array Value} {f : Field} {fs : List Field} {a b : Value} {r : Bool} (hn : f.name ≠ "_") (ha : (part f.type xs f.offset).run Tryz.prog w = .ok a w) (hb : (part f.type ys f.offset).run Tryz.prog w = .ok b w)
 (he:(Op.equalIn d f.type a b).run Tryz.prog w = .ok r w) {q:Bool} (hr:(Op.eqFields d xs ys fs).run Tryz.prog w = .ok q w):(Op.eqFields d xs ys (f :: fs)).run Tryz.prog w = .ok (r && q) w:=by
 simp only[Op.eqFields,if_pos hn,Sem.run_bind,ha,hb,he,Result.andThen_ok]
 cases r
 ·simp
 ·simp[hr]
theorem eqN {d:Nat} {xs ys:Array Value}:(Op.eqFields d xs ys []).run Tryz.prog w = .ok true w:=rfl
theorem part93 (cs:Array Value) (off:Nat) (v:Value) (h:cs[off]? = some v):(part 93 cs off).run Tryz.prog w = .ok v w:=by
 unfold part;simp[Tryz.isAgg93,h]
theorem int93 (d:Nat) (k:IntKind) (a b:Int):(Op.equalIn (d+1) 93 (.int k a) (.int k b)).run Tryz.prog w = .ok (a==b) w:=run_equalIn_int w d 93 k .i64 a b Tryz.underlying93
theorem partA40 (cs:Array Value) (off:Nat) (l:Array Value) (h:cs.extract off (off+2)=l):(part 40 cs off).run Tryz.prog w = .ok (.agg l) w:=by
 unfold part;simp[Tryz.isAgg40,Tryz.sizeOf40,h]
theorem partA95 (cs:Array Value) (off:Nat) (l:Array Value) (h:cs.extract off (off+4)=l):(part 95 cs off).run Tryz.prog w = .ok (.agg l) w:=by
 unfold part;simp[Tryz.isAgg95,Tryz.sizeOf95,h]
set_option maxRecDepth 100000 in
theorem eq40 (d:Nat) (k0 k1:IntKind) (a b c e:Int):(Op.equalIn (d+2) 40 (.agg #[.int k0 a,.int k1 b]) (.agg #[.int k0 c,.int k1 e])).run Tryz.prog w = .ok (a==c && (b==e && true)) w :=
 (eqS w _ _ Tryz.underlying40 Tryz.stoodInHeld40).trans (eqF w (by simp) (part3 w _ _ _ rfl) (part3 w _ _ _ rfl) (int3 ..) (eqF w (by simp) (part3 w _ _ _ rfl) (part3 w _ _ _ rfl) (int3 ..) (eqN w)))
set_option maxRecDepth 100000 in
theorem eq4 (d : Nat) (n0 n1 n2 n3 : String) (t0 t1 t2 t3 : String) (p0 p1 p2 p3 : String) (o0 o1 o2 o3 : Nat) (m0 m1 m2 m3 : Bool) (h0 : n0 ≠ "_") (h1 : n1 ≠ "_") (h2 : n2 ≠ "_") (h3 : n3 ≠ "_") (k0 k1 k2 k3 : IntKind) (a b c e a' b' c' e' : Int) :
 (Op.eqFields (d+1) #[.int k0 a,.int k1 b,.int k2 c,.int k3 e] #[.int k0 a',.int k1 b',.int k2 c',.int k3 e'] [⟨n0,3,0,m0,t0,p0,o0⟩,⟨n1,3,1,m1,t1,p1,o1⟩,⟨n2,3,2,m2,t2,p2,o2⟩,⟨n3,3,3,m3,t3,p3,o3⟩]).run Tryz.prog w = .ok (a==a' && (b==b' && (c==c' && (e==e' && true)))) w:=by
 have x0:(part 3 (#[.int k0 a,.int k1 b,.int k2 c,.int k3 e]:Array Value) 0).run Tryz.prog w = .ok (.int k0 a) w:=part3 w (#[.int k0 a,.int k1 b,.int k2 c,.int k3 e]:Array Value) 0 (.int k0 a) (by simp)
 have y0:(part 3 (#[.int k0 a',.int k1 b',.int k2 c',.int k3 e']:Array Value) 0).run Tryz.prog w = .ok (.int k0 a') w:=part3 w (#[.int k0 a',.int k1 b',.int k2 c',.int k3 e']:Array Value) 0 (.int k0 a') (by simp)
 have x1:(part 3 (#[.int k0 a,.int k1 b,.int k2 c,.int k3 e]:Array Value) 1).run Tryz.prog w = .ok (.int k1 b) w:=part3 w (#[.int k0 a,.int k1 b,.int k2 c,.int k3 e]:Array Value) 1 (.int k1 b) (by simp)
 have y1:(part 3 (#[.int k0 a',.int k1 b',.int k2 c',.int k3 e']:Array Value) 1).run Tryz.prog w = .ok (.int k1 b') w:=part3 w (#[.int k0 a',.int k1 b',.int k2 c',.int k3 e']:Array Value) 1 (.int k1 b') (by simp)
 have x2:(part 3 (#[.int k0 a,.int k1 b,.int k2 c,.int k3 e]:Array Value) 2).run Tryz.prog w = .ok (.int k2 c) w:=part3 w (#[.int k0 a,.int k1 b,.int k2 c,.int k3 e]:Array Value) 2 (.int k2 c) (by simp)
 have y2:(part 3 (#[.int k0 a',.int k1 b',.int k2 c',.int k3 e']:Array Value) 2).run Tryz.prog w = .ok (.int k2 c') w:=part3 w (#[.int k0 a',.int k1 b',.int k2 c',.int k3 e']:Array Value) 2 (.int k2 c') (by simp)
 have x3:(part 3 (#[.int k0 a,.int k1 b,.int k2 c,.int k3 e]:Array Value) 3).run Tryz.prog w = .ok (.int k3 e) w:=part3 w (#[.int k0 a,.int k1 b,.int k2 c,.int k3 e]:Array Value) 3 (.int k3 e) (by simp)
 have y3:(part 3 (#[.int k0 a',.int k1 b',.int k2 c',.int k3 e']:Array Value) 3).run Tryz.prog w = .ok (.int k3 e') w:=part3 w (#[.int k0 a',.int k1 b',.int k2 c',.int k3 e']:Array Value) 3 (.int k3 e') (by simp)
 refine eqF w (f:=⟨n0,3,0,m0,t0,p0,o0⟩) h0 x0 y0 (int3 w d k0 a a') ?_
 refine eqF w (f:=⟨n1,3,1,m1,t1,p1,o1⟩) h1 x1 y1 (int3 w d k1 b b') ?_
 refine eqF w (f:=⟨n2,3,2,m2,t2,p2,o2⟩) h2 x2 y2 (int3 w d k2 c c') ?_
 refine eqF w (f:=⟨n3,3,3,m3,t3,p3,o3⟩) h3 x3 y3 (int3 w d k3 e e') ?_
 exact eqN w
set_option maxRecDepth 100000 in
theorem eq95 (d:Nat) (k0 k1 k2 k3:IntKind) (a b c e a' b' c' e':Int):(Op.equalIn (d+2) 95 (.agg #[.int k0 a,.int k1 b,.int k2 c,.int k3 e]) (.agg #[.int k0 a',.int k1 b',.int k2 c',.int k3 e'])).run Tryz.prog w = .ok (a==a' && (b==b' && (c==c' && (e==e' && true)))) w:=by
 rw[eqS w _ _ Tryz.underlying95 Tryz.stoodInHeld95]
 exact eq4 w d "Gas" "Hydrogen" "Heat" "Water" "" "" "" "" "" "" "" "" 0 8 16 24 false false false false (by decide) (by decide) (by decide) (by decide) k0 k1 k2 k3 a b c e a' b' c' e'
set_option maxRecDepth 100000 in
theorem eq5 (d : Nat) (n0 n1 n2 n3 n4 : String) (t0 t1 t2 t3 t4 : String) (p0 p1 p2 p3 p4 : String) (o0 o1 o2 o3 o4 : Nat) (m0 m1 m2 m3 m4 : Bool) (h0 : n0 ≠ "_") (h1 : n1 ≠ "_") (h2 : n2 ≠ "_") (h3 : n3 ≠ "_") (h4 : n4 ≠ "_") (k0 k1 k2 k3 k4 k5 k6 k7 k8 k9 : IntKind) (a0 a1 a2 a3 a4 a5 a6 a7 a8 a9 b0 b1 b2 b3 b4 b5 b6 b7 b8 b9 : Int) :
 (Op.eqFields (d+2) #[.int k0 a0,.int k1 a1,.int k2 a2,.int k3 a3,.int k4 a4,.int k5 a5,.int k6 a6,.int k7 a7,.int k8 a8,.int k9 a9] #[.int k0 b0,.int k1 b1,.int k2 b2,.int k3 b3,.int k4 b4,.int k5 b5,.int k6 b6,.int k7 b7,.int k8 b8,.int k9 b9] [⟨n0,93,0,m0,t0,p0,o0⟩,⟨n1,95,1,m1,t1,p1,o1⟩,⟨n2,3,5,m2,t2,p2,o2⟩,⟨n3,40,6,m3,t3,p3,o3⟩,⟨n4,40,8,m4,t4,p4,o4⟩]).run Tryz.prog w = .ok (a0==b0 && ((a1==b1 && (a2==b2 && (a3==b3 && (a4==b4 && true)))) && (a5==b5 && ((a6==b6 && (a7==b7 && true)) && ((a8==b8 && (a9==b9 && true)) && true))))) w:=by
 have x0:(part 93 (#[.int k0 a0,.int k1 a1,.int k2 a2,.int k3 a3,.int k4 a4,.int k5 a5,.int k6 a6,.int k7 a7,.int k8 a8,.int k9 a9]:Array Value) 0).run Tryz.prog w = .ok (.int k0 a0) w:=part93 w (#[.int k0 a0,.int k1 a1,.int k2 a2,.int k3 a3,.int k4 a4,.int k5 a5,.int k6 a6,.int k7 a7,.int k8 a8,.int k9 a9]:Array Value) 0 (.int k0 a0) (by simp)
 have y0:(part 93 (#[.int k0 b0,.int k1 b1,.int k2 b2,.int k3 b3,.int k4 b4,.int k5 b5,.int k6 b6,.int k7 b7,.int k8 b8,.int k9 b9]:Array Value) 0).run Tryz.prog w = .ok (.int k0 b0) w:=part93 w (#[.int k0 b0,.int k1 b1,.int k2 b2,.int k3 b3,.int k4 b4,.int k5 b5,.int k6 b6,.int k7 b7,.int k8 b8,.int k9 b9]:Array Value) 0 (.int k0 b0) (by simp)
 have x1:(part 95 (#[.int k0 a0,.int k1 a1,.int k2 a2,.int k3 a3,.int k4 a4,.int k5 a5,.int k6 a6,.int k7 a7,.int k8 a8,.int k9 a9]:Array Value) 1).run Tryz.prog w = .ok (.agg #[.int k1 a1,.int k2 a2,.int k3 a3,.int k4 a4]) w:=partA95 w (#[.int k0 a0,.int k1 a1,.int k2 a2,.int k3 a3,.int k4 a4,.int k5 a5,.int k6 a6,.int k7 a7,.int k8 a8,.int k9 a9]:Array Value) 1 #[.int k1 a1,.int k2 a2,.int k3 a3,.int k4 a4] (by simp)
 have y1:(part 95 (#[.int k0 b0,.int k1 b1,.int k2 b2,.int k3 b3,.int k4 b4,.int k5 b5,.int k6 b6,.int k7 b7,.int k8 b8,.int k9 b9]:Array Value) 1).run Tryz.prog w = .ok (.agg #[.int k1 b1,.int k2 b2,.int k3 b3,.int k4 b4]) w:=partA95 w (#[.int k0 b0,.int k1 b1,.int k2 b2,.int k3 b3,.int k4 b4,.int k5 b5,.int k6 b6,.int k7 b7,.int k8 b8,.int k9 b9]:Array Value) 1 #[.int k1 b1,.int k2 b2,.int k3 b3,.int k4 b4] (by simp)
 have x2:(part 3 (#[.int k0 a0,.int k1 a1,.int k2 a2,.int k3 a3,.int k4 a4,.int k5 a5,.int k6 a6,.int k7 a7,.int k8 a8,.int k9 a9]:Array Value) 5).run Tryz.prog w = .ok (.int k5 a5) w:=part3 w (#[.int k0 a0,.int k1 a1,.int k2 a2,.int k3 a3,.int k4 a4,.int k5 a5,.int k6 a6,.int k7 a7,.int k8 a8,.int k9 a9]:Array Value) 5 (.int k5 a5) (by simp)
 have y2:(part 3 (#[.int k0 b0,.int k1 b1,.int k2 b2,.int k3 b3,.int k4 b4,.int k5 b5,.int k6 b6,.int k7 b7,.int k8 b8,.int k9 b9]:Array Value) 5).run Tryz.prog w = .ok (.int k5 b5) w:=part3 w (#[.int k0 b0,.int k1 b1,.int k2 b2,.int k3 b3,.int k4 b4,.int k5 b5,.int k6 b6,.int k7 b7,.int k8 b8,.int k9 b9]:Array Value) 5 (.int k5 b5) (by simp)
 have x3:(part 40 (#[.int k0 a0,.int k1 a1,.int k2 a2,.int k3 a3,.int k4 a4,.int k5 a5,.int k6 a6,.int k7 a7,.int k8 a8,.int k9 a9]:Array Value) 6).run Tryz.prog w = .ok (.agg #[.int k6 a6,.int k7 a7]) w:=partA40 w (#[.int k0 a0,.int k1 a1,.int k2 a2,.int k3 a3,.int k4 a4,.int k5 a5,.int k6 a6,.int k7 a7,.int k8 a8,.int k9 a9]:Array Value) 6 #[.int k6 a6,.int k7 a7] (by simp)
 have y3:(part 40 (#[.int k0 b0,.int k1 b1,.int k2 b2,.int k3 b3,.int k4 b4,.int k5 b5,.int k6 b6,.int k7 b7,.int k8 b8,.int k9 b9]:Array Value) 6).run Tryz.prog w = .ok (.agg #[.int k6 b6,.int k7 b7]) w:=partA40 w (#[.int k0 b0,.int k1 b1,.int k2 b2,.int k3 b3,.int k4 b4,.int k5 b5,.int k6 b6,.int k7 b7,.int k8 b8,.int k9 b9]:Array Value) 6 #[.int k6 b6,.int k7 b7] (by simp)
 have x4:(part 40 (#[.int k0 a0,.int k1 a1,.int k2 a2,.int k3 a3,.int k4 a4,.int k5 a5,.int k6 a6,.int k7 a7,.int k8 a8,.int k9 a9]:Array Value) 8).run Tryz.prog w = .ok (.agg #[.int k8 a8,.int k9 a9]) w:=partA40 w (#[.int k0 a0,.int k1 a1,.int k2 a2,.int k3 a3,.int k4 a4,.int k5 a5,.int k6 a6,.int k7 a7,.int k8 a8,.int k9 a9]:Array Value) 8 #[.int k8 a8,.int k9 a9] (by simp)
 have y4:(part 40 (#[.int k0 b0,.int k1 b1,.int k2 b2,.int k3 b3,.int k4 b4,.int k5 b5,.int k6 b6,.int k7 b7,.int k8 b8,.int k9 b9]:Array Value) 8).run Tryz.prog w = .ok (.agg #[.int k8 b8,.int k9 b9]) w:=partA40 w (#[.int k0 b0,.int k1 b1,.int k2 b2,.int k3 b3,.int k4 b4,.int k5 b5,.int k6 b6,.int k7 b7,.int k8 b8,.int k9 b9]:Array Value) 8 #[.int k8 b8,.int k9 b9] (by simp)
 refine eqF w (f:=⟨n0,93,0,m0,t0,p0,o0⟩) h0 x0 y0 (int93 w (d+1) k0 a0 b0) ?_
 refine eqF w (f:=⟨n1,95,1,m1,t1,p1,o1⟩) h1 x1 y1 (eq95 w d k1 k2 k3 k4 a1 a2 a3 a4 b1 b2 b3 b4) ?_
 refine eqF w (f:=⟨n2,3,5,m2,t2,p2,o2⟩) h2 x2 y2 (int3 w (d+1) k5 a5 b5) ?_
 refine eqF w (f:=⟨n3,40,6,m3,t3,p3,o3⟩) h3 x3 y3 (eq40 w d k6 k7 a6 a7 b6 b7) ?_
 refine eqF w (f:=⟨n4,40,8,m4,t4,p4,o4⟩) h4 x4 y4 (eq40 w d k8 k9 a8 a9 b8 b9) ?_
 exact eqN w
set_option maxRecDepth 100000 in
theorem eq97 (d:Nat) (k0 k1 k2 k3 k4 k5 k6 k7 k8 k9:IntKind) (a0 a1 a2 a3 a4 a5 a6 a7 a8 a9 b0 b1 b2 b3 b4 b5 b6 b7 b8 b9:Int):(Op.equalIn (d+3) 97 (.agg #[.int k0 a0,.int k1 a1,.int k2 a2,.int k3 a3,.int k4 a4,.int k5 a5,.int k6 a6,.int k7 a7,.int k8 a8,.int k9 a9]) (.agg #[.int k0 b0,.int k1 b1,.int k2 b2,.int k3 b3,.int k4 b4,.int k5 b5,.int k6 b6,.int k7 b7,.int k8 b8,.int k9 b9])).run Tryz.prog w = .ok (a0==b0 && ((a1==b1 && (a2==b2 && (a3==b3 && (a4==b4 && true)))) && (a5==b5 && ((a6==b6 && (a7==b7 && true)) && ((a8==b8 && (a9==b9 && true)) && true))))) w:=by
 rw[eqS w _ _ Tryz.underlying97 Tryz.stoodInHeld97]
 exact eq5 w d "Kind" "Lot" "Moles" "Share" "Wet" "" "" "" "" "" "" "" "" "" "" 0 8 40 48 64 false false false false false (by decide) (by decide) (by decide) (by decide) (by decide) k0 k1 k2 k3 k4 k5 k6 k7 k8 k9 a0 a1 a2 a3 a4 a5 a6 a7 a8 a9 b0 b1 b2 b3 b4 b5 b6 b7 b8 b9
set_option maxRecDepth 100000 in
theorem okEq:OkEq Tryz.prog eqT:=by
 intro t op xs ys x y w bs cs r het hcs pv ρ hx hy
 obtain⟨l,rfl,rfl,rfl⟩:=eqCs_inv hcs
 have hx':=relL_ints (l:=l.map fun p=>(p.1,p.2.1)) (by simpa[List.map_map,Function.comp_def] using hx)
 have hy':=relL_ints (l:=l.map fun p=>(p.1,p.2.2)) (by simpa[List.map_map,Function.comp_def] using hy)
 subst hx' hy'
 clear hx hy hcs
 have fin:Tryz.prog.eqGuardType Tryz.prog.depth t=false→(Op.equalIn 10000 t (.agg ((l.map fun p=>(p.1,p.2.1)).map fun p=>Value.int p.1 p.2).toArray) (.agg ((l.map fun p=>(p.1,p.2.2)).map fun p=>Value.int p.1 p.2).toArray)).run Tryz.prog w = .ok (l.all fun p=>p.2.1==p.2.2) w →
  (op = .eql→(do eqGuard op t x y (.agg ((l.map fun p=>(p.1,p.2.1)).map fun p=>Value.int p.1 p.2).toArray) (.agg ((l.map fun p=>(p.1,p.2.2)).map fun p=>Value.int p.1 p.2).toArray);binOp op t (.agg ((l.map fun p=>(p.1,p.2.1)).map fun p=>Value.int p.1 p.2).toArray) (.agg ((l.map fun p=>(p.1,p.2.2)).map fun p=>Value.int p.1 p.2).toArray):Sem Value).run Tryz.prog w = .ok (.bool (l.all fun p=>p.2.1==p.2.2)) w) ∧
  (op = .neq→(do eqGuard op t x y (.agg ((l.map fun p=>(p.1,p.2.1)).map fun p=>Value.int p.1 p.2).toArray) (.agg ((l.map fun p=>(p.1,p.2.2)).map fun p=>Value.int p.1 p.2).toArray);binOp op t (.agg ((l.map fun p=>(p.1,p.2.1)).map fun p=>Value.int p.1 p.2).toArray) (.agg ((l.map fun p=>(p.1,p.2.2)).map fun p=>Value.int p.1 p.2).toArray):Sem Value).run Tryz.prog w = .ok (.bool (!(l.all fun p=>p.2.1==p.2.2))) w):=by
  intro hg he
  constructor
  ·rintro rfl
   rw[Sem.run_bind,run_eqGuard_agg w _ _ _ _ _ _ hg,Result.andThen_ok,run_eql_struct,he];rfl
  ·rintro rfl
   rw[Sem.run_bind,run_eqGuard_agg w _ _ _ _ _ _ hg,Result.andThen_ok,run_neq_struct,he];rfl
 simp only[eqT,Bool.or_eq_true,Bool.and_eq_true,beq_iff_eq,List.length_map] at het
 have l2:l.length=2→∃ p0 p1,l=[p0,p1]:=fun h=>by match l,h with | [p0,p1],_=>exact⟨p0,p1,rfl⟩
 have l10:l.length=10→∃ p0 p1 p2 p3 p4 p5 p6 p7 p8 p9,l=[p0,p1,p2,p3,p4,p5,p6,p7,p8,p9]:=fun h=>by match l,h with | [p0,p1,p2,p3,p4,p5,p6,p7,p8,p9],_=>exact⟨p0,p1,p2,p3,p4,p5,p6,p7,p8,p9,rfl⟩
 rcases het with⟨rfl,hl⟩ | ⟨rfl,hl⟩
 ·obtain⟨p0,p1,rfl⟩:=l2 hl
  exact fin Tryz.eqGuardType40 (eq40 w 9998 p0.1 p1.1 p0.2.1 p1.2.1 p0.2.2 p1.2.2)
 ·obtain⟨p0,p1,p2,p3,p4,p5,p6,p7,p8,p9,rfl⟩:=l10 hl
  refine fin Tryz.eqGuardType97 ((eq97 w 9997 p0.1 p1.1 p2.1 p3.1 p4.1 p5.1 p6.1 p7.1 p8.1 p9.1 p0.2.1 p1.2.1 p2.2.1 p3.2.1 p4.2.1 p5.2.1 p6.2.1 p7.2.1 p8.2.1 p9.2.1 p0.2.2 p1.2.2 p2.2.2 p3.2.2 p4.2.2 p5.2.2 p6.2.2 p7.2.2 p8.2.2 p9.2.2).trans ?_)
  simp only[List.all_cons,List.all_nil,Bool.and_true,Bool.and_assoc]
end
theorem laid:laidOutB Tryz.prog=true:=by kernel_rfl
theorem wf_mk {x:Int} (h1:IntKind.i64.min≤x) (h2:x≤IntKind.i64.max):(Lit.int .i64 x).wf=true:=by
 unfold Lit.wf
 simp only[Bool.and_eq_true,decide_eq_true_eq]
 exact⟨h1,h2⟩
theorem ks_ints:∀ (n:Nat) (cs:List V),kssB (List.replicate n (.int .i64)) cs=true→∃ l:List Int,cs=l.map (fun x=>V.int .i64 x)∧l.length=n∧∀ x ∈ l,(Lit.int .i64 x).wf=true
 |0,[],_=>⟨[],rfl,rfl,fun _ h=>by simp at h⟩
 |0,_ :: _,h=>by simp[kssB] at h
 |n+1,[],h=>by simp[List.replicate,kssB] at h
 |n+1,c :: cs,h=>by
  simp only[List.replicate,kssB,Bool.and_eq_true] at h
  obtain⟨h1,h2⟩:=h
  obtain⟨l,rfl,hl,hw⟩:=ks_ints n cs h2
  cases c with
  |int q x =>
   simp only[ksB,Bool.and_eq_true,decide_eq_true_eq] at h1
   obtain⟨rfl,h3,h4⟩:=h1
   refine⟨x :: l,rfl,by simp[hl],fun y hy=>?_⟩
   rcases List.mem_cons.1 hy with rfl | hy
   ·exact wf_mk h3 h4
   ·exact hw y hy
  |_=>simp[ksB] at h1
theorem ag_ints {t:TypeId} {n:Nat} (ha:aggT Tryz.prog t=true) (hk:kssOf Tryz.prog 12 t=List.replicate n (.int .i64)) {w:World} {pv:Nat→Prop} {ρ:Nat→Option Info} {v:Value} {c:V} (hr:Rel w pv ρ v c) (h:keyB (aggT Tryz.prog t) (kssOf Tryz.prog 12 t) c=true) :
 ∃ l:List Int,v = .agg (l.map fun x=>Value.int .i64 x).toArray∧l.length=n∧∀ x ∈ l,(Lit.int .i64 x).wf=true:=by
 rw[ha,hk] at h
 cases c with
 |agg cs =>
  simp only[keyB,Bool.true_and] at h
  obtain⟨l,rfl,hl,hw⟩:=ks_ints n cs h
  refine⟨l,?_,hl,hw⟩
  cases hr with
  |agg h1 h2 =>
   rename_i vs
   have:=relL_ints (l:=l.map fun x=>(IntKind.i64,x)) (w:=w) (pv:=pv) (ρ:=ρ) (vs:=vs) ⟨by simpa using h1,fun i v c g1 g2=>h2 i v c g1 (by simpa using g2)⟩
   rw[this];simp[Function.comp_def]
 |_=>simp[keyB] at h
theorem lits1 {d:Nat} {x:Int} (h:(Lit.int .i64 x).wf=true):Tryz.prog.keyLits (d+1) 3 [.int .i64 x]=some [.int .i64 x]:=by
 unfold Program.keyLits
 rw[Tryz.underlying3]
 simp[h]
theorem cells3:Tryz.prog.cellsOf 3=1:=by kernel_rfl
theorem cells246:Tryz.prog.cellsOf 246=2:=by kernel_rfl
theorem tys:∃ n,Tryz.prog.types.size=n+9:=by
 have h:9≤Tryz.prog.types.size:=by decide +kernel
 exact⟨Tryz.prog.types.size - 9,by omega⟩
theorem lits246 {d:Nat} {x y:Int} (hx:(Lit.int .i64 x).wf=true) (hy:(Lit.int .i64 y).wf=true):Tryz.prog.keyLits (d+2) 246 [.int .i64 x,.int .i64 y]=some [.int .i64 x,.int .i64 y]:=by
 unfold Program.keyLits
 simp only[Tryz.underlying246,cells246]
 rw[if_pos ⟨rfl,by decide +kernel⟩]
 simp[cells3,lits1 hx,lits1 hy]
theorem key246 {w:World} {pv:Nat→Prop} {ρ:Nat→Option Info} {v:Value} {c:V} (hr:Rel w pv ρ v c) (h:keyB (aggT Tryz.prog 246) (kssOf Tryz.prog 12 246) c=true):∃ l,keyOf Tryz.prog 246 v=some l:=by
 obtain⟨l,rfl,hl,hw⟩:=ag_ints (n:=2) (by kernel_rfl) (by kernel_rfl) hr h
 match l,hl with
 |[x,y],_ =>
  obtain⟨n,hn⟩:=tys
  unfold keyOf
  simp only[Tryz.underlying246]
  rw[if_pos (by rw[Bool.and_eq_true];exact⟨by kernel_rfl,by simp[Value.formed,Tryz.underlying246,cells246]⟩),hn]
  simp only[List.map,Value.cells,lits246 (d:=n+8) (hw x (by simp)) (hw y (by simp)),Option.map_some]
  exact⟨_,rfl⟩
theorem key93 {w:World} {pv:Nat→Prop} {ρ:Nat→Option Info} {v:Value} {c:V} (hr:Rel w pv ρ v c) (h:keyB (aggT Tryz.prog 93) (kssOf Tryz.prog 12 93) c=true):∃ l,keyOf Tryz.prog 93 v=some l:=by
 rw[show aggT Tryz.prog 93=false by kernel_rfl,show kssOf Tryz.prog 12 93=[.int .i64] by kernel_rfl] at h
 cases c with
 |int q x =>
  simp only[keyB,Bool.not_false,Bool.true_and,kssB,ksB,Bool.and_true,Bool.and_eq_true,decide_eq_true_eq] at h
  obtain⟨rfl,h3,h4⟩:=h
  cases hr
  exact⟨_,keyOf_int_mk Tryz.underlying93 (wf_mk h3 h4)⟩
 |_=>simp[keyB,kssB,ksB] at h
theorem okX:OkX Tryz.prog opt:=by
 refine⟨okEq,fun t ht=>?_,fun t ht w pv ρ v c hr hk=>?_⟩
 ·simp only[opt,keyT,Bool.or_eq_true,beq_iff_eq] at ht
  rcases ht with rfl | rfl
  ·exact Keyed.of_law (deep_law_laid laid (m:=5) (by omega) (by decide +kernel) (by kernel_rfl) (by kernel_rfl))
  ·exact int_keyed Tryz.underlying93
 ·simp only[opt,keyT,Bool.or_eq_true,beq_iff_eq] at ht
  rcases ht with rfl | rfl
  ·exact key246 hr hk
  ·exact key93 hr hk
theorem okCfg (F:Nat):OkCfg Tryz.prog (cfg F):=fun f=>by
 show OkX Tryz.prog (bif f==103 then optL else opt)
 cases f==103
 ·exact okX
 ·exact⟨okX.eq,okX.keyed,okX.key⟩
theorem okE (F d:Nat):OkEnv Tryz.prog (E F d):=envN_ok (okCfg F) names d
end Go.Sim.Le

namespace Go.Sim.Gs
structure Sp where
 lo:Int
 hi:Int
 deriving DecidableEq
structure Gas where
 vol:Sp
 least:Int
 most:Int
 f0:Int
 f1:Int
 h0:Int
 h1:Int
 rock:Int
 pur:Sp
structure Gst where
 gas:Sp
 hyd:Sp
 heat:Sp
 water:Sp
structure Gpt where
 gas:Int
 hyd:Int
 heat:Int
 water:Int
end Go.Sim.Gs

namespace Go.Sim.Le
structure Span where
 lo:Int
 hi:Int
 deriving DecidableEq
structure Sl (α:Type) where
 nl:Bool
 len:Nat
 el:Nat→α
structure Slc where
 vol:Span
 opn:Int
 fall:Int
 rate:Span
 most:Int
structure Cav where
 slices:Sl Slc
 hold:Int
 oil:Int
structure Stg where
 water:Int
 into:Int
 out:Int
 blanket:Int
 deriving DecidableEq
structure Truth where
 vols:Sl Int
 rates:Sl (Sl Int)
structure Mea where
 weights:Sl Int
 sump:Int
abbrev i64 (n:Int):V:=.int .i64 n
abbrev eInt (n:Int):List V:=[.int .i64 n]
abbrev eSpan (s:Span):List V:=[.int .i64 s.lo,.int .i64 s.hi]
abbrev eSlc (c:Slc):List V:=[.int .i64 c.vol.lo,.int .i64 c.vol.hi,.int .i64 c.opn,.int .i64 c.fall,.int .i64 c.rate.lo,.int .i64 c.rate.hi,.int .i64 c.most]
abbrev eStg (s:Stg):List V:=[.int .i64 s.water,.int .i64 s.into,.int .i64 s.out,.int .i64 s.blanket]
abbrev sl {α:Type} (e:α→List V) (wd:Nat) (s:Sl α):V:=.row s.nl s.len wd fun i=>e (s.el i)
abbrev eCav (c:Cav):List V:=[sl eSlc 7 c.slices,.int .i64 c.hold,.int .i64 c.oil]
abbrev eMea (m:Mea):List V:=[sl eInt 1 m.weights,.int .i64 m.sump]
end Go.Sim.Le

namespace Go.Sim.Pl
open Go.Sim.Le (cfg E E_pf E_hv names look)
structure Span where
 lo:Int
 hi:Int
 deriving DecidableEq
structure Sl (α:Type) where
 nl:Bool
 len:Nat
 el:Nat→α
structure Row where
 ratio:Int
 least:Int
 most:Int
 energy:Int
 deriving DecidableEq
structure Mach where
 kind:Int
 rows:Sl Row
 start:Int
 up:Int
 down:Int
 left:Int
 life:Int
 service:Int
 runs:Bool
 since:Int
structure Hour where
 flow:Int
 ratio:Span
 deriving DecidableEq
structure Sta where
 runs:Bool
 since:Int
 left:Int
 served:Int
 complete:Bool
 deriving DecidableEq
abbrev i64 (n:Int):V:=.int .i64 n
abbrev eInt (n:Int):List V:=[.int .i64 n]
abbrev eBool (b:Bool):List V:=[.bool b]
abbrev eSpan (s:Span):List V:=[.int .i64 s.lo,.int .i64 s.hi]
abbrev eRow (r:Row):List V:=[.int .i64 r.ratio,.int .i64 r.least,.int .i64 r.most,.int .i64 r.energy]
abbrev sl {α:Type} (e:α→List V) (wd:Nat) (s:Sl α):V:=.row s.nl s.len wd fun i=>e (s.el i)
abbrev eMach (m:Mach):List V:=[.int .i64 m.kind,sl eRow 4 m.rows,.int .i64 m.start,.int .i64 m.up,.int .i64 m.down,.int .i64 m.left,.int .i64 m.life,.int .i64 m.service,.bool m.runs,.int .i64 m.since]
abbrev eHour (h:Hour):List V:=[.int .i64 h.flow,.int .i64 h.ratio.lo,.int .i64 h.ratio.hi]
abbrev eSta (s:Sta):List V:=[.bool s.runs,.int .i64 s.since,.int .i64 s.left,.int .i64 s.served,.bool s.complete]
abbrev eIL (s:Sl Int):List V:=[sl eInt 1 s]
end Go.Sim.Pl

namespace Go.Sim.Pl
open Go.Sim
structure Rate where
 fill:Int
 inn:Int
 out:Int
structure Con where
 firm:Bool
 space:Int
 h0:Int
 h1:Int
 rates:Sl Rate
 gas:Int
 fixed:Int
 inn:Int
 out:Int
 cut:Int
 lack:Int
structure Sto where
 space:Int
 inn:Int
 out:Int
 lead:Int
 fuel:Int
 cons:Sl Con
structure Hr where
 inn:Int
 out:Int
 fin:Int
 fout:Int
structure Nom where
 con:Int
 hour:Int
 sent:Int
 amount:Int
structure Trd where
 hour:Int
 back:Int
 src:Int
 dst:Int
 amount:Int
structure Dy where
 hours:Sl Hr
 noms:Sl Nom
 trades:Sl Trd
abbrev eRate (r:Rate):List V:=[.int .i64 r.fill,.int .i64 r.inn,.int .i64 r.out]
abbrev eCon (c:Con):List V:=[.bool c.firm,.int .i64 c.space,.int .i64 c.h0,.int .i64 c.h1,sl eRate 3 c.rates,.int .i64 c.gas,.int .i64 c.fixed,.int .i64 c.inn,.int .i64 c.out,.int .i64 c.cut,.int .i64 c.lack]
abbrev eSto (s:Sto):List V:=[.int .i64 s.space,.int .i64 s.inn,.int .i64 s.out,.int .i64 s.lead,.int .i64 s.fuel,sl eCon 11 s.cons]
abbrev eHr (h:Hr):List V:=[.int .i64 h.inn,.int .i64 h.out,.int .i64 h.fin,.int .i64 h.fout]
abbrev eNom (n:Nom):List V:=[.int .i64 n.con,.int .i64 n.hour,.int .i64 n.sent,.int .i64 n.amount]
abbrev eTrd (t:Trd):List V:=[.int .i64 t.hour,.int .i64 t.back,.int .i64 t.src,.int .i64 t.dst,.int .i64 t.amount]
abbrev eDy (d:Dy):List V:=[sl eHr 4 d.hours,sl eNom 4 d.noms,sl eTrd 5 d.trades]
abbrev sd (s : Sto) (dy : Dy) (h : Int) (l : List V) : List V := .int .i64 s.space :: .int .i64 s.inn :: .int .i64 s.out :: .int .i64 s.lead :: .int .i64 s.fuel :: sl eCon 11 s.cons :: sl eHr 4 dy.hours :: sl eNom 4 dy.noms :: sl eTrd 5 dy.trades :: .int .i64 h :: l
end Go.Sim.Pl
