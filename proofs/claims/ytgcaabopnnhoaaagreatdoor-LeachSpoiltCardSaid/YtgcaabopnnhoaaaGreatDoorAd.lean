import Derived.Test.YtgcaabopnnhoaaaGreatDoorAc
import Derived.Carry
import Derived.ChangeArms
import Derived.ProofKit
import Derived.OpenShut
import Derived.SizedLaws
import Derived.Shelf.LaysM
import Derived.Shelf.LaysC
import Derived.Shelf.Strconv.Itoa3
import Derived.Shelf.Strconv.AtoiAll
import Derived.Shelf.Strconv.ErrVarAll
import Derived.Shelf.Strings.Cut
import Derived.Shelf.Strings.Split
import Derived.Shelf.Strings.Shaped
import Derived.Test.YtgcaabopnnhoaaaGreatDoorRows
import Derived.Lib.ItoaNum
import Derived.Lib.ItoaMem
import Derived.Lib.AtoiTie
import Derived.Test.YtgcaabopnnhoaaaGreatDoorProg
import Derived.Shelf.Strings.Builder1
import Derived.KernelRfl
import Derived.DeepKeys4
import Derived.Maps.Keyed
set_option linter.unusedVariables false
set_option linter.unusedSimpArgs false
set_option linter.unusedSectionVars false
namespace Go.Sim
open Go.RowKit Go.ChangeShapes Go.WideShapes Go.ChangeAt
variable [Start]
inductive Sh where
 |int (k:IntKind)
 |bool
 |str
 |row (l:List Sh)
inductive Fit:Sh→V→Prop where
 |int {k n} (h:k.min≤n∧n≤k.max):Fit (.int k) (.int k n)
 |bool {b}:Fit .bool (.bool b)
 |str {s:ByteArray} (h:s.size≤140737488355328):Fit .str (.str s)
 |row {l:List Sh} {nl:Bool} {len:Nat} {get:Nat→List V} (h:len≤140737488355328) (hn:nl=true→len=0) (hl:∀ i,(get i).length=l.length) (hf:∀ (i j:Nat) (s:Sh) (c:V),l[j]? = some s→(get i)[j]? = some c→Fit s c):Fit (.row l) (.row nl len l.length get)
def FitL (l:List Sh) (cs:List V):Prop:=cs.length=l.length∧∀ (j:Nat) (s:Sh) (c:V),l[j]? = some s→cs[j]? = some c→Fit s c
theorem Fit.one {s:Sh} {c:V} (h:Fit s c):c.one=true:=by cases h<;>rfl
def shFs (P:Program) (sh:TypeId→Option (List Sh)):List Field→Nat→Option (List Sh)
 |[],_=>some []
 |f :: r,off=>match sh f.type,shFs P sh r (off+P.cellsOf f.type) with
  |some a,some b=>bif f.offset==off && a.length==P.cellsOf f.type then some (a ++ b) else none
  |_,_=>none
def shRep:Nat→List Sh→List Sh
 |0,_=>[]
 |n+1,l=>l ++ shRep n l
def shOf (P:Program):Nat→TypeId→Option (List Sh)
 |0,_=>none
 |d+1,t=>match P.underlying t with
  |some (.int k)=>some [.int k]
  |some .bool=>some [.bool]
  |some .string=>some [.str]
  |some (.slice e)=>(match shOf P d e with
   |some (s :: l)=>bif (s :: l).length==P.cellsOf e && Nat.ble 1 (P.bytesOf e) then some [.row (s :: l)] else none
   |_=>none)
  |some (.struct fs)=>(match shFs P (shOf P d) fs.toList 0 with
   |some l=>bif l.length==P.cellsOf t then some l else none
   |none=>none)
  |some (.array n e)=>(match shOf P d e with
   |some l=>bif l.length==P.cellsOf e && (shRep n l).length==P.cellsOf t then some (shRep n l) else none
   |none=>none)
  |_=>none
mutual
def zeroV:Sh→V
 |.int k=>.int k 0
 |.bool=>.bool false
 |.str=>.str ByteArray.empty
 |.row l=>.row true 0 l.length fun _=>zeroL l
def zeroL:List Sh→List V
 |[]=>[]
 |s :: l=>zeroV s :: zeroL l
end
theorem zeroL_len:∀ l:List Sh,(zeroL l).length=l.length
 |[]=>by simp[zeroL]
 |_ :: l=>by simp[zeroL,zeroL_len l]
theorem zero_int (k:IntKind):k.min≤0∧0≤k.max:=by cases k<;>decide
mutual
theorem zeroV_fit:∀ s:Sh,Fit s (zeroV s)
 |.int k=>by rw[zeroV];exact .int (zero_int k)
 |.bool=>by rw[zeroV];exact .bool
 |.str=>by rw[zeroV];exact .str (Nat.zero_le _)
 |.row l=>by
  rw[zeroV]
  exact .row (Nat.zero_le _) (fun _=>rfl) (fun _=>zeroL_len l) (fun _ j s c h1 h2=>(zeroL_fit l) j s c h1 h2)
theorem zeroL_fit:∀ (l:List Sh) (j:Nat) (s:Sh) (c:V),l[j]? = some s→(zeroL l)[j]? = some c→Fit s c
 |[],j,s,c,h,_=>by simp at h
 |x :: l,0,s,c,h1,h2=>by
  simp only[zeroL,List.getElem?_cons_zero,Option.some.injEq] at h1 h2
  subst h1 h2
  exact zeroV_fit x
 |x :: l,j+1,s,c,h1,h2=>by
  simp only[zeroL,List.getElem?_cons_succ] at h1 h2
  exact zeroL_fit l j s c h1 h2
end
section
variable {H:Type} {enc:TypeId × Value→H} {P:Program} {w:World} {base:Nat} {sp:Nat→Bool} {held:Bool}
abbrev noPv:Nat→Prop:=fun _=>False
def Seen (w:World) (vs:List Value) (sh:List Sh) (cs:List V):Prop :=
 vs.length=cs.length∧FitL sh cs∧∀ (i:Nat) (v:Value) (c:V),vs[i]? = some v→cs[i]? = some c→Rel w noPv none_ v c
theorem Seen.one {vs:List Value} {sh:List Sh} {cs:List V} (h:Seen w vs sh cs) {i:Nat} {c:V} (hc:cs[i]? = some c):c.one=true:=by
 have hi:i<sh.length:=by
  have:=(List.getElem?_eq_some_iff.1 hc).1
  rw[← h.2.1.1];exact this
 exact (h.2.1.2 i sh[i] c (List.getElem?_eq_getElem hi) hc).one
theorem seen1 {v:Value} {s:Sh} {c:V} (hf:Fit s c) (hr:Rel w noPv none_ v c):Seen w [v] [s] [c]:=by
 refine⟨rfl,⟨rfl,?_⟩,?_⟩
 ·intro j s' c' h1 h2
  match j with
  |0=>simp only[List.getElem?_cons_zero,Option.some.injEq] at h1 h2;subst h1 h2;exact hf
  |j+1=>simp at h1
 ·intro j v' c' h1 h2
  match j with
  |0=>simp only[List.getElem?_cons_zero,Option.some.injEq] at h1 h2;subst h1 h2;exact hr
  |j+1=>simp at h1
theorem Seen.append {vs vs':List Value} {sh sh':List Sh} {cs cs':List V} (h:Seen w vs sh cs) (h':Seen w vs' sh' cs'):Seen w (vs ++ vs') (sh ++ sh') (cs ++ cs'):=by
 obtain⟨a1,a2,a3⟩:=h
 obtain⟨b1,b2,b3⟩:=h'
 refine⟨by simp[a1,b1],⟨by simp[a2.1,b2.1],fun j s c h1 h2=>?_⟩,fun j v c h1 h2=>?_⟩
 ·by_cases hj:j<sh.length
  ·rw[List.getElem?_append_left hj] at h1
   rw[List.getElem?_append_left (by rw[a2.1];exact hj)] at h2
   exact a2.2 j s c h1 h2
  ·rw[List.getElem?_append_right (by omega)] at h1
   rw[List.getElem?_append_right (by rw[a2.1];omega),a2.1] at h2
   exact b2.2 _ s c h1 h2
 ·by_cases hj:j<vs.length
  ·rw[List.getElem?_append_left hj] at h1
   rw[List.getElem?_append_left (by rw[← a1];exact hj)] at h2
   exact a3 j v c h1 h2
  ·rw[List.getElem?_append_right (by omega)] at h1
   rw[List.getElem?_append_right (by rw[← a1];omega),← a1] at h2
   exact b3 _ v c h1 h2
theorem wf_bounds {k:IntKind} {n:Int} (h:(Lit.int k n).wf=true):k.min≤n∧n≤k.max:=by
 simpa[Lit.wf] using h
theorem weights_all {e:TypeId} {d:DataW H}:∀ {l:List (DataW H)},d ∈ l→∀ n ∈ d.weights P e,n ∈ DataW.weightsAll P e l:=by
 intro l
 induction l with
 |nil=>intro h;cases h
 |cons x l ih =>
  intro h n hn
  rw[DataW.weightsAll,List.mem_append]
  rcases List.mem_cons.1 h with rfl | h
  ·exact .inl hn
  ·exact .inr (ih h n hn)
theorem seen_of:∀ (d fuel:Nat) (t:TypeId) (vs:List Value) (x:DataW H × List MemPlace) (sh:List Sh),DataW.trod enc P w base sp held fuel t vs=some x→(∀ n ∈ x.1.weights P t,n≤reachBytes)→shOf P d t=some sh→∃ cs,Seen w vs sh cs:=by
 intro d
 induction d with
 |zero=>intro fuel t vs x sh _ _ h;simp[shOf] at h
 |succ d ih =>
  intro fuel t vs x sh h hwt hs
  unfold shOf at hs
  split at hs
  ·rename_i k ht
   injection hs with hs
   subst hs
   obtain⟨n,rfl,_,hw⟩:=DataW.trod_int ht h
   exact⟨[.int k n],seen1 (.int (wf_bounds hw)) .int⟩
  ·rename_i ht
   injection hs with hs
   subst hs
   obtain⟨b,rfl,_⟩:=DataW.trod_bool ht h
   exact⟨[.bool b],seen1 .bool .bool⟩
  ·rename_i ht
   injection hs with hs
   subst hs
   obtain⟨s,rfl,rfl,hm⟩:=DataW.trod_string ht h
   have hm2:s.size≤reachBytes:=by
    have:=hwt s.data.toList.length (by simp[DataW.weights])
    rwa [show s.data.toList.length=s.size from by rw[Array.length_toList];rfl] at this
   exact⟨[.str s],seen1 (.str (by unfold reachBytes at hm2;omega)) .str⟩
  ·rename_i e ht
   split at hs
   ·rename_i s0 l he
    cases hc:(s0 :: l).length==P.cellsOf e && Nat.ble 1 (P.bytesOf e) with
    |false=>rw[hc] at hs;cases hs
    |true =>
     rw[hc,cond_true] at hs
     injection hs with hs
     subst hs
     rw[Bool.and_eq_true] at hc
     have hw:(s0 :: l).length=P.cellsOf e:=by simpa using hc.1
     have hby:1≤P.bytesOf e:=Nat.le_of_ble_eq_true hc.2
     rcases DataW.trod_slice ht h with⟨rfl,_⟩ | ⟨a,len,cap,elems,rest,n,_,rfl,rfl,hb,hlc,hcm,hel,hget,_⟩
     ·exact⟨[.row true 0 (s0 :: l).length fun _=>zeroL (s0 :: l)],seen1 (.row (Nat.zero_le _) (fun _=>rfl) (fun _=>zeroL_len _) fun _ j s c h1 h2=>zeroL_fit _ j s c h1 h2) .nilrow⟩
     ·have hlen:len≤140737488355328:=by
       have:=hwt (((elems.map (·.1)).length+(rest.map (·.1)).length)*P.bytesOf e) (by simp[DataW.weights,ht])
       have h2:len*1≤((elems.map (·.1)).length+(rest.map (·.1)).length)*P.bytesOf e:=Nat.mul_le_mul (by simp;omega) hby
       unfold reachBytes at this
       omega
      have hwe:∀ i (hi:i<elems.length),∀ n ∈ elems[i].1.weights P e,n≤reachBytes:=fun i hi n hn=>hwt n (by
       simp only[DataW.weights,ht,List.mem_cons,List.mem_append]
       exact .inr (.inl (weights_all (List.mem_map_of_mem (List.getElem_mem hi)) n hn)))
      have each:∀ i,i<len→∃ vs',w.cells? base (a.add (i*P.cellsOf e)) (P.cellsOf e)=some vs'∧∃ cs,Seen w vs' (s0 :: l) cs:=fun i hi=>by
       have g:=hget i hi
       rw[List.getElem?_eq_getElem (by omega),Option.bind_eq_some_iff] at g
       obtain⟨vs',g1,g2⟩:=g
       exact⟨vs',g1,ih n e vs' _ _ g2 (hwe i (by omega)) he⟩
      have pick:∃ f:Nat→List Value × List V,∀ i,i<len→w.cells? base (a.add (i*P.cellsOf e)) (P.cellsOf e)=some (f i).1∧Seen w (f i).1 (s0 :: l) (f i).2:=by
       refine⟨fun i=>if hi:i<len then ((each i hi).choose,(each i hi).choose_spec.2.choose) else ([],[]),fun i hi=>?_⟩
       simp only[dif_pos hi]
       exact⟨(each i hi).choose_spec.1,(each i hi).choose_spec.2.choose_spec⟩
      obtain⟨f,hf⟩:=pick
      refine⟨[.row false len (s0 :: l).length fun i=>if i<len then (f i).2 else zeroL (s0 :: l)],seen1 (.row hlen (fun h=>by cases h) (fun i=>?_) fun i j s c h1 h2=>?_) (.row (fun i j=>((f i).1[j]?).getD Go.undef) hlc (fun h0=>⟨?_,id⟩) (fun i hi=>?_) (fun i j hi hj=>?_) (fun i j c hi hc'=>?_) fun i j c hi hc'=>?_)⟩
      ·by_cases hi:i<len
       ·rw[if_pos hi];exact (hf i hi).2.2.1.1
       ·rw[if_neg hi];exact zeroL_len _
      ·by_cases hi:i<len
       ·rw[if_pos hi] at h2;exact (hf i hi).2.2.1.2 j s c h1 h2
       ·rw[if_neg hi] at h2;exact zeroL_fit _ j s c h1 h2
      ·have:=World.cells?_block (hf 0 h0).1 (by rw[← hw];simp)
       rwa [block_add] at this
      ·rw[if_pos hi];exact (hf i hi).2.2.1.1
      ·obtain⟨_,q1,q2⟩:=World.cells?_some (hf i hi).1
       have hj':j<(f i).1.length:=by rw[q1,← hw];exact hj
       have:=q2 j (by rw[← hw];exact hj)
       rw[← hw,Addr.add_add] at this
       rw[this,List.getElem?_eq_getElem hj']
       rfl
      ·rw[if_pos hi] at hc'
       have hj:j<(f i).2.length:=(List.getElem?_eq_some_iff.1 hc').1
       have hj':j<(f i).1.length:=by rw[(hf i hi).2.1];exact hj
       refine (hf i hi).2.2.2 j _ c ?_ hc'
       rw[List.getElem?_eq_getElem hj'];rfl
      ·rw[if_pos hi] at hc'
       exact (hf i hi).2.one hc'
   ·cases hs
  ·rename_i fs ht
   split at hs
   ·rename_i l hl
    cases hc:l.length==P.cellsOf t with
    |false=>rw[hc] at hs;cases hs
    |true =>
     rw[hc,cond_true] at hs
     injection hs with hs
     subst hs
     have hw:l.length=P.cellsOf t:=by simpa using hc
     obtain⟨xs,n,_,rfl,hlen,hxs,hget⟩:=DataW.trod_struct ht h
     have key:∀ (r:List Field) (off:Nat) (l:List Sh),(∀ f ∈ r,∃ y,DataW.trod enc P w base sp held n f.type ((vs.drop f.offset).take (P.cellsOf f.type))=some y∧∀ n ∈ y.1.weights P f.type,n≤reachBytes)→shFs P (shOf P d) r off=some l→vs.length=off+l.length→∃ cs,Seen w (vs.drop off) l cs:=by
      intro r
      induction r with
      |nil =>
       intro off l _ hl hv
       simp only[shFs,Option.some.injEq] at hl
       subst hl
       rw[List.drop_of_length_le (by simpa using Nat.le_of_eq hv)]
       exact⟨[],rfl,⟨rfl,fun j s c h=>by simp at h⟩,fun j v c h=>by simp at h⟩
      |cons f r ihr =>
       intro off l hr hl hv
       unfold shFs at hl
       split at hl
       ·rename_i a b ha hb
        cases hc:f.offset==off && a.length==P.cellsOf f.type with
        |false=>rw[hc] at hl;cases hl
        |true =>
         rw[hc,cond_true] at hl
         injection hl with hl
         subst hl
         rw[Bool.and_eq_true,beq_iff_eq,beq_iff_eq] at hc
         obtain⟨y,hy,hy2⟩:=hr f (by simp)
         obtain⟨cs,hcs⟩:=ih n f.type _ _ a hy hy2 ha
         obtain⟨cs',hcs'⟩:=ihr (off+P.cellsOf f.type) b (fun g hg=>hr g (by simp[hg])) hb (by rw[hv,List.length_append,hc.2];omega)
         refine⟨cs ++ cs',?_⟩
         have e:vs.drop off=(vs.drop off).take (P.cellsOf f.type) ++ vs.drop (off+P.cellsOf f.type):=by
          rw[← List.drop_drop];exact (List.take_append_drop _ _).symm
         rw[e]
         rw[hc.1] at hcs
         exact hcs.append hcs'
       ·cases hl
     have:=key fs.toList 0 l (fun f hf=>by
      obtain⟨i,hi,rfl⟩:=List.getElem_of_mem hf
      have hi':i<fs.size:=by simpa using hi
      have g:=hget i fs[i] (Array.getElem?_eq_getElem hi')
      rw[List.getElem?_eq_getElem (by omega)] at g
      refine⟨xs[i]'(by omega),by simpa using g,fun n hn=>hwt n ?_⟩
      simp only[DataW.weights,ht]
      exact DataW.weights_mem_each (j:=i) (t:=fs[i].type) (d:=(xs[i]'(by omega)).1) (by simp[hi']) (by simp[show i<xs.length by omega]) n (by simpa using hn)) hl (by rw[hlen,hw,Nat.zero_add])
     rwa [List.drop_zero] at this
   ·cases hs
  ·rename_i n e ht
   split at hs
   ·rename_i l hl
    cases hc:l.length==P.cellsOf e && (shRep n l).length==P.cellsOf t with
    |false=>rw[hc] at hs;cases hs
    |true =>
     rw[hc,cond_true] at hs
     injection hs with hs
     subst hs
     rw[Bool.and_eq_true,beq_iff_eq,beq_iff_eq] at hc
     obtain⟨xs,m,_,rfl,hlen,hxs,hget⟩:=DataW.trod_array ht h
     have key:∀ (k i:Nat),i+k=n→vs.length=i*P.cellsOf e+(shRep k l).length→∃ cs,Seen w (vs.drop (i*P.cellsOf e)) (shRep k l) cs:=by
      intro k
      induction k with
      |zero =>
       intro i _ hv
       rw[List.drop_of_length_le (by simp only[shRep,List.length_nil] at hv;omega)]
       exact⟨[],rfl,⟨rfl,fun j s c h=>by simp[shRep] at h⟩,fun j v c h=>by simp at h⟩
      |succ k ihk =>
       intro i hi hv
       have g:=hget i (by omega)
       rw[List.getElem?_eq_getElem (by omega)] at g
       obtain⟨cs,hcs⟩:=ih m e _ _ l g (fun q hq=>hwt q (by
        simp only[DataW.weights,ht]
        exact weights_all (List.mem_map_of_mem (List.getElem_mem (by omega))) q hq)) hl
       obtain⟨cs',hcs'⟩:=ihk (i+1) (by omega) (by rw[hv,shRep,List.length_append,hc.1,Nat.succ_mul];omega)
       refine⟨cs ++ cs',?_⟩
       have e2:vs.drop (i*P.cellsOf e)=(vs.drop (i*P.cellsOf e)).take (P.cellsOf e) ++ vs.drop ((i+1)*P.cellsOf e):=by
        rw[Nat.succ_mul,← List.drop_drop];exact (List.take_append_drop _ _).symm
       rw[e2]
       exact hcs.append hcs'
     have:=key n 0 (by omega) (by rw[hlen,← hc.2];omega)
     rwa [Nat.zero_mul,List.drop_zero] at this
   ·cases hs
  ·cases hs
end
def argKs (P:Program):List TypeId→Option (List (Bool × List Sh))
 |[]=>some []
 |t :: ts=>match shOf P 12 t,argKs P ts with
  |some l,some r=>some ((aggT P t,l) :: r)
  |_,_=>none
def ArgsFit:List (Bool × List Sh)→List V→Prop
 |[],cs=>cs=[]
 |(true,sh) :: r,cs=>∃ l cs',cs = .agg l :: cs'∧FitL sh l∧ArgsFit r cs'
 |(false,sh) :: r,cs=>∃ s c cs',sh=[s]∧cs=c :: cs'∧Fit s c∧ArgsFit r cs'
section
variable {H:Type} {enc:TypeId × Value→H} {P:Program} {W:World} {sp:Nat→Bool}
theorem cells_one {r:Reach} {b:Nat} {t:TypeId} {v:Value} {sh:List Sh} (hv:Value.okWide P W r b t v) (ha:aggT P t=false) (hs:shOf P 12 t=some sh):v.cells.toList=[v]∧sh.length=1:=by
 unfold shOf at hs
 unfold aggT at ha
 unfold Value.okWide Cell.okWide Cell.ok at hv
 split at hs
 ·rename_i k ht
  rw[ht] at hv
  injection hs with hs;subst hs
  cases v<;>simp at hv<;>exact⟨rfl,rfl⟩
 ·rename_i ht
  rw[ht] at hv
  injection hs with hs;subst hs
  cases v<;>simp at hv<;>exact⟨rfl,rfl⟩
 ·rename_i ht
  rw[ht] at hv
  injection hs with hs;subst hs
  cases v<;>simp at hv<;>exact⟨rfl,rfl⟩
 ·rename_i e ht
  rw[ht] at hv
  have h1:sh.length=1:=by
   split at hs
   ·rename_i s0 l he
    cases hc:(s0 :: l).length==P.cellsOf e && Nat.ble 1 (P.bytesOf e) with
    |false=>rw[hc] at hs;cases hs
    |true=>rw[hc,cond_true] at hs;injection hs with hs;subst hs;rfl
   ·cases hs
  refine⟨?_,h1⟩
  cases v<;>first | rfl | (simp at hv)
 ·rename_i fs ht
  rw[ht] at ha
  cases ha
 ·rename_i n e ht
  rw[ht] at ha
  cases ha
 ·cases hs
theorem agg_of {r:Reach} {b:Nat} {t:TypeId} {v:Value} (hv:Value.okWide P W r b t v) (ha:aggT P t=true):∃ a,v = .agg a:=by
 unfold aggT at ha
 unfold Value.okWide at hv
 split at ha
 ·rename_i fs ht;rw[ht] at hv;exact⟨_,hv.choose_spec.1⟩
 ·rename_i n e ht;rw[ht] at hv;exact⟨_,hv.choose_spec.1⟩
 ·cases ha
theorem args_seen {r:Reach} {b:Nat}:∀ (ts:List TypeId) (vs:List Value) (ds:List (DataW H)) (ps:List MemPlace) (ks:List (Bool × List Sh)),DataW.TrodAll enc P W 0 sp true ts vs ds ps →
 (∀ (j:Nat) t v,ts[j]? = some t→vs[j]? = some v→Value.okWide P W r b t v)→(∀ n ∈ DataW.weightsEach P ts ds,n≤reachBytes)→argKs P ts=some ks →
 ∃ cs,vs.length=cs.length∧ArgsFit ks cs∧∀ (i:Nat) (v:Value) (c:V),vs[i]? = some v→cs[i]? = some c→Rel W noPv none_ v c:=by
 intro ts
 induction ts with
 |nil =>
  intro vs ds ps ks h _ _ hk
  obtain⟨rfl,rfl,rfl⟩:=trodAll_nil h
  simp only[argKs,Option.some.injEq] at hk
  subst hk
  exact⟨[],rfl,rfl,fun i v c h=>by simp at h⟩
 |cons t ts ih =>
  intro vs ds ps ks h hv hwt hk
  obtain⟨v,vs',dd,ds',p,q,rfl,rfl,rfl,h0,hr⟩:=trodAll_cons h
  unfold argKs at hk
  split at hk
  ·rename_i sh kr hsh hkr
   injection hk with hk
   subst hk
   obtain⟨cs',l',f',r'⟩:=ih vs' ds' q kr hr (fun j t' v' a1 a2=>hv (j+1) t' v' (by simpa using a1) (by simpa using a2)) (fun n hn=>hwt n (by simp only[DataW.weightsEach,List.mem_append];exact .inr hn)) hkr
   obtain⟨fuel,hfu⟩:=h0
   obtain⟨cs,hcs⟩:=seen_of 12 fuel t _ _ sh hfu (fun n hn=>hwt n (by simp only[DataW.weightsEach,List.mem_append];exact .inl hn)) hsh
   have hv0:=hv 0 t v rfl rfl
   cases ha:aggT P t with
   |true =>
    obtain⟨a,rfl⟩:=agg_of hv0 ha
    refine⟨.agg cs :: cs',by simp[l'],⟨cs,cs',rfl,hcs.2.1,f'⟩,fun i v c h1 h2=>?_⟩
    match i with
    |0 =>
     simp only[List.getElem?_cons_zero,Option.some.injEq] at h1 h2
     subst h1 h2
     have hl:=hcs.1
     simp only[Value.cells,Array.length_toList] at hl
     refine .agg hl fun j v c g1 g2=>hcs.2.2 j v c ?_ g2
     rw[Array.getElem?_toList];exact g1
    |i+1=>exact r' i v c (by simpa using h1) (by simpa using h2)
   |false =>
    obtain⟨e1,e2⟩:=cells_one hv0 ha hsh
    rw[e1] at hcs
    match sh,e2 with
    |[s],_ =>
     have hl:cs.length=1:=hcs.1.symm
     match cs,hl with
     |[c0],_ =>
      refine⟨c0 :: cs',by simp[l'],⟨s,c0,cs',rfl,rfl,hcs.2.1.2 0 s c0 rfl rfl,f'⟩,fun i v c h1 h2=>?_⟩
      match i with
      |0 =>
       simp only[List.getElem?_cons_zero,Option.some.injEq] at h1 h2
       subst h1 h2
       exact hcs.2.2 0 _ _ rfl rfl
      |i+1=>exact r' i v c (by simpa using h1) (by simpa using h2)
  ·cases hk
theorem trod_count:∀ {ts:List TypeId} {vs:List Value} {ds:List (DataW H)} {ps:List MemPlace},DataW.TrodAll enc P W 0 sp true ts vs ds ps→ds.length=ts.length:=by
 intro ts
 induction ts with
 |nil=>intro vs ds ps h;obtain⟨rfl,rfl,rfl⟩:=trodAll_nil h;rfl
 |cons t ts ih =>
  intro vs ds ps h
  obtain⟨v,vs',dd,ds',p,q,rfl,rfl,rfl,_,hr⟩:=trodAll_cons h
  simp[ih hr]
theorem args_stay (hl:laidOutB P=true) {W':World} (hb:Below W.heap.size W W') {sp':Nat→Bool}:∀ (ts:List TypeId) (vs:List Value) (ds:List (DataW H)) (ps:List MemPlace),(∀ t ∈ ts,P.readableRec t=true∧t<P.types.size) →
 DataW.TrodAll enc P W 0 (fun _=>true) true ts vs ds ps→(∀ x ∈ ps,x.block<W.heap.size)→(∀ x ∈ ps,sp' x.block=true)→DataW.TrodAll enc P W' 0 sp' true ts vs ds ps:=by
 intro ts
 induction ts with
 |nil =>
  intro vs ds ps _ h _ _
  obtain⟨rfl,rfl,rfl⟩:=trodAll_nil h
  exact trodAll_mk0
 |cons t ts ih =>
  intro vs ds ps ht h hlt hsp
  obtain⟨v,vs',dd,ds',p,q,rfl,rfl,rfl,h0,hr⟩:=trodAll_cons h
  exact trodAll_cons_mk (WideElems.Trod_stays hl (ht t (by simp)).1 (ht t (by simp)).2 h0 (fun x hx=>hb.same (hlt x (by simp[hx]))) fun x hx=>hsp x (by simp[hx]))
   (ih vs' ds' q (fun t' h'=>ht t' (by simp[h'])) hr (fun x hx=>hlt x (by simp[hx])) fun x hx=>hsp x (by simp[hx]))
theorem post_below {f:Func} {s:ChangeSpec} {apart fresh handsOn again:Bool} {W W':World} {args:Array Value} {v:Value} {ds gs:List (DataW H)} {before pa pv:List MemPlace}
 (hW:DataW.Whole enc P f.params.toList s.vars apart W args.toList ds gs before)
 (hres:∀ (b:Nat) (sp:Nat→Bool) (hd:Bool),DataW.TrodAll enc P W' b sp hd f.resultTypes.toList (v.resultList f.resultTypes.size) (s.fn H (ds ++ gs)).results [])
 (hargs:∀ sp:Nat→Bool,(∀ p ∈ before,sp p.block=true)→DataW.TrodAll enc P W' 0 sp true f.params.toList args.toList (s.fn H (ds ++ gs)).args pa)
 (hvars:∀ sp:Nat→Bool,(∀ p ∈ before,sp p.block=true)→DataW.TrodVars enc P W' sp s.vars (s.fn H (ds ++ gs)).vars pv)
 (hps:before=pa ++ pv) (hb:Below W.heap.size W W')
 (hok:∀ (j:Nat) (t:TypeId) (r:Value),f.resultTypes[j]? = some t→(v.resultList f.resultTypes.size)[j]? = some r→Value.okWide P W' .any 0 t r) :
 s.post enc P f apart fresh handsOn again W args v W':=by
 have hlt:∀ p ∈ before,p.block<W.heap.size:=fun p hp=>hW.lt p hp
 have hold:∀ p ∈ before,(fun b=>decide (b<W.heap.size)) p.block=true:=fun p hp=>by simpa using hlt p hp
 refine⟨ds,gs,before,[],pa,pv,hW,hres _ _ _,hargs _ hold,hvars _ hold,World.keptBut_mono (fun p hp=>⟨hp,?_⟩) (hb.frame (· ∈ before)),fun _=>?_⟩
 ·rw[hps,List.mem_append] at hp
  exact Or.inr hp
 ·obtain⟨_,_,_,_,_,hz,hn⟩:=hW
  refine⟨hok,_,_,([] ++ pa) ++ pv,⟨[] ++ pa,pv,trodAll_append (hargs _ (fun _ _=>rfl)) (hres _ _ _),hvars _ (fun _ _=>rfl),rfl,?_,?_⟩,?_⟩
  ·intro b off hp
   have hin:MemPlace.cell b off ∈ before:=by rw[hps];simpa using hp
   rw[hb.frozen (hlt _ hin)]
   exact hz b off hin
  ·intro ha
   have:=hn ha
   rw[hps] at this
   simpa using this
  ·intro p hp _
   rw[hps]
   simpa using hp
end
theorem weights_more {H:Type} {P:Program}:∀ (ts us:List TypeId) (ds:List (DataW H)) (n:Nat),n ∈ DataW.weightsEach P ts ds→n ∈ DataW.weightsEach P (ts ++ us) ds:=by
 intro ts
 induction ts with
 |nil=>intro us ds n h;simp[DataW.weightsEach] at h
 |cons t ts ih =>
  intro us ds n h
  cases ds with
  |nil=>simp[DataW.weightsEach] at h
  |cons d ds =>
   simp only[List.cons_append,DataW.weightsEach,List.mem_append] at h ⊢
   rcases h with h | h
   ·exact .inl h
   ·exact .inr (ih us ds n h)
def SaysTrue (s:ChangeSpec) (n:Nat):Prop:=s.vars=[]∧∀ (H:Type) (ds:List (DataW H)),ds.length=n→(s.fn H (ds ++ [])).results=[.lit (.bool true)]∧(s.fn H (ds ++ [])).args=ds∧(s.fn H (ds ++ [])).vars=[]
theorem law_contract {P:Program} {H:Type} {enc:TypeId × Value→H} {f:FuncId} {fn:Func} {s:ChangeSpec} {env:Env} {ks:List (Bool × List Sh)} {tb:TypeId} (henv:OkEnv P env) (hk:argKs P fn.params.toList=some ks)
 (hE:∀ cs,ArgsFit ks cs→env.pf f cs=some (.ret (.bool true))) (hs:SaysTrue s fn.params.size) (hr:fn.resultTypes = #[tb]) (htb:P.underlying tb=some .bool)
 (hl:laidOutB P=true) (hrd:∀ t ∈ fn.params.toList,P.readableRec t=true∧t<P.types.size) (W:World) (hgl:GloW W) (base:Nat) (args:Array Value) (ds gs:List (DataW H)) (before:List MemPlace)
 (hval:∀ (j:Nat) t v,fn.params[j]? = some t→args[j]? = some v→Value.okWide P W .any base t v) (hW:DataW.Whole enc P fn.params.toList s.vars false W args.toList ds gs before)
 (hwt:(DataW.weightsEach P (fn.params.toList ++ s.plain.varTypes P) (ds ++ gs)).all (· ≤ reachBytes)=true) :
 Calls P f args W fun e W'=>∃ v,e = .returned v∧s.post enc P fn false true false false W args v W':=by
 have hW':=hW
 have hlt:=hW.lt
 obtain⟨p,q,hA,hV,rfl,_,_⟩:=hW
 rw[hs.1] at hV
 obtain⟨rfl,rfl⟩:=trodVars_none hV
 rw[List.append_nil] at hW' hlt
 have hds:ds.length=fn.params.size:=by simpa using trod_count hA
 obtain⟨cs,hlen,hfit,hrel⟩:=args_seen fn.params.toList args.toList ds p ks hA (fun j t v h1 h2=>hval j t v (by simpa using h1) (by simpa using h2)) (fun n hn=>by
  have:=List.all_eq_true.1 hwt n (by rw[List.append_nil];exact weights_more _ _ _ n hn)
  simpa using this) hk
 obtain⟨s1,s2,s3⟩:=hs.2 H ds hds
 refine ((henv.pf f cs _ (hE cs hfit)).2 W noPv (fun _ h=>h.elim) hgl args ⟨by simpa using hlen,fun i v c h1 h2=>hrel i v c (by rw[Array.getElem?_toList];exact h1) h2⟩).mono fun e W' ⟨ho,hb⟩=>?_
 obtain⟨u,rfl,hu⟩:=ho
 cases hu
 refine⟨_,rfl,post_below (pa:=p) (pv:=[]) hW' (fun b sp hd=>?_) (fun sp hsp=>?_) (fun sp _=>?_) (List.append_nil p).symm hb (ok_one hr rfl (okWide_bool_mk htb _))⟩
 ·rw[s1,hr]
  exact trodAll_mk1 (shut_bool htb true)
 ·rw[s2]
  exact args_stay hl hb fn.params.toList args.toList ds p hrd hA (fun x hx=>hlt x hx) hsp
 ·rw[hs.1,s3]
  exact rfl
end Go.Sim

namespace Go.Sim
variable [Start]
theorem okFix {P:Program} {env:Env} (h:OkEnv P env) (fix:V→V) (hf:∀ (w:World) (pv:Nat→Prop) (v:Value) (c:V),Rel w pv none_ v c→Rel w pv none_ v (fix c)):OkEnv P ⟨fun g args=>env.pf g (args.map fix),env.hv⟩:=by
 refine⟨?_,h.hv,h.hp⟩
 intro g args out ho
 obtain⟨h1,h2⟩:=h.pf g (args.map fix) out ho
 refine⟨h1,fun w pv hlt hgl vs hvs=>h2 w pv hlt hgl vs ⟨by simpa using hvs.1,fun i v c g1 g2=>?_⟩⟩
 rw[List.getElem?_map] at g2
 obtain⟨c',g3,rfl⟩:=Option.map_eq_some_iff.1 g2
 exact hf _ _ _ _ (hvs.2 i v c' g1 g3)
theorem rel_nil {w:World} {pv:Nat→Prop} {ρ:Nat→Option Info} {v:Value} {wd wd':Nat} {g g':Nat→List V} (h:Rel w pv ρ v (.row true 0 wd g)):Rel w pv ρ v (.row true 0 wd' g'):=by
 cases h
 exact .nilrow
end Go.Sim

namespace Go.Proofs
open Go.Shelf
abbrev Tryz.nPow : String := YtgcaabopnnhoaaaGreatDoor.Rows.leachLogsRow.named.headD "x"
def Tryz.laysM171ren:Go.Shelf.Ren:=⟨fun | 171=>55 | 243=>75 | 246=>86 | 283=>94 | 284=>95 | 285=>96 | 286=>97 | 129=>111 | 317=>110 | 318=>112 | 319=>113 | 320=>114 | 337=>121 | 338=>122 | n=>n,fun | 3=>3 | 9=>9 | 2=>2 | 4=>4 | 171=>157 | 0=>0 | 53=>158 | 37=>37 | 5=>5 | 173=>161 | 212=>175 | 51=>176 | 20=>20 | 213=>177 | 46=>165 | 232=>196 | 233=>197 | n=>n,fun | 17=>1 | 18=>6 | 19=>7 | n=>n⟩
theorem Tryz.laysM171:Go.Proofs.LaysM.n171 Tryz.prog Tryz.laysM171ren:={
 mixed:=by kernel_rfl
 f129:=Tryz.func111.trans (congrArg some (by kernel_rfl))
 f171:=Tryz.func55.trans (congrArg some (by kernel_rfl))
 f243:=Tryz.func75.trans (congrArg some (by kernel_rfl))
 f246:=Tryz.func86.trans (congrArg some (by kernel_rfl))
 f283:=Tryz.func94.trans (congrArg some (by kernel_rfl))
 f284:=Tryz.func95.trans (congrArg some (by kernel_rfl))
 f285:=Tryz.func96.trans (congrArg some (by kernel_rfl))
 f286:=Tryz.func97.trans (congrArg some (by kernel_rfl))
 f317:=Tryz.func110.trans (congrArg some (by kernel_rfl))
 f318:=Tryz.func112.trans (congrArg some (by kernel_rfl))
 f319:=Tryz.func113.trans (congrArg some (by kernel_rfl))
 f320:=Tryz.func114.trans (congrArg some (by kernel_rfl))
 f337:=Tryz.func121.trans (congrArg some (by kernel_rfl))
 f338:=Tryz.func122.trans (congrArg some (by kernel_rfl))
 t0:=Tryz.underlying0
 a0:=Tryz.isAgg0
 z0:=Tryz.sizeOf0
 v0:=Tryz.zeroValue0
 t2:=Tryz.underlying2
 a2:=Tryz.isAgg2
 z2:=Tryz.sizeOf2
 v2:=Tryz.zeroValue2
 t3:=Tryz.underlying3
 a3:=Tryz.isAgg3
 z3:=Tryz.sizeOf3
 v3:=Tryz.zeroValue3
 t4:=Tryz.underlying4
 a4:=Tryz.isAgg4
 z4:=Tryz.sizeOf4
 v4:=Tryz.zeroValue4
 t5:=Tryz.underlying5
 a5:=Tryz.isAgg5
 z5:=Tryz.sizeOf5
 v5:=Tryz.zeroValue5
 t9:=Tryz.underlying9
 a9:=Tryz.isAgg9
 z9:=Tryz.sizeOf9
 v9:=Tryz.zeroValue9
 t20:=Tryz.underlying20
 a20:=Tryz.isAgg20
 z20:=Tryz.sizeOf20
 v20:=Tryz.zeroValue20
 t37:=Tryz.underlying37
 a37:=Tryz.isAgg37
 z37:=Tryz.sizeOf37
 v37:=Tryz.zeroValue37
 t46:=Tryz.underlying165
 a46:=Tryz.isAgg165
 z46:=Tryz.sizeOf165
 v46:=Tryz.zeroValue165
 t51:=Tryz.underlying176
 a51:=Tryz.isAgg176
 z51:=Tryz.sizeOf176
 v51:=Tryz.zeroValue176
 t53:=Tryz.underlying158
 a53:=Tryz.isAgg158
 z53:=Tryz.sizeOf158
 v53:=Tryz.zeroValue158
 t171:=Tryz.underlying157
 a171:=Tryz.isAgg157
 z171:=Tryz.sizeOf157
 v171:=Tryz.zeroValue157
 t173:=Tryz.underlying161
 a173:=Tryz.isAgg161
 z173:=Tryz.sizeOf161
 v173:=Tryz.zeroValue161
 t212:=Tryz.underlying175
 a212:=Tryz.isAgg175
 z212:=Tryz.sizeOf175
 v212:=Tryz.zeroValue175
 t213:=Tryz.underlying177
 a213:=Tryz.isAgg177
 z213:=Tryz.sizeOf177
 t232:=Tryz.underlying196
 a232:=Tryz.isAgg196
 z232:=Tryz.sizeOf196
 v232:=Tryz.zeroValue196
 t233:=Tryz.underlying197
 a233:=Tryz.isAgg197
 z233:=Tryz.sizeOf197
 v233:=Tryz.zeroValue197
 g17:=by kernel_rfl
 g18:=by kernel_rfl
 g19:=by kernel_rfl
 i0:=by kernel_rfl
 i2:=by kernel_rfl
 i3:=by kernel_rfl
 i4:=by kernel_rfl
 i5:=by kernel_rfl
 i9:=by kernel_rfl
 i20:=by kernel_rfl
 i37:=by kernel_rfl
 i46:=by kernel_rfl
 i51:=by kernel_rfl
 i53:=by kernel_rfl
 i171:=by kernel_rfl
 i173:=by kernel_rfl
 i212:=by kernel_rfl
 i232:=by kernel_rfl
 i233:=by kernel_rfl
 m17:=by kernel_rfl
 m18:=by kernel_rfl
 m19:=by kernel_rfl }
open Go.RowKit Go.Sort Go.Lib in
theorem Tryz.strconv_Itoa (n:Int) (h0:-9223372036854775808≤n) (h1:n≤9223372036854775807) (w:World) (htab:Lib.TabIs Tryz.prog w Tryz.nPow .u64 Lib.pow10Tab) :
 Calls Tryz.prog 55 #[.int .i64 n] w fun e w'=>e = .returned (.string ⟨(Lib.itoa n).toArray⟩)∧∃ k os,w'=grow (w.drewN k) os:=Any.strconv_Itoa Tryz.laysM171 n h0 h1 w htab
def Tryz.laysC172ren:Go.Shelf.Ren:=⟨fun | 172=>78 | 244=>91 | 245=>92 | 247=>105 | 279=>106 | 280=>107 | 281=>108 | 282=>109 | 287=>118 | 316=>119 | 171=>55 | 205=>120 | 321=>123 | 322=>124 | 243=>75 | 246=>86 | 283=>94 | 284=>95 | 285=>96 | 286=>97 | 129=>111 | 317=>110 | 318=>112 | 319=>113 | 320=>114 | 337=>121 | 338=>122 | n=>n,fun | 9=>9 | 3=>3 | 75=>118 | 76=>119 | 4=>4 | 5=>5 | 167=>168 | 37=>37 | 0=>0 | 85=>169 | 2=>2 | 168=>171 | 53=>158 | 175=>181 | 46=>165 | 210=>185 | 127=>121 | 145=>195 | 143=>193 | 21=>21 | 171=>157 | 173=>161 | 212=>175 | 51=>176 | 20=>20 | 213=>177 | 232=>196 | 233=>197 | 80=>75 | n=>n,fun | 15=>2 | 16=>3 | 17=>1 | 18=>6 | 19=>7 | n=>n⟩
theorem Tryz.laysC172:Go.Proofs.LaysC.n172 Tryz.prog Tryz.laysC172ren:={
 mixed:=by kernel_rfl
 f129:=Tryz.func111.trans (congrArg some (by kernel_rfl))
 f171:=Tryz.func55.trans (congrArg some (by kernel_rfl))
 f172:=Tryz.func78.trans (congrArg some (by kernel_rfl))
 f205:=Tryz.func120.trans (congrArg some (by kernel_rfl))
 f243:=Tryz.func75.trans (congrArg some (by kernel_rfl))
 f244:=Tryz.func91.trans (congrArg some (by kernel_rfl))
 f245:=Tryz.func92.trans (congrArg some (by kernel_rfl))
 f246:=Tryz.func86.trans (congrArg some (by kernel_rfl))
 f247:=Tryz.func105.trans (congrArg some (by kernel_rfl))
 f279:=Tryz.func106.trans (congrArg some (by kernel_rfl))
 f280:=Tryz.func107.trans (congrArg some (by kernel_rfl))
 f281:=Tryz.func108.trans (congrArg some (by kernel_rfl))
 f282:=Tryz.func109.trans (congrArg some (by kernel_rfl))
 f283:=Tryz.func94.trans (congrArg some (by kernel_rfl))
 f284:=Tryz.func95.trans (congrArg some (by kernel_rfl))
 f285:=Tryz.func96.trans (congrArg some (by kernel_rfl))
 f286:=Tryz.func97.trans (congrArg some (by kernel_rfl))
 f287:=Tryz.func118.trans (congrArg some (by kernel_rfl))
 f316:=Tryz.func119.trans (congrArg some (by kernel_rfl))
 f317:=Tryz.func110.trans (congrArg some (by kernel_rfl))
 f318:=Tryz.func112.trans (congrArg some (by kernel_rfl))
 f319:=Tryz.func113.trans (congrArg some (by kernel_rfl))
 f320:=Tryz.func114.trans (congrArg some (by kernel_rfl))
 f321:=Tryz.func123.trans (congrArg some (by kernel_rfl))
 f322:=Tryz.func124.trans (congrArg some (by kernel_rfl))
 f337:=Tryz.func121.trans (congrArg some (by kernel_rfl))
 f338:=Tryz.func122.trans (congrArg some (by kernel_rfl))
 t0:=Tryz.underlying0
 a0:=Tryz.isAgg0
 z0:=Tryz.sizeOf0
 v0:=Tryz.zeroValue0
 t2:=Tryz.underlying2
 a2:=Tryz.isAgg2
 z2:=Tryz.sizeOf2
 v2:=Tryz.zeroValue2
 t3:=Tryz.underlying3
 a3:=Tryz.isAgg3
 z3:=Tryz.sizeOf3
 v3:=Tryz.zeroValue3
 t4:=Tryz.underlying4
 a4:=Tryz.isAgg4
 z4:=Tryz.sizeOf4
 v4:=Tryz.zeroValue4
 t5:=Tryz.underlying5
 a5:=Tryz.isAgg5
 z5:=Tryz.sizeOf5
 v5:=Tryz.zeroValue5
 t9:=Tryz.underlying9
 a9:=Tryz.isAgg9
 z9:=Tryz.sizeOf9
 v9:=Tryz.zeroValue9
 t20:=Tryz.underlying20
 a20:=Tryz.isAgg20
 z20:=Tryz.sizeOf20
 v20:=Tryz.zeroValue20
 t21:=Tryz.underlying21
 a21:=Tryz.isAgg21
 z21:=Tryz.sizeOf21
 v21:=Tryz.zeroValue21
 t37:=Tryz.underlying37
 a37:=Tryz.isAgg37
 z37:=Tryz.sizeOf37
 v37:=Tryz.zeroValue37
 t46:=Tryz.underlying165
 a46:=Tryz.isAgg165
 z46:=Tryz.sizeOf165
 v46:=Tryz.zeroValue165
 t51:=Tryz.underlying176
 a51:=Tryz.isAgg176
 z51:=Tryz.sizeOf176
 v51:=Tryz.zeroValue176
 t53:=Tryz.underlying158
 a53:=Tryz.isAgg158
 z53:=Tryz.sizeOf158
 v53:=Tryz.zeroValue158
 t75:=Tryz.underlying118
 a75:=Tryz.isAgg118
 z75:=Tryz.sizeOf118
 v75:=Tryz.zeroValue118
 t76:=Tryz.underlying119
 a76:=Tryz.isAgg119
 z76:=Tryz.sizeOf119
 v76:=Tryz.zeroValue119
 t85:=Tryz.underlying169
 a85:=Tryz.isAgg169
 z85:=Tryz.sizeOf169
 v85:=Tryz.zeroValue169
 t127:=Tryz.underlying121
 a127:=Tryz.isAgg121
 z127:=Tryz.sizeOf121
 v127:=Tryz.zeroValue121
 t143:=Tryz.underlying193
 a143:=Tryz.isAgg193
 z143:=Tryz.sizeOf193
 v143:=Tryz.zeroValue193
 t145:=Tryz.underlying195
 a145:=Tryz.isAgg195
 z145:=Tryz.sizeOf195
 v145:=Tryz.zeroValue195
 t167:=Tryz.underlying168
 a167:=Tryz.isAgg168
 z167:=Tryz.sizeOf168
 v167:=Tryz.zeroValue168
 t168:=Tryz.underlying171
 a168:=Tryz.isAgg171
 z168:=Tryz.sizeOf171
 v168:=Tryz.zeroValue171
 t171:=Tryz.underlying157
 a171:=Tryz.isAgg157
 z171:=Tryz.sizeOf157
 v171:=Tryz.zeroValue157
 t173:=Tryz.underlying161
 a173:=Tryz.isAgg161
 z173:=Tryz.sizeOf161
 v173:=Tryz.zeroValue161
 t175:=Tryz.underlying181
 a175:=Tryz.isAgg181
 z175:=Tryz.sizeOf181
 v175:=Tryz.zeroValue181
 t210:=Tryz.underlying185
 a210:=Tryz.isAgg185
 z210:=Tryz.sizeOf185
 v210:=Tryz.zeroValue185
 t212:=Tryz.underlying175
 a212:=Tryz.isAgg175
 z212:=Tryz.sizeOf175
 v212:=Tryz.zeroValue175
 t213:=Tryz.underlying177
 a213:=Tryz.isAgg177
 z213:=Tryz.sizeOf177
 t232:=Tryz.underlying196
 a232:=Tryz.isAgg196
 z232:=Tryz.sizeOf196
 v232:=Tryz.zeroValue196
 t233:=Tryz.underlying197
 a233:=Tryz.isAgg197
 z233:=Tryz.sizeOf197
 v233:=Tryz.zeroValue197
 g15:=by kernel_rfl
 g16:=by kernel_rfl
 g17:=by kernel_rfl
 g18:=by kernel_rfl
 g19:=by kernel_rfl
 t80:=Tryz.underlying75
 a80:=Tryz.isAgg75
 z80:=Tryz.sizeOf75
 v80:=Tryz.zeroValue75
 i0:=by kernel_rfl
 i2:=by kernel_rfl
 i3:=by kernel_rfl
 i4:=by kernel_rfl
 i5:=by kernel_rfl
 i9:=by kernel_rfl
 i20:=by kernel_rfl
 i21:=by kernel_rfl
 i37:=by kernel_rfl
 i46:=by kernel_rfl
 i51:=by kernel_rfl
 i53:=by kernel_rfl
 i75:=by kernel_rfl
 i76:=by kernel_rfl
 i80:=by kernel_rfl
 i85:=by kernel_rfl
 i127:=by kernel_rfl
 i143:=by kernel_rfl
 i145:=by kernel_rfl
 i167:=by kernel_rfl
 i168:=by kernel_rfl
 i171:=by kernel_rfl
 i173:=by kernel_rfl
 i175:=by kernel_rfl
 i210:=by kernel_rfl
 i212:=by kernel_rfl
 i232:=by kernel_rfl
 i233:=by kernel_rfl
 m15:=by kernel_rfl
 m16:=by kernel_rfl
 m17:=by kernel_rfl
 m18:=by kernel_rfl
 m19:=by kernel_rfl
 c0:=by kernel_rfl
 c2:=by kernel_rfl
 c3:=by kernel_rfl
 c4:=by kernel_rfl
 c5:=by kernel_rfl
 c9:=by kernel_rfl
 c20:=by kernel_rfl
 c21:=by kernel_rfl
 c37:=by kernel_rfl
 c46:=by kernel_rfl
 c51:=by kernel_rfl
 c53:=by kernel_rfl
 c75:=by kernel_rfl
 c76:=by kernel_rfl
 c80:=by kernel_rfl
 c85:=by kernel_rfl
 c127:=by kernel_rfl
 c143:=by kernel_rfl
 c145:=by kernel_rfl
 c167:=by kernel_rfl
 c168:=by kernel_rfl
 c171:=by kernel_rfl
 c173:=by kernel_rfl
 c175:=by kernel_rfl
 c210:=by kernel_rfl
 c212:=by kernel_rfl
 c213:=by kernel_rfl
 c232:=by kernel_rfl
 c233:=by kernel_rfl }
open Go.RowKit in
theorem Tryz.strconv_Atoi_ok (s:ByteArray) (hmax:s.size≤9223372036854775806) (v:Int) (h:Lib.atoiAll s.data.toList = .ok v) (w:World) :
 Calls Tryz.prog 78 #[.string s] w fun e w'=>e = .returned (.tuple #[.int .i64 v,.nilIface])∧(w'=w∨∃ t,w'=Lib.bytesWorld w 5 t):=Any.strconv_Atoi_ok Tryz.laysC172 s hmax v h w
open Go.RowKit in
theorem Tryz.strconv_Atoi_syntax_var (s : ByteArray) (hlim : s.size ≤ 281474976710656) (h : Lib.atoiAll s.data.toList = Lib.atoiAll []) (tp : TypeId) (p : Value) (w : World) (hvar : w.var? Tryz.prog "strconv.ErrSyntax" = some #[.iface tp p]) :
 Calls Tryz.prog 78 #[.string s] w fun e w'=>∃ N,e = .returned (.tuple #[.int .i64 0,.iface 171 (.pointer (some ⟨N,0,none⟩))])∧w.heap.size≤N∧w'.heap[N]? = some (.cells #[.string ⟨#[65,116,111,105]⟩,.string s,.iface tp p] 185 (0,0))∧Below w.heap.size w w':=Any.strconv_Atoi_syntax_var Tryz.laysC172 s hlim h tp p w hvar
open Go.RowKit in
theorem Tryz.strconv_Atoi_range_var (s : ByteArray) (hlim : s.size ≤ 281474976710656) (h : Lib.atoiAll s.data.toList = .range) (tp : TypeId) (p : Value) (w : World) (hvar : w.var? Tryz.prog "strconv.ErrRange" = some #[.iface tp p]) :
 Calls Tryz.prog 78 #[.string s] w fun e w'=>∃ N,e = .returned (.tuple #[.int .i64 (Lib.atoiSat s.data.toList),.iface 171 (.pointer (some ⟨N,0,none⟩))])∧w.heap.size≤N∧w'.heap[N]? = some (.cells #[.string ⟨#[65,116,111,105]⟩,.string s,.iface tp p] 185 (0,0))∧Below w.heap.size w w':=Any.strconv_Atoi_range_var Tryz.laysC172 s hlim h tp p w hvar
def Tryz.lays145ren:Go.Shelf.Ren:=⟨fun | 145=>57 | 220=>76 | 219=>87 | 217=>98 | 225=>99 | 224=>100 | 267=>101 | 266=>115 | 314=>116 | n=>n,fun | 9=>9 | 4=>4 | 59=>122 | 3=>3 | 5=>5 | 46=>165 | 146=>179 | 51=>176 | n=>n,fun | 1=>0 | n=>n⟩
theorem Tryz.lays145:Go.Proofs.Lays.n145 Tryz.prog Tryz.lays145ren:={
 mixed:=by kernel_rfl
 f145:=Tryz.func57.trans (congrArg some (by kernel_rfl))
 f217:=Tryz.func98.trans (congrArg some (by kernel_rfl))
 f219:=Tryz.func87.trans (congrArg some (by kernel_rfl))
 f220:=Tryz.func76.trans (congrArg some (by kernel_rfl))
 f224:=Tryz.func100.trans (congrArg some (by kernel_rfl))
 f225:=Tryz.func99.trans (congrArg some (by kernel_rfl))
 f266:=Tryz.func115.trans (congrArg some (by kernel_rfl))
 f267:=Tryz.func101.trans (congrArg some (by kernel_rfl))
 f314:=Tryz.func116.trans (congrArg some (by kernel_rfl))
 t3:=Tryz.underlying3
 a3:=Tryz.isAgg3
 z3:=Tryz.sizeOf3
 v3:=Tryz.zeroValue3
 t4:=Tryz.underlying4
 a4:=Tryz.isAgg4
 z4:=Tryz.sizeOf4
 v4:=Tryz.zeroValue4
 t5:=Tryz.underlying5
 a5:=Tryz.isAgg5
 z5:=Tryz.sizeOf5
 v5:=Tryz.zeroValue5
 t9:=Tryz.underlying9
 a9:=Tryz.isAgg9
 z9:=Tryz.sizeOf9
 v9:=Tryz.zeroValue9
 t46:=Tryz.underlying165
 a46:=Tryz.isAgg165
 z46:=Tryz.sizeOf165
 v46:=Tryz.zeroValue165
 t51:=Tryz.underlying176
 a51:=Tryz.isAgg176
 z51:=Tryz.sizeOf176
 v51:=Tryz.zeroValue176
 t59:=Tryz.underlying122
 a59:=Tryz.isAgg122
 z59:=Tryz.sizeOf122
 v59:=Tryz.zeroValue122
 t146:=Tryz.underlying179
 a146:=Tryz.isAgg179
 z146:=Tryz.sizeOf179
 v146:=Tryz.zeroValue179
 g1:=by kernel_rfl }
open Go.RowKit Go.Lib in
theorem Tryz.strings_Cut (s sep:ByteArray) (m:Int) (w:World) (hs:s.size<4294967281) (hm:w.cell? ⟨0,0,none⟩=some (.int .i64 m)) :
 Calls Tryz.prog 57 #[.string s,.string sep] w fun e w'=>e = .returned (.tuple #[.string ⟨(Lib.cut s.data.toList sep.data.toList).1.toArray⟩,.string ⟨(Lib.cut s.data.toList sep.data.toList).2.1.toArray⟩,.bool (Lib.cut s.data.toList sep.data.toList).2.2])∧∃ n,w'=w.drewN n:=Any.strings_Cut Tryz.lays145 s sep m w hs hm
def Tryz.laysM145ren:Go.Shelf.Ren:=⟨fun | 145=>57 | 220=>76 | 219=>87 | 217=>98 | 225=>99 | 224=>100 | 267=>101 | 266=>115 | 314=>116 | n=>n,fun | 9=>9 | 4=>4 | 59=>122 | 3=>3 | 5=>5 | 46=>165 | 146=>179 | 51=>176 | n=>n,fun | 1=>0 | n=>n⟩
theorem Tryz.laysM145:Go.Proofs.LaysM.n145 Tryz.prog Tryz.laysM145ren:={
 mixed:=by kernel_rfl
 f145:=Tryz.func57.trans (congrArg some (by kernel_rfl))
 f217:=Tryz.func98.trans (congrArg some (by kernel_rfl))
 f219:=Tryz.func87.trans (congrArg some (by kernel_rfl))
 f220:=Tryz.func76.trans (congrArg some (by kernel_rfl))
 f224:=Tryz.func100.trans (congrArg some (by kernel_rfl))
 f225:=Tryz.func99.trans (congrArg some (by kernel_rfl))
 f266:=Tryz.func115.trans (congrArg some (by kernel_rfl))
 f267:=Tryz.func101.trans (congrArg some (by kernel_rfl))
 f314:=Tryz.func116.trans (congrArg some (by kernel_rfl))
 t3:=Tryz.underlying3
 a3:=Tryz.isAgg3
 z3:=Tryz.sizeOf3
 v3:=Tryz.zeroValue3
 t4:=Tryz.underlying4
 a4:=Tryz.isAgg4
 z4:=Tryz.sizeOf4
 v4:=Tryz.zeroValue4
 t5:=Tryz.underlying5
 a5:=Tryz.isAgg5
 z5:=Tryz.sizeOf5
 v5:=Tryz.zeroValue5
 t9:=Tryz.underlying9
 a9:=Tryz.isAgg9
 z9:=Tryz.sizeOf9
 v9:=Tryz.zeroValue9
 t46:=Tryz.underlying165
 a46:=Tryz.isAgg165
 z46:=Tryz.sizeOf165
 v46:=Tryz.zeroValue165
 t51:=Tryz.underlying176
 a51:=Tryz.isAgg176
 z51:=Tryz.sizeOf176
 v51:=Tryz.zeroValue176
 t59:=Tryz.underlying122
 a59:=Tryz.isAgg122
 z59:=Tryz.sizeOf122
 v59:=Tryz.zeroValue122
 t146:=Tryz.underlying179
 a146:=Tryz.isAgg179
 z146:=Tryz.sizeOf179
 v146:=Tryz.zeroValue179
 g1:=by kernel_rfl
 i3:=by kernel_rfl
 i4:=by kernel_rfl
 i5:=by kernel_rfl
 i9:=by kernel_rfl
 i46:=by kernel_rfl
 i51:=by kernel_rfl
 i59:=by kernel_rfl
 i146:=by kernel_rfl
 m1:=by kernel_rfl
 s1_3:=fun w h=>Go.Proofs.cell_of_shapedOpen_int (zero:=#[.int .i64 0]) (t:=3) h (of_decide_eq_true (by kernel_rfl)) (by kernel_rfl) rfl (by kernel_rfl) (by kernel_rfl) Tryz.underlying3 }
def Tryz.lays146ren:Go.Shelf.Ren:=⟨fun | 146=>58 | 221=>77 | 268=>88 | 138=>89 | 143=>90 | 195=>102 | 197=>103 | 218=>104 | 219=>87 | 260=>117 | 217=>98 | 225=>99 | 224=>100 | 267=>101 | 266=>115 | 314=>116 | n=>n,fun | 9=>9 | 31=>88 | 3=>3 | 4=>4 | 0=>0 | 105=>166 | 21=>21 | 5=>5 | 46=>165 | 119=>188 | 139=>191 | 138=>190 | 146=>179 | 51=>176 | n=>n,fun | 1=>0 | 3=>4 | 4=>5 | n=>n⟩
theorem Tryz.lays146:Go.Proofs.Lays.n146 Tryz.prog Tryz.lays146ren:={
 mixed:=by kernel_rfl
 f138:=Tryz.func89.trans (congrArg some (by kernel_rfl))
 f143:=Tryz.func90.trans (congrArg some (by kernel_rfl))
 f146:=Tryz.func58.trans (congrArg some (by kernel_rfl))
 f195:=Tryz.func102.trans (congrArg some (by kernel_rfl))
 f197:=Tryz.func103.trans (congrArg some (by kernel_rfl))
 f217:=Tryz.func98.trans (congrArg some (by kernel_rfl))
 f218:=Tryz.func104.trans (congrArg some (by kernel_rfl))
 f219:=Tryz.func87.trans (congrArg some (by kernel_rfl))
 f221:=Tryz.func77.trans (congrArg some (by kernel_rfl))
 f224:=Tryz.func100.trans (congrArg some (by kernel_rfl))
 f225:=Tryz.func99.trans (congrArg some (by kernel_rfl))
 f260:=Tryz.func117.trans (congrArg some (by kernel_rfl))
 f266:=Tryz.func115.trans (congrArg some (by kernel_rfl))
 f267:=Tryz.func101.trans (congrArg some (by kernel_rfl))
 f268:=Tryz.func88.trans (congrArg some (by kernel_rfl))
 f314:=Tryz.func116.trans (congrArg some (by kernel_rfl))
 t0:=Tryz.underlying0
 a0:=Tryz.isAgg0
 z0:=Tryz.sizeOf0
 v0:=Tryz.zeroValue0
 t3:=Tryz.underlying3
 a3:=Tryz.isAgg3
 z3:=Tryz.sizeOf3
 v3:=Tryz.zeroValue3
 t4:=Tryz.underlying4
 a4:=Tryz.isAgg4
 z4:=Tryz.sizeOf4
 v4:=Tryz.zeroValue4
 t5:=Tryz.underlying5
 a5:=Tryz.isAgg5
 z5:=Tryz.sizeOf5
 v5:=Tryz.zeroValue5
 t9:=Tryz.underlying9
 a9:=Tryz.isAgg9
 z9:=Tryz.sizeOf9
 v9:=Tryz.zeroValue9
 t21:=Tryz.underlying21
 a21:=Tryz.isAgg21
 z21:=Tryz.sizeOf21
 v21:=Tryz.zeroValue21
 t31:=Tryz.underlying88
 a31:=Tryz.isAgg88
 z31:=Tryz.sizeOf88
 v31:=Tryz.zeroValue88
 t46:=Tryz.underlying165
 a46:=Tryz.isAgg165
 z46:=Tryz.sizeOf165
 v46:=Tryz.zeroValue165
 t51:=Tryz.underlying176
 a51:=Tryz.isAgg176
 z51:=Tryz.sizeOf176
 v51:=Tryz.zeroValue176
 t105:=Tryz.underlying166
 a105:=Tryz.isAgg166
 z105:=Tryz.sizeOf166
 v105:=Tryz.zeroValue166
 t119:=Tryz.underlying188
 a119:=Tryz.isAgg188
 z119:=Tryz.sizeOf188
 t138:=Tryz.underlying190
 a138:=Tryz.isAgg190
 z138:=Tryz.sizeOf190
 v138:=Tryz.zeroValue190
 t139:=Tryz.underlying191
 a139:=Tryz.isAgg191
 z139:=Tryz.sizeOf191
 v139:=Tryz.zeroValue191
 t146:=Tryz.underlying179
 a146:=Tryz.isAgg179
 z146:=Tryz.sizeOf179
 v146:=Tryz.zeroValue179
 g1:=by kernel_rfl
 g3:=by kernel_rfl
 g4:=by kernel_rfl }
open Go.RowKit Go.Lib in
theorem Tryz.strings_Split (s sep:ByteArray) (m:Int) (w:World) (hs:s.size<4294967281) (hm:w.cell? ⟨0,0,none⟩=some (.int .i64 m)) (h1:1≤sep.size) :
 Calls Tryz.prog 58 #[.string s,.string sep] w fun e w' =>
  e = .returned (.slice (some ⟨w.heap.size,0,none⟩) (Lib.countB s sep+1) (Lib.countB s sep+1))∧w'=w.alloc (.cells ((Lib.splitB sep 0 (Lib.countB s sep) s).map Value.string).toArray 9):=Any.strings_Split Tryz.lays146 (by kernel_rfl) s sep m w hs hm h1
end Go.Proofs

namespace Go.Sim.Lg
open Go.RowKit
open Go.Proofs
theorem var_glo [Start] {P:Program} {w:World} (h:GloW w) {n:String} {cs:Array Value} (hv:(Start.w).var? P n=some cs):w.var? P n=some cs:=by
 unfold World.var? at hv ⊢
 rw[Option.bind_eq_some_iff] at hv ⊢
 obtain⟨g,hg,h2⟩:=hv
 refine⟨g,hg,?_⟩
 have hlt:g<(Start.w).heap.size:=by
  rcases Nat.lt_or_ge g (Start.w).heap.size with h1 | h1
  ·exact h1
  ·rw[Array.getElem?_eq_none h1] at h2;cases h2
 rw[(h g hlt).2]
 exact h2
theorem cell_glo [Start] {w:World} (h:GloW w) {a:Addr} {v:Value} (hv:(Start.w).cell? a=some v):w.cell? a=some v:=by
 have hlt:a.block<(Start.w).heap.size:=by
  rcases Nat.lt_or_ge a.block (Start.w).heap.size with h1 | h1
  ·exact h1
  ·simp[World.cell?,Array.getElem?_eq_none h1] at hv
 rw[cell_of_block (h a.block hlt).2]
 exact hv
class Vars [Start]:Prop where
 tab:Lib.TabIs Tryz.prog Start.w Tryz.nPow .u64 Lib.pow10Tab
 len:∃ m,(Start.w).cell? ⟨0,0,none⟩=some (.int .i64 m)
 syn : ∃ tp p, (Start.w).var? Tryz.prog "strconv.ErrSyntax" = some #[.iface tp p]
 ran : ∃ tp p, (Start.w).var? Tryz.prog "strconv.ErrRange" = some #[.iface tp p]
variable [Start] [Vars]
theorem below_drewN (w:World) (n:Nat):Below w.heap.size w (w.drewN n):=⟨rfl,rfl,rfl,Nat.le_refl _,fun _ _=>rfl⟩
theorem below_bytes (w:World) (t:TypeId) (s:ByteArray):Below w.heap.size w (Lib.bytesWorld w t s) :=
 ⟨rfl,rfl,rfl,by rw[Lib.bytesWorld_size];omega,fun j hj=>Lib.bytesWorld_at_old w t s j hj⟩
theorem itoa_ok {n:Int} (h1:-9223372036854775808≤n) (h2:n≤9223372036854775807) (w:World) (pv:Nat→Prop) (hg:GloW w) (vs:Array Value) (hvs:RelL w pv none_ vs [.int .i64 n]) :
 Calls Tryz.prog 55 vs w fun e w'=>OutRel w' pv e (.ret (.str ⟨(Lib.itoa n).toArray⟩))∧Below w.heap.size w w':=by
 obtain⟨hl,hr⟩:=hvs
 obtain⟨v,rfl⟩:∃ v,vs = #[v]:=by
  rcases vs with⟨l⟩
  match l,hl with
  |[v],_=>exact⟨v,rfl⟩
 have:=hr 0 v _ rfl rfl
 cases this
 refine (Tryz.strconv_Itoa n h1 h2 w (var_glo hg Vars.tab)).mono ?_
 rintro e w' ⟨rfl,k,os,rfl⟩
 exact⟨⟨_,rfl,.str⟩,⟨rfl,rfl,rfl,by show w.heap.size≤(w.heap ++ os).size;rw[Array.size_append];omega,fun j hj=>by
  show (w.heap ++ os)[j]? = _
  rw[Array.getElem?_append_left hj]⟩⟩
theorem cut_ok {s sep:ByteArray} (h:s.size<4294967281) (w:World) (pv:Nat→Prop) (hg:GloW w) (vs:Array Value) (hvs:RelL w pv none_ vs [.str s,.str sep]) :
 Calls Tryz.prog 57 vs w fun e w'=>OutRel w' pv e (.ret (.tup [.str ⟨(Lib.cut s.data.toList sep.data.toList).1.toArray⟩,.str ⟨(Lib.cut s.data.toList sep.data.toList).2.1.toArray⟩,.bool (Lib.cut s.data.toList sep.data.toList).2.2]))∧Below w.heap.size w w':=by
 obtain⟨hl,hr⟩:=hvs
 obtain⟨v,u,rfl⟩:∃ v u,vs = #[v,u]:=by
  rcases vs with⟨l⟩
  match l,hl with
  |[v,u],_=>exact⟨v,u,rfl⟩
 have hv:=hr 0 v _ rfl rfl
 have hu:=hr 1 u _ rfl rfl
 cases hv;cases hu
 obtain⟨m,hm⟩:=Vars.len
 refine (Tryz.strings_Cut s sep m w h (cell_glo hg hm)).mono ?_
 rintro e w' ⟨rfl,n,rfl⟩
 refine⟨⟨_,rfl,.tup rfl fun i x c g1 g2=>?_⟩,below_drewN w n⟩
 match i,g1,g2 with
 |0,g1,g2=>cases g1;cases g2;exact .str
 |1,g1,g2=>cases g1;cases g2;exact .str
 |2,g1,g2=>cases g1;cases g2;exact .bool
def atoiV (s:ByteArray):V:=match Lib.atoiAll s.data.toList with
 |.ok v=>.tup [.int .i64 v,.nili]
 |.range=>.tup [.int .i64 (Lib.atoiSat s.data.toList),.iface 171 .top]
 |_=>.tup [.int .i64 0,.iface 171 .top]
theorem atoi_ok {s:ByteArray} (h:s.size≤281474976710656) (w:World) (pv:Nat→Prop) (hg:GloW w) (vs:Array Value) (hvs:RelL w pv none_ vs [.str s]) :
 Calls Tryz.prog 78 vs w fun e w'=>OutRel w' pv e (.ret (atoiV s))∧Below w.heap.size w w':=by
 obtain⟨hl,hr⟩:=hvs
 obtain⟨v,rfl⟩:∃ v,vs = #[v]:=by
  rcases vs with⟨l⟩
  match l,hl with
  |[v],_=>exact⟨v,rfl⟩
 have hv:=hr 0 v _ rfl rfl
 cases hv
 unfold atoiV
 cases hx:Lib.atoiAll s.data.toList with
 |ok n =>
  refine (Tryz.strconv_Atoi_ok s (by omega) n hx w).mono ?_
  rintro e w' ⟨rfl,h⟩
  refine⟨⟨_,rfl,.tup rfl fun i x c g1 g2=>?_⟩,?_⟩
  ·match i,g1,g2 with
   |0,g1,g2=>cases g1;cases g2;exact .int
   |1,g1,g2=>cases g1;cases g2;exact .nili
  ·rcases h with rfl | ⟨t,rfl⟩
   ·exact Below.refl _ _
   ·exact below_bytes w 5 t
 |range =>
  obtain⟨tp,p,hp⟩:=Vars.ran
  refine (Tryz.strconv_Atoi_range_var s h hx tp p w (var_glo hg hp)).mono ?_
  rintro e w' ⟨N,rfl,_,_,hb⟩
  refine⟨⟨_,rfl,.tup rfl fun i x c g1 g2=>?_⟩,hb⟩
  match i,g1,g2 with
  |0,g1,g2=>cases g1;cases g2;exact .int
  |1,g1,g2=>cases g1;cases g2;exact .iface .top
 |_ =>
  obtain⟨tp,p,hp⟩:=Vars.syn
  refine (Tryz.strconv_Atoi_syntax_var s h hx tp p w (var_glo hg hp)).mono ?_
  rintro e w' ⟨N,rfl,_,_,hb⟩
  refine⟨⟨_,rfl,.tup rfl fun i x c g1 g2=>?_⟩,hb⟩
  match i,g1,g2 with
  |0,g1,g2=>cases g1;cases g2;exact .int
  |1,g1,g2=>cases g1;cases g2;exact .iface .top
end Go.Sim.Lg

namespace Go.Sim.Lg
open Go.RowKit
open Go.Proofs
variable [Start] [Vars]
def parts (s sep:ByteArray):List ByteArray:=Lib.splitB sep 0 (Lib.countB s sep) s
theorem parts_len {s sep:ByteArray} (h1:1≤sep.size):(parts s sep).length=Lib.countB s sep+1:=Lib.splitB_all sep h1 0 _ s rfl
theorem split_ok {s sep:ByteArray} (h:s.size<4294967281) (hp:1≤sep.size) (w:World) (pv:Nat→Prop) (hlt:∀ r,pv r→r<w.heap.size) (hg:GloW w) (vs:Array Value) (hvs:RelL w pv none_ vs [.str s,.str sep]) :
 Calls Tryz.prog 58 vs w fun e w'=>OutRel w' pv e (.ret (.row false (Lib.countB s sep+1) 1 fun i=>[.str ((parts s sep).getD i default)]))∧Below w.heap.size w w':=by
 obtain⟨hl,hr⟩:=hvs
 obtain⟨v,u,rfl⟩:∃ v u,vs = #[v,u]:=by
  rcases vs with⟨l⟩
  match l,hl with
  |[v,u],_=>exact⟨v,u,rfl⟩
 have hv:=hr 0 v _ rfl rfl
 have hu:=hr 1 u _ rfl rfl
 cases hv;cases hu
 obtain⟨m,hm⟩:=Vars.len
 refine (Tryz.strings_Split s sep m w h (cell_glo hg hm) hp).mono ?_
 rintro e w' ⟨rfl,rfl⟩
 have hlen:=parts_len (s:=s) hp
 have hat:(w.alloc (Obj.cells (List.map Value.string (parts s sep)).toArray 9)).heap[w.heap.size]? = some (Obj.cells (List.map Value.string (parts s sep)).toArray 9 (0,0)):=by
  show (w.heap.push _)[w.heap.size]? = _
  rw[Array.getElem?_push_size]
 refine⟨⟨_,rfl,?_⟩,(Below.refl _ w).alloc (Nat.le_refl _) _⟩
 refine .row (fun i _=>.string ((parts s sep).getD i default)) (Nat.le_refl _) (fun _=>⟨?_,fun hpv=>absurd (hlt _ hpv) (Nat.lt_irrefl _)⟩) (fun _ _=>rfl) (fun i j hi hj=>?_) (fun i j c hi hc=>?_) (fun i j c hi hc=>?_)
 ·exact lt_of_block hat
 ·obtain rfl:j=0:=by omega
  show World.cell? _ _=_
  have:(parts s sep)[i]? = some ((parts s sep).getD i default):=by
   rw[List.getD_eq_getElem?_getD,List.getElem?_eq_getElem (by omega)];rfl
  have e1:({ block:=w.heap.size,off:=0 }:Addr).add (i*1+0)=⟨w.heap.size,i,none⟩:=by simp[Addr.add];omega
  rw[e1]
  have e2:(w.alloc (Obj.cells (List.map Value.string (parts s sep)).toArray 9)).cell? ⟨w.heap.size,i,none⟩=(List.map Value.string (parts s sep)).toArray[i]?:=by
   unfold World.cell?
   rw[hat]
   rfl
  refine e2.trans ?_
  rw[List.getElem?_toArray,List.getElem?_map,this,Option.map_some]
 ·match j,hc with
  |0,hc=>cases hc;exact .str
 ·match j,hc with
  |0,hc=>cases hc;rfl
end Go.Sim.Lg

namespace Go.Sim
noncomputable def over (o:Nat→List V→Option Out) (env:Env):Env:=⟨fun g args=>match o g args with | some x=>some x | none=>env.pf g args,env.hv⟩
theorem okOver [Start] {P:Program} {o:Nat→List V→Option Out} (ho:OkPf P o) {env:Env} (h:OkEnv P env):OkEnv P (over o env):=by
 refine⟨fun g args out hx=>?_,h.hv,h.hp⟩
 have hx':(match o g args with | some x=>some x | none=>env.pf g args)=some out:=hx
 cases hy:o g args with
 |none=>rw[hy] at hx';exact h.pf g args out hx'
 |some y=>rw[hy] at hx';cases hx';exact ho g args _ hy
noncomputable def envO (P:Program) (C:Nat→Cfg) (o:Nat→List V→Option Out):Nat→Env
 |0=>over o ⟨fun _ _=>none,fun _ _ _=>none⟩
 |d+1=>over o ⟨fun f args=>evFun P C (envO P C o d) f args,fun f args hp=>evFunH P C (envO P C o d) f args hp⟩
theorem envO_ok [Start] {P:Program} {C:Nat→Cfg} (hC:OkCfg P C) (hnm:OkNames P) {o:Nat→List V→Option Out} (ho:OkPf P o):∀ d,OkEnv P (envO P C o d):=by
 intro d
 induction d with
 |zero=>exact okOver ho ⟨fun g args out h=>(by cases h),fun g args hp v hp' h=>(by cases h),fun g args hp v hp' h=>(by cases h)⟩
 |succ d ih=>exact okOver ho (okEv hC hnm ih)
end Go.Sim
namespace Go.Sim.Lg
open Go.RowKit
open Go.Proofs
noncomputable def orc (g:Nat) (args:List V):Option Out:=match args with
 |[.int .i64 n]=>if g=55∧-9223372036854775808≤n∧n≤9223372036854775807 then some (.ret (.str ⟨(Lib.itoa n).toArray⟩)) else none
 |[.str s]=>if g=78∧s.size≤281474976710656 then some (.ret (atoiV s)) else none
 |[.str s,.str sep] =>
  if g=57∧s.size<4294967281 then some (.ret (.tup [.str ⟨(Lib.cut s.data.toList sep.data.toList).1.toArray⟩,.str ⟨(Lib.cut s.data.toList sep.data.toList).2.1.toArray⟩,.bool (Lib.cut s.data.toList sep.data.toList).2.2]))
  else if g=58∧s.size<4294967281∧1≤sep.size then some (.ret (.row false (Lib.countB s sep+1) 1 fun i=>[.str ((parts s sep).getD i default)]))
  else none
 |_=>none
noncomputable def bodyB (g : Nat) : Bool := match Tryz.prog.funcs[g]? with | some fn => !(fn.name == "runtime.NumGoroutine") && fn.body.isSome | none => false
theorem body_of {g : Nat} (h : bodyB g = true) : ∃ fn c, Tryz.prog.funcs[g]? = some fn ∧ (fn.name == "runtime.NumGoroutine") = false ∧ fn.body = some c := by
 unfold bodyB at h
 split at h
 ·rename_i fn hfn
  rw[Bool.and_eq_true,Option.isSome_iff_exists] at h
  obtain⟨h1,c,h2⟩:=h
  exact⟨fn,c,hfn,by simpa using h1,h2⟩
 ·cases h
theorem orc_ok [Start] [Vars]:OkPf Tryz.prog orc:=by
 intro g args out h
 unfold orc at h
 split at h
 ·split at h
  ·rename_i hc
   obtain⟨rfl,h1,h2⟩:=hc
   cases h
   exact⟨body_of (by kernel_rfl),fun w pv _ hg vs hvs=>itoa_ok h1 h2 w pv hg vs hvs⟩
  ·cases h
 ·split at h
  ·rename_i hc
   obtain⟨rfl,h1⟩:=hc
   cases h
   exact⟨body_of (by kernel_rfl),fun w pv _ hg vs hvs=>atoi_ok h1 w pv hg vs hvs⟩
  ·cases h
 ·split at h
  ·rename_i hc
   obtain⟨rfl,h1⟩:=hc
   cases h
   exact⟨body_of (by kernel_rfl),fun w pv _ hg vs hvs=>cut_ok h1 w pv hg vs hvs⟩
  ·split at h
   ·rename_i hc
    obtain⟨rfl,h1,h2⟩:=hc
    cases h
    exact⟨body_of (by kernel_rfl),fun w pv hlt hg vs hvs=>split_ok h1 h2 w pv hlt hg vs hvs⟩
   ·cases h
 ·cases h
end Go.Sim.Lg

namespace Go.Sim.Lg
open Go
theorem digitVal_dig {d:Nat} (h:d<10):Lib.digitVal (UInt8.ofNat (48+d))=some d:=by
 have:d=0∨d=1∨d=2∨d=3∨d=4∨d=5∨d=6∨d=7∨d=8∨d=9:=by omega
 rcases this with rfl | rfl | rfl | rfl | rfl | rfl | rfl | rfl | rfl | rfl<;>decide
theorem decFrom_app (a b:List UInt8):∀ (acc:Nat),Lib.decFrom acc (a ++ b)=(Lib.decFrom acc a).bind fun n=>Lib.decFrom n b:=by
 induction a with
 |nil=>intro acc;rfl
 |cons c a ih =>
  intro acc
  simp only[List.cons_append,Lib.decFrom]
  cases Lib.digitVal c with
  |none=>rfl
  |some d=>exact ih _
theorem decFrom_dec (n:Nat):Lib.decFrom 0 (Lib.decDigits n)=some n:=by
 induction n using Nat.strongRecOn with
 |_ n ih =>
  unfold Lib.decDigits
  split
  ·rename_i h
   simp only[Lib.decFrom,digitVal_dig h,Nat.zero_mul,Nat.zero_add]
  ·rename_i h
   rw[decFrom_app,ih (n / 10) (by omega)]
   simp only[Option.bind_some,Lib.decFrom,digitVal_dig (Nat.mod_lt n (by omega:10>0))]
   congr 1
   omega
theorem dec_ne (n:Nat):Lib.decDigits n ≠ []:=by
 unfold Lib.decDigits
 split<;>simp
theorem dig_ne {d:Nat} (h:d<10):(UInt8.ofNat (48+d)==45)=false∧(UInt8.ofNat (48+d)==43)=false:=by
 have:d=0∨d=1∨d=2∨d=3∨d=4∨d=5∨d=6∨d=7∨d=8∨d=9:=by omega
 rcases this with rfl | rfl | rfl | rfl | rfl | rfl | rfl | rfl | rfl | rfl<;>decide
theorem dec_head (n:Nat):∃ d r,d<10∧Lib.decDigits n=UInt8.ofNat (48+d) :: r:=by
 induction n using Nat.strongRecOn with
 |_ n ih =>
  unfold Lib.decDigits
  split
  ·rename_i h
   exact⟨n,[],h,rfl⟩
  ·obtain⟨d,r,h1,h2⟩:=ih (n / 10) (by omega)
   exact⟨d,r ++ [UInt8.ofNat (48+n % 10)],h1,by rw[h2];rfl⟩
theorem atoi_dec (n:Nat):Lib.atoi (Lib.decDigits n)=some (n:Int):=by
 obtain⟨d,r,hd,hx⟩:=dec_head n
 have hf:=decFrom_dec n
 rw[hx] at hf ⊢
 simp only[Lib.atoi,(dig_ne hd).1,(dig_ne hd).2,Bool.false_eq_true,if_false,Lib.decNat,List.isEmpty_cons,hf,Option.map_some]
theorem atoiAll_dec {n:Nat} (h:(Lib.decDigits n).length≤18):Lib.atoiAll (Lib.decDigits n) = .ok (n:Int):=by
 rw[Lib.atoiAll_short _ h,atoi_dec]
 rfl
end Go.Sim.Lg

namespace Go.Sim.Lg
open Go
def IsNum (w:List UInt8) (n:Nat):Prop:=w=Lib.decDigits n∧w.length≤14
theorem num_prog (w:List UInt8) (n:Int):(Lib.atoiAll w = .ok n∧0≤n∧w.length≤14∧Lib.itoa n=w)↔∃ m:Nat,n=m∧IsNum w m:=by
 constructor
 ·rintro⟨_,h2,h3,h4⟩
  obtain⟨m,rfl⟩:∃ m:Nat,n=m:=⟨n.toNat,by omega⟩
  exact⟨m,rfl,by rw[← h4,Lib.itoa_nonneg],h3⟩
 ·rintro⟨m,rfl,h1,h2⟩
  subst h1
  exact⟨atoiAll_dec (by omega),by omega,h2,Lib.itoa_nonneg m⟩
theorem num_spec (w:List UInt8) (n:Nat):(w ≠ []∧w.length≤14∧Lib.decFrom 0 w=some n∧Lib.decDigits n=w)↔IsNum w n:=by
 constructor
 ·rintro⟨_,h2,_,h4⟩
  exact⟨h4.symm,h2⟩
 ·rintro⟨h1,h2⟩
  subst h1
  exact⟨dec_ne n,h2,decFrom_dec n,rfl⟩
theorem num_inj {w:List UInt8} {n m:Nat} (h1:IsNum w n) (h2:IsNum w m):n=m:=by
 have e1:=decFrom_dec n
 rw[← h1.1,h2.1,decFrom_dec] at e1
 cases e1;rfl
theorem dig_val {d:Nat} (h:d<10):(UInt8.ofNat (48+d)).toNat=48+d:=by
 have:d=0∨d=1∨d=2∨d=3∨d=4∨d=5∨d=6∨d=7∨d=8∨d=9:=by omega
 rcases this with rfl | rfl | rfl | rfl | rfl | rfl | rfl | rfl | rfl | rfl<;>decide
theorem dec_digits (n:Nat):∀ b ∈ Lib.decDigits n,48≤b.toNat∧b.toNat≤57:=by
 induction n using Nat.strongRecOn with
 |_ n ih =>
  unfold Lib.decDigits
  split
  ·rename_i h
   intro b hb
   rw[List.mem_singleton] at hb
   subst hb
   rw[dig_val h]
   omega
  ·intro b hb
   rcases List.mem_append.1 hb with h1 | h1
   ·exact ih _ (by omega) b h1
   ·rw[List.mem_singleton] at h1
    subst h1
    rw[dig_val (by omega)]
    omega
theorem dec_lt (n k:Nat) (h:(Lib.decDigits n).length≤k):n<10 ^ k:=by
 induction k generalizing n with
 |zero =>
  have:=dec_ne n
  cases hx:Lib.decDigits n with
  |nil=>exact absurd hx this
  |cons a l=>rw[hx] at h;simp at h
 |succ k ih =>
  unfold Lib.decDigits at h
  split at h
  ·rename_i hn
   have:10 ^ 1≤10 ^ (k+1):=Nat.pow_le_pow_right (by omega) (by omega)
   omega
  ·rw[List.length_append] at h
   have:=ih (n / 10) (by simp at h;omega)
   rw[Nat.pow_succ]
   omega
theorem dec_len (n k:Nat) (hk:0<k) (h:n<10 ^ k):(Lib.decDigits n).length≤k:=by
 induction k generalizing n with
 |zero=>omega
 |succ k ih =>
  unfold Lib.decDigits
  split
  ·simp
  ·rename_i hn
   rw[List.length_append]
   rcases Nat.eq_zero_or_pos k with rfl | hk'
   ·omega
   ·have:=ih (n / 10) hk' (by rw[Nat.pow_succ] at h;omega)
    simp
    omega
end Go.Sim.Lg

namespace Go.Sim.Lg
open Go.RowKit
open Go.Proofs
theorem append_keeps {P:Program} (w:World) (t u ty e:TypeId) (i:TypeInfo) (ht:P.underlying t=some (.slice e)) (hu:P.underlying u=some .string) (hi:P.info? e=some i) (hz:i.zero=some (.int .u8 0))
 (hsize:i.size=1) (hby:i.bytes=1) (v:Value) (n:Nat) (xs:List Value) (hown:w.ownsRow 0 e 1 v n xs) (s:ByteArray) (h63:n+s.size≤maxLen) (hbytes:n+s.size≤140737488355328) :
 ∃ v' w',(Builtin.append_ #[t,u] ty #[v,.string s]).run P w = .ok v' w'∧w'.ownsRow 0 e 1 v' (n+s.size) (xs ++ Lib.strCells s)∧w.grownBy w' v.ownBlock ∧
  (∀ (r:Nat) (cs:Array Value) (e0:TypeId) (fz:Nat × Nat),w.heap[r]? = some (.cells cs e0 fz)→∃ cs':Array Value,w'.heap[r]? = some (.cells cs' e0 fz)∧cs'.size=cs.size)∧(∀ g,v'.ownBlock=some g→v.ownBlock=some g∨w.heap.size≤g):=by
 obtain⟨v',w',hr,h2,h3,h4⟩:=Lib.run_append_own_string (P:=P) w 0 t u ty e i ht hu hi hz hsize hby v n xs hown s h63 hbytes (Nat.zero_le _)
 have hold:∀ (r:Nat) (cs:Array Value) (e0:TypeId) (fz:Nat × Nat),w.heap[r]? = some (.cells cs e0 fz)→some r ≠ v.ownBlock→∃ cs':Array Value,w'.heap[r]? = some (.cells cs' e0 fz)∧cs'.size=cs.size:=fun r cs e0 fz hc hne =>
  ⟨cs,by rw[h3.block r (Array.getElem?_eq_some_iff.1 hc).1 hne];exact hc,rfl⟩
 rcases hown.2 with⟨rfl,hn0⟩ | ⟨g,cap,cur,rfl,hbg,hg,hnc,hcm,hcs,htake⟩
 ·obtain⟨v2,w2,hr2,g2,_,_⟩:=Lib.run_append_own_string (P:=P) w w.heap.size t u ty e i ht hu hi hz hsize hby (.slice none 0 0) n xs ⟨hown.1,.inl ⟨rfl,hn0⟩⟩ s h63 hbytes (Nat.le_refl _)
  rw[hr] at hr2
  cases hr2
  exact⟨v',w',hr,h2,h3,fun r cs e0 fz hc=>hold r cs e0 fz hc (by simp[Value.ownBlock]),fun g hg=>.inr (g2.lt g hg).1⟩
 ·refine⟨v',w',hr,h2,h3,?_⟩
  have hcs':cur.size=cap:=by simpa using hcs
  by_cases hroom:n+s.size≤cap
  ·have hr2:=Lib.run_append_room_string (P:=P) w t u ty e i ht hu hi hsize g n cap cur hg s hroom (by omega)
   rw[hr] at hr2
   cases hr2
   refine⟨fun r cs e0 fz hc=>?_,fun g' hg'=>.inl hg'⟩
   by_cases hrg:r=g
   ·subst hrg
    rw[hg] at hc
    cases hc
    refine⟨_,setRow_heap w r cur _ e _ hg,?_⟩
    simp only[List.size_toArray,List.length_append,List.length_take,List.length_drop,Array.length_toList,Lib.strCells_length]
    omega
   ·exact hold r cs e0 fz hc (by simp[Value.ownBlock,hrg])
  ·have hxl:xs.length=n:=by simpa using hown.1
   have holds:∀ j u,xs[j]? = some u→w.cell? ((⟨g,0,none⟩:Addr).add j)=some u:=hown.cells (g:=g) rfl
   have hr2:=Lib.run_append_grow_string (P:=P) w t u ty e i (.int .u8 0) ht hu hi hz ⟨g,0,none⟩ n cap xs (by rw[hsize];simpa using hxl) holds s (by omega) (by simp only[maxLen] at h63;omega) (by rw[hby];exact growslice_fits (by omega) (by omega))
   rw[hr] at hr2
   cases hr2
   refine⟨fun r cs e0 fz hc=>⟨cs,(heap_alloc_old w.drew _ (r:=r) (Array.getElem?_eq_some_iff.1 hc).1).trans hc,rfl⟩,fun g' hg'=>?_⟩
   simp only[Value.ownBlock,Option.some.injEq] at hg'
   right;omega
theorem wpList_append_eq {P:Program} {w:World} {ops:Array Oper} {rest:List Oper} {o:Oper} {a:Act} {Q:Exit→Act→World→Prop} (hgd:o.guard=none) (sl x:Operand) (t u:TypeId)
 (ho:o.op = .call { callee:=.builtin .append,args:=#[sl,x],argTypes:=#[t,u] }) (v:Value) (s:ByteArray) (hs:a.eval sl=v) (hx:a.eval x = .string s) {v':Value} {w':World}
 (hr:(Builtin.append_ #[t,u] o.type #[v,.string s]).run P w = .ok v' w') (h:wpList P ops Q rest (a.put o.dst v') w'):wpList P ops Q (o :: rest) a w:=by
 refine wpList_plain hgd fun K hK=>?_
 unfold Oper.wp execOp
 simp only[ho,resolve,invoke,builtin,Sem.run_bind,Sem.run_pure,Result.andThen_ok,List.map_toArray,List.map_cons,List.map_nil,hs,hx,hr]
 exact hK _ _ h
structure WsPost (w:World) (b:Nat) (v sum:Value) (n:Nat) (xs:List Value) (s:ByteArray) (w':World):Prop where
 os:w'.os=w.os
 tape:w'.tape=w.tape
 output:w'.output=w.output
 size:w.heap.size≤w'.heap.size
 box:∃ v',w'.heap[b]? = some (.cells #[.pointer (some ⟨b,0,none⟩),v',sum] 71 (0,0))∧w'.ownsRow 0 5 1 v' (n+s.size) (xs ++ Lib.strCells s)∧v'.ownBlock ≠ some b∧(∀ g,v'.ownBlock=some g→v.ownBlock=some g∨w.heap.size≤g)
 block:∀ k,k<w.heap.size→k ≠ b→v.ownBlock ≠ some k→w'.heap[k]? = w.heap[k]?
 cells:∀ (r:Nat) (cs:Array Value) (e0:TypeId) (fz:Nat × Nat),w.heap[r]? = some (.cells cs e0 fz)→∃ cs':Array Value,w'.heap[r]? = some (.cells cs' e0 fz)∧cs'.size=cs.size
set_option maxHeartbeats 1000000 in
set_option maxRecDepth 100000 in
theorem cc_used (b:Nat) (w:World) (h0:w.cell? ⟨b,0,none⟩=some (.pointer (some ⟨b,0,none⟩))) :
 Calls Tryz.prog 74 #[.pointer (some ⟨b,0,none⟩)] w fun e w'=>e = .returned (.tuple #[])∧w'=w:=by
 obtain⟨j,hj,_⟩:=Option.map_eq_some_iff.1 (show (Tryz.prog.info? 69).map (·.size)=some 2 by kernel_rfl)
 go_enter Tryz.func74,Tryz.ntmps74
 go_wp2
 rw[Lib.run_neq_ptr_same w _ Tryz.underlying67 hj]
 go_wp2
 go_end0
 exact⟨rfl,rfl⟩
set_option maxHeartbeats 1000000 in
set_option maxRecDepth 100000 in
theorem cc_fresh (b:Nat) (w:World) (h0:w.cell? ⟨b,0,none⟩=some (.pointer none)) (hsh:w.shape? b=some (71,3)) (hfz:w.frozen? ⟨b,0,none⟩=false) :
 Calls Tryz.prog 74 #[.pointer (some ⟨b,0,none⟩)] w fun e w'=>e = .returned (.tuple #[])∧w'=w.setCell ⟨b,0,none⟩ (.pointer (some ⟨b,0,none⟩)):=by
 obtain⟨j,hj,hjs⟩:=Option.map_eq_some_iff.1 (show (Tryz.prog.info? 69).map (·.size)=some 2 by kernel_rfl)
 go_enter Tryz.func74,Tryz.ntmps74
 go_wp2
 rw[Lib.run_to_unsafe w ⟨b,0,none⟩ Tryz.underlying67 Tryz.underlying150 hj (by rw[hjs];decide) hsh (Nat.zero_lt_succ 2)]
 simp only[Result.andThen]
 rw[Oper.upon_value]
 go_wp2
 rw[run_callFunc_extern Tryz.func85 (by kernel_rfl) (by kernel_rfl) (by kernel_rfl) (e:=Extern.AbiNoEscape.same) (by kernel_rfl)]
 rw[Lib.run_noEscape]
 simp only[Result.andThen]
 rw[Oper.upon_value]
 go_wp2
 rw[Lib.run_from_unsafe w ⟨b,0,none⟩ Tryz.underlying150 Tryz.underlying67 hj hsh (by kernel_rfl)]
 simp only[Result.andThen]
 rw[Oper.upon_value]
 go_wp2
 go_end0
 exact⟨rfl,rfl⟩
theorem cc_log (b:Nat) (w:World) (addr v sum:Value) (hbk:w.heap[b]? = some (.cells #[addr,v,sum] 71 (0,0))) (ha:addr = .pointer none∨addr = .pointer (some ⟨b,0,none⟩)) :
 Calls Tryz.prog 74 #[.pointer (some ⟨b,0,none⟩)] w fun e w'=>e = .returned (.tuple #[])∧w'=w.setRow b #[.pointer (some ⟨b,0,none⟩),v,sum]:=by
 have c0:w.cell? ⟨b,0,none⟩=some addr:=by rw[Lib.cell_of_heap hbk];rfl
 rcases ha with rfl | rfl
 ·refine (cc_fresh b w c0 (by simp[World.shape?,hbk]) (by simp[World.frozen?,hbk])).mono ?_
  rintro e w' ⟨rfl,rfl⟩
  exact⟨rfl,setCell_eq_setRow w b 0 _ 71 (0,0) _ hbk⟩
 ·refine (cc_used b w c0).mono ?_
  rintro e w' ⟨he,hw⟩
  exact⟨he,hw.trans (setRow_self w b _ 71 (0,0) hbk).symm⟩
set_option maxHeartbeats 2000000 in
set_option maxRecDepth 100000 in
theorem ws_ok (b:Nat) (w:World) (addr v sum:Value) (n:Nat) (xs:List Value) (s:ByteArray) (hbk:w.heap[b]? = some (.cells #[addr,v,sum] 71 (0,0))) (ha:addr = .pointer none∨addr = .pointer (some ⟨b,0,none⟩))
 (hown:w.ownsRow 0 5 1 v n xs) (hne:v.ownBlock ≠ some b) (hlen:n+s.size≤140737488355328) :
 Calls Tryz.prog 54 #[.pointer (some ⟨b,0,none⟩),.string s] w fun e w'=>e = .returned (.tuple #[.int .i64 s.size,.nilIface])∧WsPost w b v sum n xs s w':=by
 obtain⟨i0,hi,hz0,hz1,hz2⟩:=info_parts (show (Tryz.prog.info? 5).map (fun i=>(i.zero,i.size,i.bytes))=some (some (.int .u8 0),1,1) by kernel_rfl)
 have hlt:b<w.heap.size:=(Array.getElem?_eq_some_iff.1 hbk).1
 have hb1:(w.setRow b #[.pointer (some ⟨b,0,none⟩),v,sum]).heap[b]? = some (.cells #[.pointer (some ⟨b,0,none⟩),v,sum] 71 (0,0)):=setRow_heap w b _ _ _ _ hbk
 have ho1:∀ k,k ≠ b→(w.setRow b #[.pointer (some ⟨b,0,none⟩),v,sum]).heap[k]? = w.heap[k]?:=fun k hk=>Go.setRow_other w b k _ hk
 have hs1:(w.setRow b #[.pointer (some ⟨b,0,none⟩),v,sum]).heap.size=w.heap.size:=by unfold World.setRow;simp
 have hown1:(w.setRow b #[.pointer (some ⟨b,0,none⟩),v,sum]).ownsRow 0 5 1 v n xs:=by
  refine⟨hown.1,?_⟩
  rcases hown.2 with h | ⟨g,cap,cur,rfl,h1,h2,h3⟩
  ·exact .inl h
  ·exact .inr ⟨g,cap,cur,rfl,h1,(ho1 g (fun e=>hne (by simp[Value.ownBlock,e]))).trans h2,h3⟩
 have hc1:∀ (r:Nat) (cs:Array Value) (e0:TypeId) (fz:Nat × Nat),w.heap[r]? = some (.cells cs e0 fz)→∃ cs':Array Value,(w.setRow b #[.pointer (some ⟨b,0,none⟩),v,sum]).heap[r]? = some (.cells cs' e0 fz)∧cs'.size=cs.size:=by
  intro r cs e0 fz hc
  by_cases hr:r=b
  ·subst hr
   rw[hbk] at hc
   cases hc
   exact⟨_,hb1,rfl⟩
  ·exact⟨cs,(ho1 r hr).trans hc,rfl⟩
 generalize hw1:w.setRow b #[.pointer (some ⟨b,0,none⟩),v,sum]=w1 at *
 have c1:w1.cell? ⟨b,1,none⟩=some v:=by rw[Lib.cell_of_heap hb1];rfl
 obtain⟨v',w2,hr,h2,h3,h4,h5⟩:=append_keeps (P:=Tryz.prog) w1 37 9 37 5 i0 Tryz.underlying37 Tryz.underlying9 hi hz0 hz1 hz2 v n xs hown1 s (by unfold maxLen;omega) hlen
 have hb2:w2.heap[b]? = some (.cells #[.pointer (some ⟨b,0,none⟩),v,sum] 71 (0,0)):=by
  rw[h3.block b (by omega) (fun e=>hne e.symm)]
  exact hb1
 have f1:w2.frozen? ⟨b,1,none⟩=false:=Lib.frozen_of_heap hb2 1
 have d1:w2.cell? ⟨b,1,none⟩=some v:=by rw[Lib.cell_of_heap hb2];rfl
 have ht:w1.tape=w.tape∧w1.os=w.os∧w1.output=w.output:=by rw[← hw1];exact⟨rfl,rfl,rfl⟩
 obtain⟨ao,n',cap',rfl⟩:∃ ao n' cap,v' = .slice ao n' cap:=by
  rcases h2.2 with⟨hv,_⟩ | ⟨g,cap,cur,hv,_⟩
  ·exact⟨_,_,_,hv⟩
  ·exact⟨_,_,_,hv⟩
 go_enter Tryz.func54,Tryz.ntmps54
 go_wp2_with (go_at_call 74;refine (cc_log b _ addr v sum hbk ha).mono ?_)
 rintro e w1' ⟨rfl,rfl⟩
 rw[hw1]
 go_wp2_with (at_builtin;refine wpList_append_eq rfl _ _ 37 9 rfl v s rfl rfl hr ?_)
 go_wp2
 go_ret2
 have ht2:=ht
 have hw2:(w2.setCell ⟨b,1,none⟩ (.slice ao n' cap'))=w2.setRow b #[.pointer (some ⟨b,0,none⟩),.slice ao n' cap',sum]:=setCell_eq_setRow w2 b 1 _ 71 (0,0) _ hb2
 rw[hw2]
 have hs2:(w2.setRow b #[.pointer (some ⟨b,0,none⟩),.slice ao n' cap',sum]).heap.size=w2.heap.size:=by unfold World.setRow;simp
 have hgs:=h3.size
 have ho2:∀ k,k ≠ b→(w2.setRow b #[.pointer (some ⟨b,0,none⟩),.slice ao n' cap',sum]).heap[k]? = w2.heap[k]?:=fun k hk=>Go.setRow_other w2 b k _ hk
 have hnb:(Value.slice ao n' cap').ownBlock ≠ some b:=fun e=>by
  rcases h5 b e with h | h
  ·exact hne h
  ·omega
 refine⟨rfl,h3.os.trans ht.2.1,h3.tape.trans ht.1,h3.output.trans ht.2.2,by omega,⟨_,setRow_heap w2 b _ _ _ _ hb2,?_,hnb,fun g hg=>?_⟩,fun k hk hkb hkv=>?_,fun r cs e0 fz hc=>?_⟩
 ·refine⟨h2.1,?_⟩
  rcases h2.2 with h | ⟨g,cap,cur,h0,h6,h7,h8⟩
  ·exact .inl h
  ·exact .inr ⟨g,cap,cur,h0,h6,(ho2 g (fun e=>hnb (by rw[h0];simp[Value.ownBlock,e]))).trans h7,h8⟩
 ·rcases h5 g hg with h | h
  ·exact .inl h
  ·exact .inr (by omega)
 ·rw[ho2 k hkb,h3.block k (by omega) (fun e=>hkv e.symm)]
  exact ho1 k hkb
 ·obtain⟨cs1,g1,g2⟩:=hc1 r cs e0 fz hc
  obtain⟨cs2,g3,g4⟩:=h4 r cs1 e0 fz g1
  by_cases hr:r=b
  ·subst hr
   rw[hb2] at g3
   cases g3
   exact⟨_,setRow_heap w2 r _ _ _ _ hb2,g4.trans g2⟩
  ·exact⟨cs2,(ho2 r hr).trans g3,g4.trans g2⟩
set_option maxHeartbeats 1000000 in
set_option maxRecDepth 100000 in
theorem str_ok (b g cap:Nat) (w:World) (addr sum:Value) (cur:Array Value) (l:List UInt8) (hbk:w.heap[b]? = some (.cells #[addr,.slice (some ⟨g,0,none⟩) l.length cap,sum] 71 (0,0)))
 (hg:w.heap[g]? = some (.cells cur 5 (0,0))) (h0:l ≠ []) (hcap:l.length≤cap) (hmax:cap≤maxLen) (hcs:cur.size=cap) (hcell:∀ j x,l[j]? = some x→w.cell? ((⟨g,0,none⟩:Addr).add j)=some (.int .u8 x.toNat)) :
 Calls Tryz.prog 27 #[.pointer (some ⟨b,0,none⟩)] w fun e w'=>e = .returned (.string ⟨l.toArray⟩)∧w'=w.drew.freeze ⟨g,0,none⟩ l.length:=by
 have hl0:l.length ≠ 0:=by simpa using h0
 have c1:w.drew.cell? ⟨b,1,none⟩=some (.slice (some ⟨g,0,none⟩) l.length cap):=by
  have:w.drew.heap[b]? = some (.cells #[addr,.slice (some ⟨g,0,none⟩) l.length cap,sum] 71 (0,0)):=hbk
  rw[Lib.cell_of_heap this];rfl
 have hSD:(Builtin.unsafeSliceData_ #[37] 121 #[.slice (some ⟨g,0,none⟩) l.length cap]).run Tryz.prog w.drew = .ok (.pointer (some ⟨g,0,none⟩)) w.drew :=
  Lib.run_unsafeSliceData_row _ _ _ _ _ _ (by omega)
 have hUS:(Builtin.unsafeString_ #[121,3] 9 #[.pointer (some ⟨g,0,none⟩),.int .i64 l.length]).run Tryz.prog w.drew = .ok (.string ⟨l.toArray⟩) (w.drew.freeze ⟨g,0,none⟩ l.length):=by
  refine Lib.run_unsafeString_row w.drew 121 3 9 5 Tryz.underlying121 (by kernel_rfl) g cur.size (by have hg':w.drew.heap[g]? = some (.cells cur 5 (0,0)):=hg;simp[World.shape?,hg']) l h0 (by omega) (by unfold maxLen at hmax;omega) hcell
 go_enter Tryz.func27,Tryz.ntmps27
 go_wp2
 go_region
 all_goals (go_wp2;go_ret;exact⟨rfl,rfl⟩)
end Go.Sim.Lg

namespace Go.Sim.Lg
open Go.RowKit
open Go.Proofs
theorem byteGet_inj {x y:ByteArray} (hs:x.size=y.size) (h:byteGet x=byteGet y):x=y:=by
 have:x.data.toList=y.data.toList:=by
  have hx:x.data.toList.length=x.size:=rfl
  have hy:y.data.toList.length=y.size:=rfl
  refine List.ext_getElem (by omega) fun i h1 h2=>?_
  have:=congrFun h i
  simp only[byteGet,List.cons.injEq,V.int.injEq,true_and,and_true] at this
  rw[List.getD_eq_getElem?_getD,List.getD_eq_getElem?_getD,List.getElem?_eq_getElem h1,List.getElem?_eq_getElem h2,Option.getD_some,Option.getD_some] at this
  exact UInt8.toNat_inj.1 (by omega)
 cases x;cases y
 congr 1
 exact Array.toList_inj.1 this
inductive HvoR:Nat→List V→List Slot→V→List Slot→Prop where
 |first {t:ByteArray} {wd:Nat} {get:Nat→List V} {q:IntKind} {s:Int} (h1:1≤t.size) (h2:t.size≤1000000) :
  HvoR 54 [.optr 0 0 0,.str t] [.box 71 [.nilp,.row true 0 wd get,.int q s] true] (.tup [.int .i64 t.size,.nili]) [.box 71 [.optr 0 0 0,.osl 1 0 t.size,.int q s] true,.arr 5 1 t.size (byteGet t) true]
 |more {x t:ByteArray} {q:IntKind} {s:Int} (h1:1≤x.size) (h2:x.size+t.size≤1000000) :
  HvoR 54 [.optr 0 0 0,.str t] [.box 71 [.optr 0 0 0,.osl 1 0 x.size,.int q s] true,.arr 5 1 x.size (byteGet x) true] (.tup [.int .i64 t.size,.nili])
   [.box 71 [.optr 0 0 0,.osl 2 0 (x ++ t).size,.int q s] true,.dead,.arr 5 1 (x ++ t).size (byteGet (x ++ t)) true]
 |str {x:ByteArray} {q:IntKind} {s:Int} (h1:1≤x.size) :
  HvoR 27 [.optr 0 0 0] [.box 71 [.optr 0 0 0,.osl 1 0 x.size,.int q s] true,.arr 5 1 x.size (byteGet x) true] (.str x) [.box 71 [.optr 0 0 0,.osl 1 0 x.size,.int q s] true,.dead]
theorem HvoR.inj {g:Nat} {args:List V} {hp:List Slot} {v v':V} {hp1 hp2:List Slot} (h:HvoR g args hp v hp1) (h':HvoR g args hp v' hp2):v=v'∧hp1=hp2:=by
 cases h with
 |first h1 h2=>cases h';exact⟨rfl,rfl⟩
 |@more x t q s h1 h2 =>
  generalize hg:byteGet x=gg at h'
  generalize hn:x.size=n at h'
  cases h' with
  |@more y _ _ _ g1 g2 =>
   obtain rfl:=byteGet_inj hn hg
   exact⟨rfl,rfl⟩
 |@str x q s h1 =>
  generalize hg:byteGet x=gg at h'
  generalize hn:x.size=n at h'
  cases h' with
  |@str y _ _ g1 =>
   obtain rfl:=byteGet_inj hn hg
   exact⟨rfl,rfl⟩
noncomputable def hvo (g:Nat) (args:List V) (hp:List Slot):Option (Out × List Slot) :=
 open Classical in if h:∃ p:V × List Slot,HvoR g args hp p.1 p.2 then some (.ret h.choose.1,h.choose.2) else none
theorem hvo_of {g:Nat} {args:List V} {hp:List Slot} {v:V} {hp':List Slot} (h:HvoR g args hp v hp'):hvo g args hp=some (.ret v,hp'):=by
 have hx:∃ p:V × List Slot,HvoR g args hp p.1 p.2:=⟨(v,hp'),h⟩
 unfold hvo
 rw[dif_pos hx]
 obtain⟨h1,h2⟩:=hx.choose_spec.inj h
 rw[h1,h2]
theorem of_hvo {g:Nat} {args:List V} {hp:List Slot} {o:Out} {hp':List Slot} (h:hvo g args hp=some (o,hp')):∃ v,o = .ret v∧HvoR g args hp v hp':=by
 unfold hvo at h
 split at h
 ·rename_i hx
  cases h
  exact⟨_,rfl,hx.choose_spec⟩
 ·cases h
theorem strCells_get (x:ByteArray) (i:Nat) (h:i<x.size):(Lib.strCells x)[i]? = some (.int .u8 ((x.data.toList.getD i 0).toNat:Int)):=by
 have hx:x.data.toList.length=x.size:=rfl
 rw[Lib.strCells_eq]
 unfold Lib.byteCells
 rw[List.getElem?_map,List.getElem?_eq_getElem (by omega),Option.map_some,List.getD_eq_getElem?_getD,List.getElem?_eq_getElem (by omega)]
 rfl
theorem strCells_app (x t:ByteArray):Lib.strCells (x ++ t)=Lib.strCells x ++ Lib.strCells t:=by
 rw[Lib.strCells_eq,Lib.strCells_eq,Lib.strCells_eq,← Lib.byteCells_append]
 congr 1
 first | done | simp
theorem rowCells {w:World} {pv:Nat→Prop} {x:ByteArray} {cur:Array Value} (h:cur.toList.take (x.size*1)=Lib.strCells x) :
 ∀ i j c,i<x.size→(byteGet x i)[j]? = some c→∃ v,cur[i*1+j]? = some v∧Rel w pv none_ v c∧c.one=true:=by
 intro i j c hi hc
 match j,hc with
 |0,hc =>
  cases hc
  refine⟨_,?_,.int,rfl⟩
  have:=strCells_get x i hi
  rw[← h,List.getElem?_take_of_lt (by omega)] at this
  simpa using this
theorem cellsRow {w:World} {pv:Nat→Prop} {x:ByteArray} {cur:Array Value} (hsz:x.size*1≤cur.size)
 (h:∀ i j c,i<x.size→(byteGet x i)[j]? = some c→∃ v,cur[i*1+j]? = some v∧Rel w pv none_ v c∧c.one=true):cur.toList.take (x.size*1)=Lib.strCells x:=by
 refine List.ext_getElem? fun i=>?_
 rcases Nat.lt_or_ge i x.size with hi | hi
 ·obtain⟨v,h1,h2,_⟩:=h i 0 _ hi rfl
  cases h2
  rw[strCells_get x i hi,List.getElem?_take_of_lt (by omega)]
  simpa using h1
 ·rw[List.getElem?_eq_none (by simp;omega),List.getElem?_eq_none (by rw[Lib.strCells_length];omega)]
section
variable [Start]
def pvG (w w':World) (pv:Nat→Prop):Nat→Prop:=fun k=>pv k∨(w.heap.size≤k∧k<w'.heap.size)
theorem ws_step {N:Nat→Prop} {w w':World} {pv:Nat→Prop} {ρ:Nat→Option Info} {hp:List Slot} (pre:Pre N w pv ρ hp) {r:Nat} {v sum:Value} {n:Nat} {xs:List Value} {s:ByteArray} {c:Array Value} (hr:pv r) (hN:¬ N r) (hc:w.heap[r]? = some (.cells c 71 (0,0)))
 (hv:∀ g,v.ownBlock=some g→pv g∧¬ N g∧∃ cur,w.heap[g]? = some (.cells cur 5 (0,0))) (p:WsPost w r v sum n xs s w'):Step N w w' pv (pvG w w' pv) ρ ρ where
 keeps:=by
  refine⟨p.size,fun k hk hp=>p.block k hk (fun e=>hp (e ▸ hr)) (fun e=>hp (hv k e).1),fun k cs e hp hx=>?_,fun k o h1 h2 _=>(p.block k (lt_of_block h1) (fun e=>?_) (fun e=>?_)).trans h1⟩
  ·obtain⟨fz,hx⟩:=hx
   obtain⟨cs',h1,h2⟩:=p.cells k cs e fz hx
   exact⟨cs',⟨fz,h1⟩,h2⟩
  ·subst e;rw[hc] at h1;cases h1;cases h2
  ·obtain⟨_,_,cur,hx⟩:=hv k e;rw[hx] at h1;cases h1;cases h2
 below:=⟨p.os,p.tape,p.output,p.size,fun k hk=>p.block k (pre.low k hk) (fun e=>hN (e ▸ hk)) (fun e=>(hv k e).2.1 hk)⟩
 pvsub:=fun k hk h=>h.resolve_right (by omega)
 pvlt:=fun k h=>by
  rcases h with h | h
  ·exact Nat.lt_of_lt_of_le (pre.lt k h) p.size
  ·exact h.2
 pvlow:=fun k hk=>⟨fun h=>h.resolve_right (by have:=pre.low k hk;omega),.inl⟩
 rho:=fun _ _ h=>h
theorem two_args {w:World} {pv:Nat→Prop} {ρ:Nat→Option Info} {vs:Array Value} {a b:V} (h:RelL w pv ρ vs [a,b]):∃ u v,vs = #[u,v]∧Rel w pv ρ u a∧Rel w pv ρ v b:=by
 obtain⟨hl,hr⟩:=h
 rcases vs with⟨l⟩
 match l,hl with
 |[u,v],_=>exact⟨u,v,rfl,hr 0 u a rfl rfl,hr 1 v b rfl rfl⟩
theorem three_cells {w:World} {pv:Nat→Prop} {ρ:Nat→Option Info} {vs:Array Value} {a b c:V} (h:RelL w pv ρ vs [a,b,c]):∃ x y z,vs = #[x,y,z]∧Rel w pv ρ x a∧Rel w pv ρ y b∧Rel w pv ρ z c:=by
 obtain⟨hl,hr⟩:=h
 rcases vs with⟨l⟩
 match l,hl with
 |[x,y,z],_=>exact⟨x,y,z,rfl,hr 0 x a rfl rfl,hr 1 y b rfl rfl,hr 2 z c rfl rfl⟩
theorem three_rel {w:World} {pv:Nat→Prop} {ρ:Nat→Option Info} {x y z:Value} {a b c:V} (h1:Rel w pv ρ x a) (h2:Rel w pv ρ y b) (h3:Rel w pv ρ z c):RelL w pv ρ #[x,y,z] [a,b,c]:=by
 refine⟨rfl,fun i v d g1 g2=>?_⟩
 match i,g1,g2 with
 |0,g1,g2=>cases g1;cases g2;exact h1
 |1,g1,g2=>cases g1;cases g2;exact h2
 |2,g1,g2=>cases g1;cases g2;exact h3
theorem two_tup {w:World} {pv:Nat→Prop} {ρ:Nat→Option Info} {x y:Value} {a b:V} (h1:Rel w pv ρ x a) (h2:Rel w pv ρ y b):Rel w pv ρ (.tuple #[x,y]) (.tup [a,b]):=by
 refine .tup rfl fun i v d g1 g2=>?_
 match i,g1,g2 with
 |0,g1,g2=>cases g1;cases g2;exact h1
 |1,g1,g2=>cases g1;cases g2;exact h2
theorem ws_slots {N:Nat→Prop} {w w':World} {pv:Nat→Prop} {ρ:Nat→Option Info} {hp:List Slot} (pre:Pre N w pv ρ hp) {r:Nat} {v:Value} {q:IntKind} {s:Int} {n:Nat} {xs:List Value} {t x:ByteArray} {c:Array Value} (hr:pv r) (hN:¬ N r) (hc:w.heap[r]? = some (.cells c 71 (0,0)))
 (hv:∀ g,v.ownBlock=some g→pv g∧¬ N g∧∃ cur,w.heap[g]? = some (.cells cur 5 (0,0))) (p:WsPost w r v (.int q s) n xs t w') (hρ:ρ 0=some ⟨r,1,3⟩) (hx:xs ++ Lib.strCells t=Lib.strCells x) (hn:n+t.size=x.size) (h1:1≤x.size) (k:Nat) (hk:k ≠ 0) :
 ∃ g',∀ ρ':Nat→Option Info,ρ' 0=ρ 0→ρ' k=some ⟨g',x.size,1⟩→SlotR N w' (pvG w w' pv) ρ' (ρ' 0) (.box 71 [.optr 0 0 0,.osl k 0 x.size,.int q s] true)∧SlotR N w' (pvG w w' pv) ρ' (ρ' k) (.arr 5 1 x.size (byteGet x) true)∧g' ≠ r:=by
 obtain⟨v',hb,hown,hne,hg⟩:=p.box
 rw[hx,hn] at hown
 rcases hown.2 with⟨_,h0⟩ | ⟨g',cap,cur,rfl,_,hg',hnc,hcm,hcs,htake⟩
 ·omega
 have hgN:pvG w w' pv g'∧¬ N g':=by
  rcases hg g' rfl with h | h
  ·exact⟨.inl (hv g' h).1,(hv g' h).2.1⟩
  ·exact⟨.inr ⟨h,lt_of_block hg'⟩,fun hNg=>by have:=pre.low g' hNg;omega⟩
 refine⟨g',fun ρ' e0 ek=>⟨⟨r,_,?_,hN,hb,three_rel ?_ ?_ .int,rfl,fun _=>.inl hr⟩,⟨g',cur,ek,hgN.2,hg',by omega,fun _ _=>rfl,rowCells htake,fun _=>hgN.1⟩,fun e=>hne (by simp[Value.ownBlock,e])⟩⟩
 ·rw[e0,hρ];rfl
 ·have:=@Rel.optr w' (pvG w w' pv) ρ' 0 0 0 r 1 3 (by rw[e0,hρ]) (by omega)
  simpa using this
 ·have:=@Rel.osl w' (pvG w w' pv) ρ' k 0 x.size g' x.size 1 cap 5 cur ek (by omega) hnc ⟨_,hg'⟩ (by omega) hcm
  simpa using this
end
theorem freeze_other (w:World) (a:Addr) (n k:Nat) (h:k ≠ a.block):(w.freeze a n).heap[k]? = w.heap[k]?:=by
 unfold World.freeze
 split
 ·rfl
 ·simp only[Array.getElem?_modify]
  rw[if_neg (fun e=>h e.symm)]
theorem freeze_size (w:World) (a:Addr) (n:Nat):(w.freeze a n).heap.size=w.heap.size:=by
 unfold World.freeze
 split
 ·rfl
 ·simp
theorem freeze_same (w:World) (a:Addr) (n:Nat) (cs:Array Value) (e:TypeId) (fz:Nat × Nat) (h:w.heap[a.block]? = some (.cells cs e fz)):∃ fz',(w.freeze a n).heap[a.block]? = some (.cells cs e fz'):=by
 unfold World.freeze
 split
 ·exact⟨fz,h⟩
 ·obtain⟨lo,hi⟩:=fz
  simp only[Array.getElem?_modify,if_true,h,Option.map_some]
  exact⟨_,rfl⟩
theorem freeze_rest (w:World) (a:Addr) (n:Nat):(w.freeze a n).os=w.os∧(w.freeze a n).tape=w.tape∧(w.freeze a n).output=w.output:=by
 unfold World.freeze
 split<;>exact⟨rfl,rfl,rfl⟩
section
variable [Start]
theorem freeze_step {N:Nat→Prop} {w:World} {pv:Nat→Prop} {ρ:Nat→Option Info} {hp:List Slot} (pre:Pre N w pv ρ hp) {g n:Nat} {cur:Array Value} (hp:pv g) (hN:¬ N g) (hg:w.heap[g]? = some (.cells cur 5 (0,0))):Step N w (w.drew.freeze ⟨g,0,none⟩ n) pv pv ρ ρ where
 keeps:=by
  refine⟨by rw[freeze_size];exact Nat.le_refl _,fun k _ hk=>freeze_other w.drew _ n k (fun e=>hk ((show k=g from e) ▸ hp)),fun k cs e _ hx=>?_,fun k o h1 h2 _=>(freeze_other w.drew _ n k (fun e=>?_)).trans h1⟩
  ·obtain⟨fz,hx⟩:=hx
   by_cases hkg:k=g
   ·subst hkg
    obtain⟨fz',h⟩:=freeze_same w.drew ⟨k,0,none⟩ n cs e fz hx
    exact⟨cs,⟨fz',h⟩,rfl⟩
   ·exact⟨cs,⟨fz,(freeze_other w.drew ⟨g,0,none⟩ n k hkg).trans hx⟩,rfl⟩
  ·have e:k=g:=e
   subst e;rw[hg] at h1;cases h1;cases h2
 below:=⟨(freeze_rest w.drew _ n).1,(freeze_rest w.drew _ n).2.1,(freeze_rest w.drew _ n).2.2,by rw[freeze_size];exact Nat.le_refl _,fun k hk=>freeze_other w.drew _ n k (fun e=>hN ((show k=g from e) ▸ hk))⟩
 pvsub:=fun _ _ h=>h
 pvlt:=fun k h=>by rw[freeze_size];exact pre.lt k h
 pvlow:=fun _ _=>Iff.rfl
 rho:=fun _ _ h=>h
theorem hvo_ok:OkHv Tryz.prog hvo:=by
 intro g args hp v hp' h
 obtain⟨v0,e0,hx⟩:=of_hvo h
 cases e0
 cases hx with
 |@first t wd get q s h1 h2 =>
  refine⟨body_of (by kernel_rfl),fun N w pv ρ pre hall vs hvs=>?_⟩
  obtain⟨u0,u1,rfl,hu0,hu1⟩:=two_args hvs
  obtain⟨r,cs,hρ,hN,hc,hrel,_,hwr⟩:=pre.slots.slot 0 _ rfl
  obtain⟨a,b,c,rfl,ha,hb,hcc⟩:=three_cells hrel
  cases ha;cases hb;cases hcc;cases hu1
  have hρ:ρ 0=some ⟨r,1,3⟩:=hρ
  cases hu0 with
  |@optr _ _ _ _ r1 len wd1 hr hi =>
   rw[hρ] at hr
   injection hr with hr
   injection hr with e1 e2 e3
   subst e1 e2 e3
   have hv:∀ g,(Value.slice none 0 0).ownBlock=some g→pv g∧¬ N g∧∃ cur,w.heap[g]? = some (.cells cur 5 (0,0)):=fun g hg=>by cases hg
   refine (ws_ok r w _ _ _ 0 [] t hc (.inl rfl) (World.ownsRow_nil w 0 5 1) (by simp[Value.ownBlock]) (by omega)).mono ?_
   rintro e w' ⟨rfl,p⟩
   obtain⟨g',hs⟩:=ws_slots pre (hwr rfl) hN hc hv p hρ (x:=t) rfl (by omega) h1 1 (by decide)
   obtain⟨hs0,hs1,hne⟩:=hs (fun b=>if b=1 then some ⟨g',t.size,1⟩ else ρ b) rfl rfl
   have st:=ws_step pre (hwr rfl) hN hc hv p
   refine⟨pvG w w' pv,fun b=>if b=1 then some ⟨g',t.size,1⟩ else ρ b,{ keeps:=st.keeps,below:=st.below,pvsub:=st.pvsub,pvlt:=st.pvlt,pvlow:=st.pvlow,rho:=fun b i hb hi=>?_,slots:=⟨fun b s hb=>?_,fun b hb=>?_,fun b b' s s' i i' hb hb' _ _ hi hi' he=>?_⟩,out:=⟨_,rfl,two_tup .int .nili⟩ }⟩
   ·have hb:b<1:=hb
    show (if b=1 then _ else ρ b)=some i
    rw[if_neg (by omega)];exact hi
   ·match b,hb with
    |0,hb=>cases hb;exact hs0
    |1,hb=>cases hb;exact hs1
   ·match b,hb with
    |b+2,hb =>
     show (if b+2=1 then _ else ρ (b+2))=none
     rw[if_neg (by omega)]
     exact pre.slots.out _ rfl
   ·match b,b',hb,hb' with
    |0,0,_,_=>rfl
    |1,1,_,_=>rfl
    |0,1,_,_ =>
     have hi:ρ 0=some i:=hi
     rw[hρ] at hi;cases hi;cases hi'
     exact absurd he.symm hne
    |1,0,_,_ =>
     have hi':ρ 0=some i':=hi'
     rw[hρ] at hi';cases hi;cases hi'
     exact absurd he hne
 |@more x t q s h1 h2 =>
  refine⟨body_of (by kernel_rfl),fun N w pv ρ pre hall vs hvs=>?_⟩
  obtain⟨u0,u1,rfl,hu0,hu1⟩:=two_args hvs
  obtain⟨r,cs,hρ,hN,hc,hrel,_,hwr⟩:=pre.slots.slot 0 _ rfl
  obtain⟨g,cur,hρ1,hN1,hg,hsz,_,hcells,hwr1⟩:=pre.slots.slot 1 _ rfl
  obtain⟨a,b,c,rfl,ha,hb,hcc⟩:=three_cells hrel
  cases hcc;cases hu1
  have hρ:ρ 0=some ⟨r,1,3⟩:=hρ
  have hrg:r ≠ g:=fun e=>by
   have:=pre.slots.inj 0 1 _ _ _ _ rfl rfl rfl rfl hρ hρ1 e
   cases this
  cases ha with
  |@optr _ _ _ _ r2 len2 wd2 hr2 hi2 =>
  rw[hρ] at hr2
  injection hr2 with hr2
  injection hr2 with e1 e2 e3
  subst e1 e2 e3
  cases hb with
  |@osl _ _ _ _ g2 len3 wd3 cap e4 cs4 hr3 hn3 hcap hcs4 hsz4 hmax =>
  rw[hρ1] at hr3
  injection hr3 with hr3
  injection hr3 with e1 e2 e3
  subst e1 e2 e3
  obtain⟨_,hcs4⟩:=hcs4
  rw[hg] at hcs4
  cases hcs4
  cases hu0 with
  |@optr _ _ _ _ r1 len wd1 hr hi =>
   rw[hρ] at hr
   injection hr with hr
   injection hr with e1 e2 e3
   subst e1 e2 e3
   have hv:∀ g',(Value.slice (some ⟨g,0*1,none⟩) x.size cap).ownBlock=some g'→pv g'∧¬ N g'∧∃ cur,w.heap[g']? = some (.cells cur 5 (0,0)):=fun g' hg'=>by
    cases hg'
    exact⟨hwr1 rfl,hN1,cur,hg⟩
   have hown:w.ownsRow 0 5 1 (.slice (some ⟨g,0*1,none⟩) x.size cap) x.size (Lib.strCells x):=⟨by rw[Lib.strCells_length];omega,.inr ⟨g,cap,cur,rfl,Nat.zero_le _,hg,hcap,hmax,by omega,cellsRow hsz hcells⟩⟩
   refine (ws_ok r w _ _ _ x.size (Lib.strCells x) t hc (.inr rfl) hown (fun e=>hrg (by simpa[Value.ownBlock] using e.symm)) (by omega)).mono ?_
   rintro e w' ⟨rfl,p⟩
   have hxt:(x ++ t).size=x.size+t.size:=ByteArray.size_append
   obtain⟨g',hs⟩:=ws_slots pre (hwr rfl) hN hc hv p hρ (x:=x ++ t) (strCells_app x t).symm hxt.symm (by omega) 2 (by decide)
   obtain⟨hs0,hs1,hne⟩:=hs (fun b=>if b=2 then some ⟨g',(x ++ t).size,1⟩ else ρ b) rfl rfl
   have st:=ws_step pre (hwr rfl) hN hc hv p
   refine⟨pvG w w' pv,fun b=>if b=2 then some ⟨g',(x ++ t).size,1⟩ else ρ b,{ keeps:=st.keeps,below:=st.below,pvsub:=st.pvsub,pvlt:=st.pvlt,pvlow:=st.pvlow,rho:=fun b i hb hi=>?_,slots:=⟨fun b s hb=>?_,fun b hb=>?_,fun b b' s s' i i' hb hb' hl hl' hi hi' he=>?_⟩,out:=⟨_,rfl,two_tup .int .nili⟩ }⟩
   ·have hb:b<2:=hb
    show (if b=2 then _ else ρ b)=some i
    rw[if_neg (by omega)];exact hi
   ·match b,hb with
    |0,hb=>cases hb;exact hs0
    |1,hb=>cases hb;exact trivial
    |2,hb=>cases hb;exact hs1
   ·match b,hb with
    |b+3,hb =>
     show (if b+3=2 then _ else ρ (b+3))=none
     rw[if_neg (by omega)]
     exact pre.slots.out _ rfl
   ·match b,b',hb,hb' with
    |0,0,_,_=>rfl
    |1,_,hb,_=>cases hb;cases hl
    |0,1,_,hb'=>cases hb';cases hl'
    |2,1,_,hb'=>cases hb';cases hl'
    |2,2,_,_=>rfl
    |0,2,_,_ =>
     have hi:ρ 0=some i:=hi
     rw[hρ] at hi;cases hi;cases hi'
     exact absurd he.symm hne
    |2,0,_,_ =>
     have hi':ρ 0=some i':=hi'
     rw[hρ] at hi';cases hi;cases hi'
     exact absurd he hne
 |@str x q s h1 =>
  refine⟨body_of (by kernel_rfl),fun N w pv ρ pre hall vs hvs=>?_⟩
  obtain⟨hl,hr0⟩:=hvs
  obtain⟨u0,rfl⟩:∃ v,vs = #[v]:=by
   rcases vs with⟨l⟩
   match l,hl with
   |[v],_=>exact⟨v,rfl⟩
  have hu0:=hr0 0 u0 _ rfl rfl
  obtain⟨r,cs,hρ,hN,hc,hrel,_,hwr⟩:=pre.slots.slot 0 _ rfl
  obtain⟨g,cur,hρ1,hN1,hg,hsz,_,hcells,hwr1⟩:=pre.slots.slot 1 _ rfl
  obtain⟨a,b,c,rfl,ha,hb,hcc⟩:=three_cells hrel
  have hρ':ρ 0=some ⟨r,1,3⟩:=hρ
  have hrg:r ≠ g:=fun e=>by
   have:=pre.slots.inj 0 1 _ _ _ _ rfl rfl rfl rfl hρ' hρ1 e
   cases this
  cases hb with
  |@osl _ _ _ _ g2 len3 wd3 cap e4 cs4 hr3 hn3 hcap hcs4 hsz4 hmax =>
  rw[hρ1] at hr3
  injection hr3 with hr3
  injection hr3 with e1 e2 e3
  subst e1 e2 e3
  obtain⟨_,hcs4⟩:=hcs4
  rw[hg] at hcs4
  cases hcs4
  cases hu0 with
  |@optr _ _ _ _ r1 len wd1 hr hi =>
   rw[hρ'] at hr
   injection hr with hr
   injection hr with e1 e2 e3
   subst e1 e2 e3
   have hlen:x.data.toList.length=x.size:=rfl
   refine (str_ok r g cap w a c cur x.data.toList hc hg (fun e=>by rw[e] at hlen;simp at hlen;omega) hcap hmax (by omega) (fun j y hj=>?_)).mono ?_
   ·have hjl:j<x.size:=(List.getElem?_eq_some_iff.1 hj).1
    obtain⟨v,g1,g2,_⟩:=hcells j 0 _ hjl rfl
    cases g2
    have e1:(⟨g,0,none⟩:Addr).add j=⟨g,j,none⟩:=by unfold Addr.add;split<;>simp_all
    rw[e1]
    simp only[World.cell?,hg]
    simp only[Nat.mul_one,Nat.add_zero] at g1
    rw[g1,List.getD_eq_getElem?_getD,hj]
    rfl
   ·rintro e w' ⟨rfl,rfl⟩
    have st:=freeze_step (n:=x.data.toList.length) pre (hwr1 rfl) hN1 hg
    refine⟨pv,ρ,{ keeps:=st.keeps,below:=st.below,pvsub:=st.pvsub,pvlt:=st.pvlt,pvlow:=st.pvlow,rho:=fun b i _ hi=>hi,slots:=⟨fun b s hb=>?_,fun b hb=>?_,fun b b' s s' i i' hb hb' hl hl' hi hi' he=>?_⟩,out:=⟨_,rfl,?_⟩ }⟩
    ·match b,hb with
     |0,hb =>
      cases hb
      exact (pre.slots.slot 0 _ rfl).keep st (fun x hx _=>by
       rw[hρ] at hx;cases hx
       exact freeze_other w.drew _ _ r hrg) (fun _ _ _ h=>h)
     |1,hb=>cases hb;exact trivial
    ·match b,hb with
     |b+2,hb=>exact pre.slots.out _ rfl
    ·match b,b',hb,hb' with
     |0,0,_,_=>rfl
     |1,_,hb,_=>cases hb;cases hl
     |0,1,_,hb'=>cases hb';cases hl'
    ·have:(⟨x.data.toList.toArray⟩:ByteArray)=x:=by cases x;simp
     rw[this]
     exact .str
theorem hvo_pan:OkHvP Tryz.prog hvo:=by
 intro g args hp c hp' h
 obtain⟨v,e,_⟩:=of_hvo h
 cases e
end
end Go.Sim.Lg

namespace Go.Sim.Le
open Go.RowKit Go.Proofs Go.Maps
def keepTab:List (Nat × List (Nat × List Nat)):=[
 (8,[(6,[4,21,22,23])]),
 (9,[(2,[1,3])]),
 (10,[(4,[3,4,5,6]),(10,[3,4,5,6,7])]),
 (11,[(8,[2,3,4,26,27])]),
 (12,[(4,[2,3,5])]),
 (13,[(7,[0,2,4,5,7,8])]),
 (18,[(10,[2,8,10,11,12,65]),(13,[2,8,10,11,12,13,14,15,65]),(23,[2,4,5,19,20,129])]),
 (21,[(9,[1,2,10,11,12]),(12,[1,2,10,11,12,13,14,46,47,48]),(17,[1,2,10,11,12,13,14,16,17,46,47,48,55,56,57]),(32,[1,2,10,12,20,101,102,103]),(35,[1,2,10,12,20,22,101,102,103,108,109]),(40,[1,2,10,12,20,22,24,101,102,103,108,109,120,121,122])]),
 (22,[(7,[1,2,8,10,27,28,29]),(13,[1,2,8,10,11,12,13,14,27,28,29,44,45,46])]),
 (23,[(4,[0,1,5])]),
 (24,[(4,[0,1,5])]),
 (26,[(2,[0,13,14,15])]),
 (31,[(3,[1,3,4])]),
 (32,[(2,[0,1,5])]),
 (34,[(8,[0,11,49,50,51])]),
 (35,[(3,[0,1,5,6])]),
 (36,[(6,[8,9,10])]),
 (44,[(3,[3,5,6,7,13,14,15])]),
 (46,[(2,[0,1,4,5,6])]),
 (47,[(2,[0]),(5,[0,40,41])]),
 (49,[(2,[0,7,8,9])]),
 (56,[(2,[0,3])]),
 (60,[(5,[0,6,7])]),
 (62,[(2,[0,1,7,8])]),
 (63,[(3,[3,4,5,10,11,12])]),
 (64,[(3,[2,3,6,7,8])]),
 (66,[(4,[0,1,3,4])]),
 (70,[(2,[0,11,12,13])]),
 (72,[(3,[0,5,6,7,29,30,31])]),
 (73,[(2,[0,1,7,8])]),
 (77,[(11,[0,1,2,3,9,10])]),
 (82,[(10,[2,5,6,7,11,12,13,14])]),
 (84,[(3,[3,4,5,15,16])]),
 (87,[(15,[0,1,5,6,7,8,9,10])]),
 (88,[(6,[0,1,6,7])]),
 (89,[(6,[0,1,5])]),
 (91,[(10,[5,6,47,48,49])]),
 (93,[(2,[0,1,7,8])]),
 (96,[(1,[0,1,4])]),
 (97,[(11,[0,1,3,4,10,11,12,13,14,15,16]),(18,[0,1,3,4,10,11,12,13,17])]),
 (101,[(5,[0,1,5,6,7,8,9]),(11,[0,1,5,6,7,8,10])]),
 (102,[(2,[2,4])]),
 (116,[(3,[0,4,5]),(8,[4,6,7,8])]),
 (118,[(36,[1,8,9,10,11,12,13,99,100,101])]),
 (124,[(10,[0,3,4,5])])]
def look {α:Type} (n:Nat):List (Nat × α)→(d:α)→α
 |[],d=>d
 |(m,a) :: r,d=>bif n==m then a else look n r d
def eqT (t n:Nat):Bool:=(t==47 && n==2) || (t==53 && n==2)
def hb (f:Nat):Bool:=f==67 || f==47 || f==49 || f==50 || f==68 || f==69 || f==70 || f==72 || f==82
def keyT (t:Nat):Bool:=t==3 || t==145 || t==149
def fnT (t:Nat):Option (Nat × List Nat):=bif t==101 then some (66,[44]) else none
def ro (f j:Nat):Bool:=j==0 && (f==67 || f==68 || f==69 || f==70 || f==72 || f==49)
def opt:Opt:={ eqT:=eqT,hb:=hb,keyT:=keyT,fnT:=fnT,ro:=ro }
def cfg (F f:Nat):Cfg:={ x:=opt,keep:=fun r=>look r (look f keepTab []) [],fuel:=fun r=>bif f==47 && r==5 then F+5 else F,marks:=f==18 || f==38 || f==65 }
noncomputable def E (F d:Nat):Env:=envN Tryz.prog (cfg F) d
theorem E_pf (F d f:Nat) (a:List V):(E F (d+1)).pf f a=evFun Tryz.prog (cfg F) (E F d) f a:=by kernel_rfl
theorem E_hv (F d f:Nat) (a:List V) (hp:List Slot):(E F (d+1)).hv f a hp=evFunH Tryz.prog (cfg F) (E F d) f a hp:=by kernel_rfl
variable [Start]
theorem names:OkNames Tryz.prog:=okNames_of (by kernel_rfl)
section
variable (w:World)
theorem part3 (cs:Array Value) (off:Nat) (v:Value) (h:cs[off]? = some v):(part 3 cs off).run Tryz.prog w = .ok v w:=by
 unfold part;simp[Tryz.isAgg3,h]
theorem extract2 {cs:Array Value} {off:Nat} {u v:Value} (h0:cs[off]? = some u) (h1:cs[off+1]? = some v):cs.extract off (off+2) = #[u,v]:=by
 refine Array.ext_getElem? fun i=>?_
 have hl:off+1<cs.size:=(Array.getElem?_eq_some_iff.1 h1).1
 rw[Array.getElem?_extract]
 match i with
 |0=>rw[if_pos (by omega)];simpa using h0
 |1=>rw[if_pos (by omega)];simpa using h1
 |n+2=>rw[if_neg (by omega)];simp
theorem int3 (d:Nat) (k:IntKind) (a b:Int):(Op.equalIn (d+1) 3 (.int k a) (.int k b)).run Tryz.prog w = .ok (a==b) w:=run_equalIn_int w d 3 k .i64 a b Tryz.underlying3
theorem fieldsOf_ {t:TypeId} {fs:Array Field} (h:Tryz.prog.underlying t=some (.struct fs)):Tryz.prog.fieldsOf t=fs:=by simp[Program.fieldsOf,h]
theorem eqS {d:Nat} {t:TypeId} {fs:Array Field} (xs ys:Array Value) (h:Tryz.prog.underlying t=some (.struct fs)) (hp:Tryz.prog.stoodInHeld t=false):(Op.equalIn (d+1) t (.agg xs) (.agg ys)).run Tryz.prog w=(Op.eqFields d xs ys fs.toList).run Tryz.prog w:=by
 rw[run_equalIn_struct w d t xs ys (by rw[fieldsOf_ h];exact h) hp,fieldsOf_ h]
theorem eqF {d : Nat} {xs ys : Array Value} {f : Field} {fs : List Field} {a b : Value} {r : Bool} (hn : f.name ≠ "_") (ha : (part f.type xs f.offset).run Tryz.prog w = .ok a w) (hb : (part f.type ys f.offset).run Tryz.prog w = .ok b w)
 (he:(Op.equalIn d f.type a b).run Tryz.prog w = .ok r w) {q:Bool} (hr:(Op.eqFields d xs ys fs).run Tryz.prog w = .ok q w):(Op.eqFields d xs ys (f :: fs)).run Tryz.prog w = .ok (r && q) w:=by
 simp only[Op.eqFields,if_pos hn,Sem.run_bind,ha,hb,he,Result.andThen_ok]
 cases r
 ·simp
 ·simp[hr]
theorem eqN {d:Nat} {xs ys:Array Value}:(Op.eqFields d xs ys []).run Tryz.prog w = .ok true w:=rfl
set_option maxRecDepth 100000 in
theorem eq47 (d:Nat) (k0 k1:IntKind) (a b c e:Int):(Op.equalIn (d+2) 47 (.agg #[.int k0 a,.int k1 b]) (.agg #[.int k0 c,.int k1 e])).run Tryz.prog w = .ok (a==c && (b==e && true)) w :=
 (eqS w _ _ Tryz.underlying47 Tryz.stoodInHeld47).trans (eqF w (by simp) (part3 w _ _ _ rfl) (part3 w _ _ _ rfl) (int3 ..) (eqF w (by simp) (part3 w _ _ _ rfl) (part3 w _ _ _ rfl) (int3 ..) (eqN w)))
set_option maxRecDepth 100000 in
theorem eq53 (d:Nat) (k0 k1:IntKind) (a b c e:Int):(Op.equalIn (d+2) 53 (.agg #[.int k0 a,.int k1 b]) (.agg #[.int k0 c,.int k1 e])).run Tryz.prog w = .ok (a==c && (b==e && true)) w :=
 (eqS w _ _ Tryz.underlying53 Tryz.stoodInHeld53).trans (eqF w (by simp) (part3 w _ _ _ rfl) (part3 w _ _ _ rfl) (int3 ..) (eqF w (by simp) (part3 w _ _ _ rfl) (part3 w _ _ _ rfl) (int3 ..) (eqN w)))
set_option maxRecDepth 100000 in
theorem okEq:OkEq Tryz.prog eqT:=by
 intro t op xs ys x y w bs cs r het hcs pv ρ hx hy
 obtain⟨l,rfl,rfl,rfl⟩:=eqCs_inv hcs
 have hx':=relL_ints (l:=l.map fun p=>(p.1,p.2.1)) (by simpa[List.map_map,Function.comp_def] using hx)
 have hy':=relL_ints (l:=l.map fun p=>(p.1,p.2.2)) (by simpa[List.map_map,Function.comp_def] using hy)
 subst hx' hy'
 clear hx hy hcs
 have fin:Tryz.prog.eqGuardType Tryz.prog.depth t=false→(Op.equalIn 10000 t (.agg ((l.map fun p=>(p.1,p.2.1)).map fun p=>Value.int p.1 p.2).toArray) (.agg ((l.map fun p=>(p.1,p.2.2)).map fun p=>Value.int p.1 p.2).toArray)).run Tryz.prog w = .ok (l.all fun p=>p.2.1==p.2.2) w →
  (op = .eql→(do eqGuard op t x y (.agg ((l.map fun p=>(p.1,p.2.1)).map fun p=>Value.int p.1 p.2).toArray) (.agg ((l.map fun p=>(p.1,p.2.2)).map fun p=>Value.int p.1 p.2).toArray);binOp op t (.agg ((l.map fun p=>(p.1,p.2.1)).map fun p=>Value.int p.1 p.2).toArray) (.agg ((l.map fun p=>(p.1,p.2.2)).map fun p=>Value.int p.1 p.2).toArray):Sem Value).run Tryz.prog w = .ok (.bool (l.all fun p=>p.2.1==p.2.2)) w) ∧
  (op = .neq→(do eqGuard op t x y (.agg ((l.map fun p=>(p.1,p.2.1)).map fun p=>Value.int p.1 p.2).toArray) (.agg ((l.map fun p=>(p.1,p.2.2)).map fun p=>Value.int p.1 p.2).toArray);binOp op t (.agg ((l.map fun p=>(p.1,p.2.1)).map fun p=>Value.int p.1 p.2).toArray) (.agg ((l.map fun p=>(p.1,p.2.2)).map fun p=>Value.int p.1 p.2).toArray):Sem Value).run Tryz.prog w = .ok (.bool (!(l.all fun p=>p.2.1==p.2.2))) w):=by
  intro hg he
  constructor
  ·rintro rfl
   rw[Sem.run_bind,run_eqGuard_agg w _ _ _ _ _ _ hg,Result.andThen_ok,run_eql_struct,he];rfl
  ·rintro rfl
   rw[Sem.run_bind,run_eqGuard_agg w _ _ _ _ _ _ hg,Result.andThen_ok,run_neq_struct,he];rfl
 simp only[eqT,Bool.or_eq_true,Bool.and_eq_true,beq_iff_eq,List.length_map] at het
 have l2:l.length=2→∃ p0 p1,l=[p0,p1]:=fun h=>by match l,h with | [p0,p1],_=>exact⟨p0,p1,rfl⟩
 rcases het with⟨rfl,hl⟩ | ⟨rfl,hl⟩
 ·obtain⟨p0,p1,rfl⟩:=l2 hl
  exact fin Tryz.eqGuardType47 (eq47 w 9998 p0.1 p1.1 p0.2.1 p1.2.1 p0.2.2 p1.2.2)
 ·obtain⟨p0,p1,rfl⟩:=l2 hl
  exact fin Tryz.eqGuardType53 (eq53 w 9998 p0.1 p1.1 p0.2.1 p1.2.1 p0.2.2 p1.2.2)
end
end Go.Sim.Le

namespace Go.Sim.Le
open Go.RowKit Go.Proofs Go.Maps
theorem laid:laidOutB Tryz.prog=true:=by kernel_rfl
theorem wf_mk {x:Int} (h1:IntKind.i64.min≤x) (h2:x≤IntKind.i64.max):(Lit.int .i64 x).wf=true:=by
 unfold Lit.wf
 simp only[Bool.and_eq_true,decide_eq_true_eq]
 exact⟨h1,h2⟩
theorem ks_ints:∀ (n:Nat) (cs:List V),kssB (List.replicate n (.int .i64)) cs=true→∃ l:List Int,cs=l.map (fun x=>V.int .i64 x)∧l.length=n∧∀ x ∈ l,(Lit.int .i64 x).wf=true
 |0,[],_=>⟨[],rfl,rfl,fun _ h=>by simp at h⟩
 |0,_ :: _,h=>by simp[kssB] at h
 |n+1,[],h=>by simp[List.replicate,kssB] at h
 |n+1,c :: cs,h=>by
  simp only[List.replicate,kssB,Bool.and_eq_true] at h
  obtain⟨h1,h2⟩:=h
  obtain⟨l,rfl,hl,hw⟩:=ks_ints n cs h2
  cases c with
  |int q x =>
   simp only[ksB,Bool.and_eq_true,decide_eq_true_eq] at h1
   obtain⟨rfl,h3,h4⟩:=h1
   refine⟨x :: l,rfl,by simp[hl],fun y hy=>?_⟩
   rcases List.mem_cons.1 hy with rfl | hy
   ·exact wf_mk h3 h4
   ·exact hw y hy
  |_=>simp[ksB] at h1
variable [Start]
theorem ag_ints {t:TypeId} {n:Nat} (ha:aggT Tryz.prog t=true) (hk:kssOf Tryz.prog 12 t=List.replicate n (.int .i64)) {w:World} {pv:Nat→Prop} {ρ:Nat→Option Info} {v:Value} {c:V} (hr:Rel w pv ρ v c) (h:keyB (aggT Tryz.prog t) (kssOf Tryz.prog 12 t) c=true) :
 ∃ l:List Int,v = .agg (l.map fun x=>Value.int .i64 x).toArray∧l.length=n∧∀ x ∈ l,(Lit.int .i64 x).wf=true:=by
 rw[ha,hk] at h
 cases c with
 |agg cs =>
  simp only[keyB,Bool.true_and] at h
  obtain⟨l,rfl,hl,hw⟩:=ks_ints n cs h
  refine⟨l,?_,hl,hw⟩
  cases hr with
  |agg h1 h2 =>
   rename_i vs
   have:=relL_ints (l:=l.map fun x=>(IntKind.i64,x)) (w:=w) (pv:=pv) (ρ:=ρ) (vs:=vs) ⟨by simpa using h1,fun i v c g1 g2=>h2 i v c g1 (by simpa using g2)⟩
   rw[this];simp[Function.comp_def]
 |_=>simp[keyB] at h
theorem lits1 {d:Nat} {x:Int} (h:(Lit.int .i64 x).wf=true):Tryz.prog.keyLits (d+1) 3 [.int .i64 x]=some [.int .i64 x]:=by
 unfold Program.keyLits
 rw[Tryz.underlying3]
 simp[h]
theorem cells3:Tryz.prog.cellsOf 3=1:=by kernel_rfl
theorem cells44:Tryz.prog.cellsOf 44=4:=by kernel_rfl
theorem cells137:Tryz.prog.cellsOf 137=2:=by kernel_rfl
theorem cells145:Tryz.prog.cellsOf 145=2:=by kernel_rfl
theorem cells149:Tryz.prog.cellsOf 149=6:=by kernel_rfl
theorem tys:∃ n,Tryz.prog.types.size=n+9:=by
 have h:9≤Tryz.prog.types.size:=by decide +kernel
 exact⟨Tryz.prog.types.size - 9,by omega⟩
theorem lits145 {d:Nat} {x y:Int} (hx:(Lit.int .i64 x).wf=true) (hy:(Lit.int .i64 y).wf=true):Tryz.prog.keyLits (d+2) 145 [.int .i64 x,.int .i64 y]=some [.int .i64 x,.int .i64 y]:=by
 unfold Program.keyLits
 simp only[Tryz.underlying145,cells145]
 rw[if_pos ⟨rfl,by decide +kernel⟩]
 simp[cells3,lits1 hx,lits1 hy]
theorem lits137 {d:Nat} {x y:Int} (hx:(Lit.int .i64 x).wf=true) (hy:(Lit.int .i64 y).wf=true):Tryz.prog.keyLits (d+2) 137 [.int .i64 x,.int .i64 y]=some [.int .i64 x,.int .i64 y]:=by
 unfold Program.keyLits
 simp only[Tryz.underlying137,cells137]
 rw[if_pos ⟨rfl,by decide +kernel⟩]
 simp[cells3,lits1 hx,lits1 hy]
theorem lits44 {d:Nat} {a b x y:Int} (ha:(Lit.int .i64 a).wf=true) (hb:(Lit.int .i64 b).wf=true) (hx:(Lit.int .i64 x).wf=true) (hy:(Lit.int .i64 y).wf=true) :
 Tryz.prog.keyLits (d+2) 44 [.int .i64 a,.int .i64 b,.int .i64 x,.int .i64 y]=some [.int .i64 a,.int .i64 b,.int .i64 x,.int .i64 y]:=by
 unfold Program.keyLits
 simp only[Tryz.underlying44,cells44]
 rw[if_pos ⟨rfl,by decide +kernel⟩]
 simp[cells3,lits1 ha,lits1 hb,lits1 hx,lits1 hy]
theorem lits149 {d:Nat} {a b x y p q:Int} (ha:(Lit.int .i64 a).wf=true) (hb:(Lit.int .i64 b).wf=true) (hx:(Lit.int .i64 x).wf=true) (hy:(Lit.int .i64 y).wf=true) (hp:(Lit.int .i64 p).wf=true) (hq:(Lit.int .i64 q).wf=true) :
 Tryz.prog.keyLits (d+3) 149 [.int .i64 a,.int .i64 b,.int .i64 x,.int .i64 y,.int .i64 p,.int .i64 q]=some [.int .i64 a,.int .i64 b,.int .i64 x,.int .i64 y,.int .i64 p,.int .i64 q]:=by
 unfold Program.keyLits
 simp only[Tryz.underlying149,cells149]
 rw[if_pos ⟨rfl,by decide +kernel⟩]
 simp[cells44,cells137,lits44 ha hb hx hy,lits137 hp hq]
theorem key145 {w:World} {pv:Nat→Prop} {ρ:Nat→Option Info} {v:Value} {c:V} (hr:Rel w pv ρ v c) (h:keyB (aggT Tryz.prog 145) (kssOf Tryz.prog 12 145) c=true):∃ l,keyOf Tryz.prog 145 v=some l:=by
 obtain⟨l,rfl,hl,hw⟩:=ag_ints (n:=2) (by kernel_rfl) (by kernel_rfl) hr h
 match l,hl with
 |[x,y],_ =>
  obtain⟨n,hn⟩:=tys
  unfold keyOf
  simp only[Tryz.underlying145]
  rw[if_pos (by rw[Bool.and_eq_true];exact⟨by kernel_rfl,by simp[Value.formed,Tryz.underlying145,cells145]⟩),hn]
  simp only[List.map,Value.cells,lits145 (d:=n+8) (hw x (by simp)) (hw y (by simp)),Option.map_some]
  exact⟨_,rfl⟩
theorem key149 {w:World} {pv:Nat→Prop} {ρ:Nat→Option Info} {v:Value} {c:V} (hr:Rel w pv ρ v c) (h:keyB (aggT Tryz.prog 149) (kssOf Tryz.prog 12 149) c=true):∃ l,keyOf Tryz.prog 149 v=some l:=by
 obtain⟨l,rfl,hl,hw⟩:=ag_ints (n:=6) (by kernel_rfl) (by kernel_rfl) hr h
 match l,hl with
 |[a,b,x,y,p,q],_ =>
  obtain⟨n,hn⟩:=tys
  unfold keyOf
  simp only[Tryz.underlying149]
  rw[if_pos (by rw[Bool.and_eq_true];exact⟨by kernel_rfl,by simp[Value.formed,Tryz.underlying149,cells149]⟩),hn]
  simp only[List.map,Value.cells,lits149 (d:=n+7) (hw a (by simp)) (hw b (by simp)) (hw x (by simp)) (hw y (by simp)) (hw p (by simp)) (hw q (by simp)),Option.map_some]
  exact⟨_,rfl⟩
theorem key3 {w:World} {pv:Nat→Prop} {ρ:Nat→Option Info} {v:Value} {c:V} (hr:Rel w pv ρ v c) (h:keyB (aggT Tryz.prog 3) (kssOf Tryz.prog 12 3) c=true):∃ l,keyOf Tryz.prog 3 v=some l:=by
 rw[show aggT Tryz.prog 3=false by kernel_rfl,show kssOf Tryz.prog 12 3=[.int .i64] by kernel_rfl] at h
 cases c with
 |int q x =>
  simp only[keyB,Bool.not_false,Bool.true_and,kssB,ksB,Bool.and_true,Bool.and_eq_true,decide_eq_true_eq] at h
  obtain⟨rfl,h3,h4⟩:=h
  cases hr
  exact⟨_,keyOf_int_mk Tryz.underlying3 (wf_mk h3 h4)⟩
 |_=>simp[keyB,kssB,ksB] at h
theorem okX:OkX Tryz.prog opt:=by
 refine⟨okEq,fun t ht=>?_,fun t ht w pv ρ v c hr hk=>?_⟩
 ·simp only[opt,keyT,Bool.or_eq_true,beq_iff_eq] at ht
  rcases ht with (rfl | rfl) | rfl
  ·exact int_keyed Tryz.underlying3
  ·exact Keyed.of_law (deep_law_laid laid (m:=5) (by omega) (by decide +kernel) (by kernel_rfl) (by kernel_rfl))
  ·exact Keyed.of_law (deep_law_laid laid (m:=5) (by omega) (by decide +kernel) (by kernel_rfl) (by kernel_rfl))
 ·simp only[opt,keyT,Bool.or_eq_true,beq_iff_eq] at ht
  rcases ht with (rfl | rfl) | rfl
  ·exact key3 hr hk
  ·exact key145 hr hk
  ·exact key149 hr hk
theorem okCfg (F:Nat):OkCfg Tryz.prog (cfg F):=fun _=>okX
theorem okE (F d:Nat):OkEnv Tryz.prog (E F d):=envN_ok (okCfg F) names d
end Go.Sim.Le

namespace Go.Sim.Le
structure Span where
 lo:Int
 hi:Int
 deriving DecidableEq
structure Sl (α:Type) where
 nl:Bool
 len:Nat
 el:Nat→α
structure Slc where
 vol:Span
 opn:Int
 fall:Int
 rate:Span
 most:Int
structure Cav where
 slices:Sl Slc
 hold:Int
 oil:Int
structure Stg where
 water:Int
 into:Int
 out:Int
 blanket:Int
 deriving DecidableEq
structure Truth where
 vols:Sl Int
 rates:Sl (Sl Int)
structure Mea where
 weights:Sl Int
 sump:Int
abbrev i64 (n:Int):V:=.int .i64 n
abbrev eInt (n:Int):List V:=[.int .i64 n]
abbrev eSpan (s:Span):List V:=[.int .i64 s.lo,.int .i64 s.hi]
abbrev eSlc (c:Slc):List V:=[.int .i64 c.vol.lo,.int .i64 c.vol.hi,.int .i64 c.opn,.int .i64 c.fall,.int .i64 c.rate.lo,.int .i64 c.rate.hi,.int .i64 c.most]
abbrev eStg (s:Stg):List V:=[.int .i64 s.water,.int .i64 s.into,.int .i64 s.out,.int .i64 s.blanket]
abbrev sl {α:Type} (e:α→List V) (wd:Nat) (s:Sl α):V:=.row s.nl s.len wd fun i=>e (s.el i)
abbrev eCav (c:Cav):List V:=[sl eSlc 7 c.slices,.int .i64 c.hold,.int .i64 c.oil]
abbrev eMea (m:Mea):List V:=[sl eInt 1 m.weights,.int .i64 m.sump]
end Go.Sim.Le

namespace Go.Sim.Lg
open Go.RowKit Go.Proofs
def keepTab:List (Nat × List (Nat × List Nat)):=[
 (8,[(6,[4,21,22,23])]),
 (10,[(4,[3,4,5,6]),(10,[3,4,5,6,7])]),
 (11,[(8,[2,3,4,26,27])]),
 (12,[(4,[2,3,5])]),
 (13,[(7,[0,2,4,5,7,8])]),
 (26,[(2,[0,13,14,15])]),
 (31,[(3,[1,3,4])]),
 (32,[(2,[0,1,5])]),
 (34,[(8,[0,11,49,50,51])]),
 (35,[(3,[0,1,5,6])]),
 (36,[(6,[8,9,10])]),
 (56,[(2,[0,3])]),
 (60,[(5,[0,6,7])])]
def eqT (t n:Nat):Bool:=t==74 && n==7
def hm (f:Nat):Bool:=f==54 || f==26 || f==34 || f==59
def hd (f:Nat):Bool:=f==27
def ro (f j:Nat):Bool:=f==27 && j==0
def sp (g:Nat) (old:List Slot):Option (Vp × Sp) :=
 bif g==59 then some (.one .int,.keep .nil) else bif g==34 then some (.one (.osl 1),.keep (.arr 3 1 .nil))
 else bif g==54 then (match old with
  |[_]=>some (.any,.cells 71 [.same (.optr 0 0 0),.osl 1,.int] fun _=>.arr 5 1 .nil)
  |_=>some (.any,.cells 71 [.same (.optr 0 0 0),.osl 2,.int] fun _=>.dead (.arr 5 1 .nil)))
 else bif g==26 then (match old with
  |[_,_]=>some (.unit,.cells 71 [.same (.optr 0 0 0),.osl 2,.int] fun _=>.keep (.arr 5 1 .nil))
  |_=>some (.unit,.cells 71 [.same (.optr 0 0 0),.osl 3,.int] fun _=>.keep (.dead (.arr 5 1 .nil)))) else none
def opt:Opt:={ eqT:=eqT,hm:=hm,hd:=hd,ro:=ro,sp:=sp }
def cfg (F f:Nat):Cfg:={ x:=opt,keep:=fun r=>Le.look r (Le.look f keepTab []) [],fuel:=fun _=>F,bar:=fun r=>bif f==26 && r==4 then 6 else 0,pn:=f==34 || f==59 }
def bs (l:List Nat):ByteArray:=⟨(l.map UInt8.ofNat).toArray⟩
noncomputable def overH (o:Nat→List V→Option Out) (h:Nat→List V→List Slot→Option (Out × List Slot)) (env:Env):Env :=
 ⟨fun g args=>match o g args with | some x=>some x | none=>env.pf g args,fun g args hp=>match h g args hp with | some x=>some x | none=>env.hv g args hp⟩
theorem okOverH [Start] {P:Program} {o:Nat→List V→Option Out} (ho:OkPf P o) {h:Nat→List V→List Slot→Option (Out × List Slot)} (hh:OkHv P h) (hp:OkHvP P h) {env:Env} (he:OkEnv P env):OkEnv P (overH o h env):=by
 refine⟨(okOver ho he).pf,fun g args s v s' hx=>?_,fun g args s v s' hx=>?_⟩
 ·have hx':(match h g args s with | some x=>some x | none=>env.hv g args s)=some (.ret v,s'):=hx
  cases hy:h g args s with
  |none=>rw[hy] at hx';exact he.hv g args s v s' hx'
  |some y=>rw[hy] at hx';cases hx';exact hh g args s v s' hy
 ·have hx':(match h g args s with | some x=>some x | none=>env.hv g args s)=some (.pan v,s'):=hx
  cases hy:h g args s with
  |none=>rw[hy] at hx';exact he.hp g args s v s' hx'
  |some y=>rw[hy] at hx';cases hx';exact hp g args s v s' hy
def isLe (g:Nat):Bool:=g==7 || g==9 || g==25
def isLib (g:Nat):Bool:=g==55 || g==57 || g==58 || g==78
noncomputable def lib (F g:Nat) (args:List V):Option Out:=bif isLe g then (Le.E F 40).pf g args else orc g args
theorem lib_ok [Start] [Vars] (F:Nat):OkPf Tryz.prog (lib F):=by
 intro g args out h
 unfold lib at h
 cases hg:isLe g with
 |true=>rw[hg,cond_true] at h;exact (Le.okE F 40).pf g args out h
 |false=>rw[hg,cond_false] at h;exact orc_ok g args out h
def fixR:V→V
 |.row nl len wd g=>bif Nat.beq wd 0 && (nl && Nat.beq len 0) then .row true 0 7 (fun _=>Le.eSlc ⟨⟨0,0⟩,0,0,⟨0,0⟩,0⟩) else .row nl len wd g
 |v=>v
def fixC:V→V
 |.agg [r,a,b]=>.agg [fixR r,a,b]
 |v=>v
noncomputable def fx (env:Env):Env:=⟨fun g args=>env.pf g (args.map fixC),env.hv⟩
noncomputable def E (F:Nat):Nat→Env
 |0=>fx (overH (lib F) hvo ⟨fun _ _=>none,fun _ _ _=>none⟩)
 |d+1=>fx (overH (lib F) hvo ⟨fun f args=>evFun Tryz.prog (cfg F) (E F d) f args,fun f args hp=>evFunH Tryz.prog (cfg F) (E F d) f args hp⟩)
theorem overH_pf (o:Nat→List V→Option Out) (h:Nat→List V→List Slot→Option (Out × List Slot)) (env:Env) (f:Nat) (a:List V):(overH o h env).pf f a=(match o f a with | some x=>some x | none=>env.pf f a):=by simp only[overH]
theorem overH_hv (o:Nat→List V→Option Out) (h:Nat→List V→List Slot→Option (Out × List Slot)) (env:Env) (f:Nat) (a:List V) (s:List Slot):(overH o h env).hv f a s=(match h f a s with | some x=>some x | none=>env.hv f a s):=by simp only[overH]
theorem E_0 (F f:Nat) (a:List V):(E F 0).pf f a=(overH (lib F) hvo ⟨fun _ _=>none,fun _ _ _=>none⟩).pf f (a.map fixC):=by rw[E];simp only[fx]
theorem E_S (F d f:Nat) (a:List V):(E F (d+1)).pf f a=(overH (lib F) hvo ⟨fun f args=>evFun Tryz.prog (cfg F) (E F d) f args,fun f args hp=>evFunH Tryz.prog (cfg F) (E F d) f args hp⟩).pf f (a.map fixC):=by rw[E];simp only[fx]
theorem E_h0 (F f:Nat) (a:List V) (s:List Slot):(E F 0).hv f a s=(overH (lib F) hvo ⟨fun _ _=>none,fun _ _ _=>none⟩).hv f a s:=by rw[E];simp only[fx]
theorem E_hS (F d f:Nat) (a:List V) (s:List Slot):(E F (d+1)).hv f a s=(overH (lib F) hvo ⟨fun f args=>evFun Tryz.prog (cfg F) (E F d) f args,fun f args hp=>evFunH Tryz.prog (cfg F) (E F d) f args hp⟩).hv f a s:=by rw[E];simp only[fx]
theorem E_fix (F d f:Nat) (a b:List V) (h:a.map fixC=b.map fixC):(E F d).pf f a=(E F d).pf f b:=by
 cases d with
 |zero=>rw[E_0,E_0,h]
 |succ d=>rw[E_S,E_S,h]
theorem orc_none {g:Nat} {args:List V} (h:isLib g=false):orc g args=none:=by
 unfold isLib at h
 simp only[Bool.or_eq_false_iff,beq_eq_false_iff_ne,ne_eq] at h
 unfold orc
 split
 ·rw[if_neg (fun e=>h.1.1.1 e.1)]
 ·rw[if_neg (fun e=>h.2 e.1)]
 ·rw[if_neg (fun e=>h.1.1.2 e.1),if_neg (fun e=>h.1.2 e.1)]
 ·rfl
theorem E_pf (F d f:Nat) (a:List V) (h1:isLe f=false) (h2:isLib f=false) (h3:a.map fixC=a):(E F (d+1)).pf f a=evFun Tryz.prog (cfg F) (E F d) f a:=by
 have:lib F f a=none:=by unfold lib;rw[h1,cond_false,orc_none h2]
 rw[E_S,h3,overH_pf,this]
theorem E_o {F d f:Nat} {a:List V} {x:Out} (h1:isLe f=false) (h:orc f a=some x) (h3:a.map fixC=a):(E F d).pf f a=some x:=by
 have:lib F f a=some x:=by unfold lib;rw[h1,cond_false,h]
 cases d with
 |zero=>rw[E_0,h3,overH_pf,this]
 |succ d=>rw[E_S,h3,overH_pf,this]
theorem E_l {F d f:Nat} {a:List V} {x:Out} (h1:isLe f=true) (h:(Le.E F 40).pf f a=some x) (h3:a.map fixC=a):(E F d).pf f a=some x:=by
 have:lib F f a=some x:=by unfold lib;rw[h1,cond_true,h]
 cases d with
 |zero=>rw[E_0,h3,overH_pf,this]
 |succ d=>rw[E_S,h3,overH_pf,this]
theorem E_hv (F d f:Nat) (a:List V) (hp:List Slot) (h1:f ≠ 54) (h2:f ≠ 27):(E F (d+1)).hv f a hp=evFunH Tryz.prog (cfg F) (E F d) f a hp:=by
 have:hvo f a hp=none:=by
  cases hx:hvo f a hp with
  |none=>rfl
  |some p =>
   obtain⟨o,s⟩:=p
   obtain⟨v,_,hr⟩:=of_hvo hx
   cases hr with
   |first=>exact absurd rfl h1
   |more=>exact absurd rfl h1
   |str=>exact absurd rfl h2
 rw[E_hS,overH_hv,this]
theorem E_h {F d f:Nat} {a:List V} {hp:List Slot} {v:V} {s:List Slot} (h:HvoR f a hp v s):(E F d).hv f a hp=some (.ret v,s):=by
 have:=hvo_of h
 cases d with
 |zero=>rw[E_h0,overH_hv,this]
 |succ d=>rw[E_hS,overH_hv,this]
end Go.Sim.Lg

namespace Go.Sim.Lg
open Go.RowKit Go.Proofs
variable [Start]
section
variable (w:World)
theorem part47 {cs:Array Value} {off:Nat} {u v:Value} (h0:cs[off]? = some u) (h1:cs[off+1]? = some v):(part 47 cs off).run Tryz.prog w = .ok (.agg #[u,v]) w:=by
 unfold part
 simp[Tryz.isAgg47,Tryz.sizeOf47,Le.extract2 h0 h1]
set_option maxRecDepth 100000 in
theorem eq7 (d : Nat) (f0 f1 f2 f3 f4 : Field) (n0 : f0.name ≠ "_") (n1 : f1.name ≠ "_") (n2 : f2.name ≠ "_") (n3 : f3.name ≠ "_") (n4 : f4.name ≠ "_") (t0 : f0.type = 47) (t1 : f1.type = 3) (t2 : f2.type = 3) (t3 : f3.type = 47) (t4 : f4.type = 3)
 (o0:f0.offset=0) (o1:f1.offset=2) (o2:f2.offset=3) (o3:f3.offset=4) (o4:f4.offset=6) (k0 k1 k2 k3 k4 k5 k6:IntKind) (a0 a1 a2 a3 a4 a5 a6 b0 b1 b2 b3 b4 b5 b6:Int) :
 (Op.eqFields (d+2) (#[.int k0 a0,.int k1 a1,.int k2 a2,.int k3 a3,.int k4 a4,.int k5 a5,.int k6 a6]:Array Value) (#[.int k0 b0,.int k1 b1,.int k2 b2,.int k3 b3,.int k4 b4,.int k5 b5,.int k6 b6]:Array Value) [f0,f1,f2,f3,f4]).run Tryz.prog w =
  .ok ((a0==b0 && (a1==b1 && true)) && ((a2==b2) && ((a3==b3) && ((a4==b4 && (a5==b5 && true)) && ((a6==b6) && true))))) w:=by
 have x0:(part 47 (#[.int k0 a0,.int k1 a1,.int k2 a2,.int k3 a3,.int k4 a4,.int k5 a5,.int k6 a6]:Array Value) 0).run Tryz.prog w = .ok (.agg #[.int k0 a0,.int k1 a1]) w:=part47 w (by simp) (by simp)
 have y0:(part 47 (#[.int k0 b0,.int k1 b1,.int k2 b2,.int k3 b3,.int k4 b4,.int k5 b5,.int k6 b6]:Array Value) 0).run Tryz.prog w = .ok (.agg #[.int k0 b0,.int k1 b1]) w:=part47 w (by simp) (by simp)
 have x1:(part 3 (#[.int k0 a0,.int k1 a1,.int k2 a2,.int k3 a3,.int k4 a4,.int k5 a5,.int k6 a6]:Array Value) 2).run Tryz.prog w = .ok (.int k2 a2) w:=Le.part3 w _ _ _ (by simp)
 have y1:(part 3 (#[.int k0 b0,.int k1 b1,.int k2 b2,.int k3 b3,.int k4 b4,.int k5 b5,.int k6 b6]:Array Value) 2).run Tryz.prog w = .ok (.int k2 b2) w:=Le.part3 w _ _ _ (by simp)
 have x2:(part 3 (#[.int k0 a0,.int k1 a1,.int k2 a2,.int k3 a3,.int k4 a4,.int k5 a5,.int k6 a6]:Array Value) 3).run Tryz.prog w = .ok (.int k3 a3) w:=Le.part3 w _ _ _ (by simp)
 have y2:(part 3 (#[.int k0 b0,.int k1 b1,.int k2 b2,.int k3 b3,.int k4 b4,.int k5 b5,.int k6 b6]:Array Value) 3).run Tryz.prog w = .ok (.int k3 b3) w:=Le.part3 w _ _ _ (by simp)
 have x3:(part 47 (#[.int k0 a0,.int k1 a1,.int k2 a2,.int k3 a3,.int k4 a4,.int k5 a5,.int k6 a6]:Array Value) 4).run Tryz.prog w = .ok (.agg #[.int k4 a4,.int k5 a5]) w:=part47 w (by simp) (by simp)
 have y3:(part 47 (#[.int k0 b0,.int k1 b1,.int k2 b2,.int k3 b3,.int k4 b4,.int k5 b5,.int k6 b6]:Array Value) 4).run Tryz.prog w = .ok (.agg #[.int k4 b4,.int k5 b5]) w:=part47 w (by simp) (by simp)
 have x4:(part 3 (#[.int k0 a0,.int k1 a1,.int k2 a2,.int k3 a3,.int k4 a4,.int k5 a5,.int k6 a6]:Array Value) 6).run Tryz.prog w = .ok (.int k6 a6) w:=Le.part3 w _ _ _ (by simp)
 have y4:(part 3 (#[.int k0 b0,.int k1 b1,.int k2 b2,.int k3 b3,.int k4 b4,.int k5 b5,.int k6 b6]:Array Value) 6).run Tryz.prog w = .ok (.int k6 b6) w:=Le.part3 w _ _ _ (by simp)
 refine Le.eqF w n0 (by rw[t0,o0];exact x0) (by rw[t0,o0];exact y0) (by rw[t0];exact Le.eq47 w d k0 k1 a0 a1 b0 b1) ?_
 refine Le.eqF w n1 (by rw[t1,o1];exact x1) (by rw[t1,o1];exact y1) (by rw[t1];exact Le.int3 w (d+1) k2 a2 b2) ?_
 refine Le.eqF w n2 (by rw[t2,o2];exact x2) (by rw[t2,o2];exact y2) (by rw[t2];exact Le.int3 w (d+1) k3 a3 b3) ?_
 refine Le.eqF w n3 (by rw[t3,o3];exact x3) (by rw[t3,o3];exact y3) (by rw[t3];exact Le.eq47 w d k4 k5 a4 a5 b4 b5) ?_
 refine Le.eqF w n4 (by rw[t4,o4];exact x4) (by rw[t4,o4];exact y4) (by rw[t4];exact Le.int3 w (d+1) k6 a6 b6) ?_
 exact Le.eqN w
set_option maxRecDepth 100000 in
theorem eq74 (d:Nat) (k0 k1 k2 k3 k4 k5 k6:IntKind) (a0 a1 a2 a3 a4 a5 a6 b0 b1 b2 b3 b4 b5 b6:Int) :
 (Op.equalIn (d+3) 74 (.agg #[.int k0 a0,.int k1 a1,.int k2 a2,.int k3 a3,.int k4 a4,.int k5 a5,.int k6 a6]) (.agg #[.int k0 b0,.int k1 b1,.int k2 b2,.int k3 b3,.int k4 b4,.int k5 b5,.int k6 b6])).run Tryz.prog w =
  .ok ((a0==b0 && (a1==b1 && true)) && ((a2==b2) && ((a3==b3) && ((a4==b4 && (a5==b5 && true)) && ((a6==b6) && true))))) w:=by
 rw[Le.eqS w _ _ Tryz.underlying74 Tryz.stoodInHeld74]
 exact eq7 w d _ _ _ _ _ (by simp) (by simp) (by simp) (by simp) (by simp) rfl rfl rfl rfl rfl rfl rfl rfl rfl rfl k0 k1 k2 k3 k4 k5 k6 a0 a1 a2 a3 a4 a5 a6 b0 b1 b2 b3 b4 b5 b6
end
set_option maxRecDepth 100000 in
theorem okEqL:OkEq Tryz.prog eqT:=by
 intro t op xs ys x y w bs cs r het hcs pv ρ hx hy
 obtain⟨l,rfl,rfl,rfl⟩:=eqCs_inv hcs
 have hx':=relL_ints (l:=l.map fun p=>(p.1,p.2.1)) (by simpa[List.map_map,Function.comp_def] using hx)
 have hy':=relL_ints (l:=l.map fun p=>(p.1,p.2.2)) (by simpa[List.map_map,Function.comp_def] using hy)
 subst hx' hy'
 clear hx hy hcs
 have fin:Tryz.prog.eqGuardType Tryz.prog.depth t=false→(Op.equalIn 10000 t (.agg ((l.map fun p=>(p.1,p.2.1)).map fun p=>Value.int p.1 p.2).toArray) (.agg ((l.map fun p=>(p.1,p.2.2)).map fun p=>Value.int p.1 p.2).toArray)).run Tryz.prog w = .ok (l.all fun p=>p.2.1==p.2.2) w →
  (op = .eql→(do eqGuard op t x y (.agg ((l.map fun p=>(p.1,p.2.1)).map fun p=>Value.int p.1 p.2).toArray) (.agg ((l.map fun p=>(p.1,p.2.2)).map fun p=>Value.int p.1 p.2).toArray);binOp op t (.agg ((l.map fun p=>(p.1,p.2.1)).map fun p=>Value.int p.1 p.2).toArray) (.agg ((l.map fun p=>(p.1,p.2.2)).map fun p=>Value.int p.1 p.2).toArray):Sem Value).run Tryz.prog w = .ok (.bool (l.all fun p=>p.2.1==p.2.2)) w) ∧
  (op = .neq→(do eqGuard op t x y (.agg ((l.map fun p=>(p.1,p.2.1)).map fun p=>Value.int p.1 p.2).toArray) (.agg ((l.map fun p=>(p.1,p.2.2)).map fun p=>Value.int p.1 p.2).toArray);binOp op t (.agg ((l.map fun p=>(p.1,p.2.1)).map fun p=>Value.int p.1 p.2).toArray) (.agg ((l.map fun p=>(p.1,p.2.2)).map fun p=>Value.int p.1 p.2).toArray):Sem Value).run Tryz.prog w = .ok (.bool (!(l.all fun p=>p.2.1==p.2.2))) w):=by
  intro hg he
  constructor
  ·rintro rfl
   rw[Sem.run_bind,run_eqGuard_agg w _ _ _ _ _ _ hg,Result.andThen_ok,run_eql_struct,he];rfl
  ·rintro rfl
   rw[Sem.run_bind,run_eqGuard_agg w _ _ _ _ _ _ hg,Result.andThen_ok,run_neq_struct,he];rfl
 simp only[eqT,Bool.and_eq_true,beq_iff_eq,List.length_map] at het
 obtain⟨rfl,hl⟩:=het
 obtain⟨p0,p1,p2,p3,p4,p5,p6,rfl⟩:∃ p0 p1 p2 p3 p4 p5 p6,l=[p0,p1,p2,p3,p4,p5,p6]:=by match l,hl with | [p0,p1,p2,p3,p4,p5,p6],_=>exact⟨p0,p1,p2,p3,p4,p5,p6,rfl⟩
 refine fin Tryz.eqGuardType74 ((eq74 w 9997 p0.1 p1.1 p2.1 p3.1 p4.1 p5.1 p6.1 p0.2.1 p1.2.1 p2.2.1 p3.2.1 p4.2.1 p5.2.1 p6.2.1 p0.2.2 p1.2.2 p2.2.2 p3.2.2 p4.2.2 p5.2.2 p6.2.2).trans ?_)
 simp only[List.all_cons,List.all_nil,Bool.and_true,Bool.and_assoc]
theorem okX:OkX Tryz.prog opt:=⟨okEqL,fun t ht=>(by cases ht),fun t ht=>(by cases ht)⟩
theorem okCfg (F:Nat):OkCfg Tryz.prog (cfg F):=fun _=>okX
theorem fix_ok (w:World) (pv:Nat→Prop) (v:Value) (c:V) (h:Rel w pv none_ v c):Rel w pv none_ v (fixC c):=by
 unfold fixC
 split
 ·rename_i r a b
  cases h with
  |agg hl h =>
   refine .agg hl fun i u d g1 g2=>?_
   match i,g1,g2 with
   |0,g1,g2 =>
    cases g2
    have h0:=h 0 u r g1 rfl
    unfold fixR
    split
    ·rename_i nl len wd g
     cases hb:Nat.beq wd 0 && (nl && Nat.beq len 0) with
     |false=>exact h0
     |true =>
      rw[Bool.and_eq_true,Bool.and_eq_true] at hb
      obtain⟨e1,rfl,e3⟩:=hb
      obtain rfl:=Nat.eq_of_beq_eq_true e1
      obtain rfl:=Nat.eq_of_beq_eq_true e3
      exact rel_nil h0
    ·exact h0
   |n+1,g1,g2=>exact h (n+1) u d g1 g2
 ·exact h
theorem okFx {env:Env} (h:OkEnv Tryz.prog env):OkEnv Tryz.prog (fx env):=okFix h fixC fix_ok
theorem okE [Vars] (F d:Nat):OkEnv Tryz.prog (E F d):=by
 induction d with
 |zero=>rw[E];exact okFx (okOverH (lib_ok F) hvo_ok hvo_pan ⟨fun g args out h=>(by cases h),fun g args hp v hp' h=>(by cases h),fun g args hp v hp' h=>(by cases h)⟩)
 |succ d ih=>rw[E];exact okFx (okOverH (lib_ok F) hvo_ok hvo_pan (okEv (okCfg F) Le.names ih))
end Go.Sim.Lg
