import Derived.Test.YtgcaabopnnhoaaaGreatDoorAe
import Derived.IntWalk
set_option linter.unusedVariables false
set_option linter.unusedSimpArgs false
set_option linter.unusedSectionVars false
namespace Go.Sim.Le
open Go.Proofs
section
variable {R:Type}
theorem tkOut_ret (v:V) (f:R) (k kp:V→R):tkOut (some (.ret v)) f k kp=k v:=Eq.trans (Eq.refl _) (Eq.refl _)
theorem tkBool_b (b:Bool) (f:R) (k:Bool→R):tkBool (.bool b) f k=k b:=Eq.trans (Eq.refl _) (Eq.refl _)
theorem tkInt_i (q:IntKind) (n:Int) (f:R) (k:IntKind→Int→R):tkInt (.int q n) f k=k q n:=Eq.trans (Eq.refl _) (Eq.refl _)
theorem tkAgg_a (l:List V) (f:R) (k:List V→R):tkAgg (.agg l) f k=k l:=Eq.trans (Eq.refl _) (Eq.refl _)
theorem tkTup_t (l:List V) (f:R) (k:List V→R):tkTup (.tup l) f k=k l:=Eq.trans (Eq.refl _) (Eq.refl _)
theorem tkRow_r (a:Bool) (n wd:Nat) (g:Nat→List V) (f:R) (k:Bool→Nat→Nat→(Nat→List V)→R):tkRow (.row a n wd g) f k=k a n wd g:=Eq.trans (Eq.refl _) (Eq.refl _)
theorem tkCons_c (v:V) (l:List V) (f:R) (k:V→List V→R):tkCons (v :: l) f k=k v l:=Eq.trans (Eq.refl _) (Eq.refl _)
theorem tkNil_n (f k:R):tkNil [] f k=k:=Eq.trans (Eq.refl _) (Eq.refl _)
theorem tkFn_f (g:Nat) (a b:List V) (f:R) (k:Nat→List V→List V→R):tkFn (.fn (.func g) a b) f k=k g a b:=Eq.trans (Eq.refl _) (Eq.refl _)
theorem tkPtr_p (n wd:Nat) (g:Nat→List V) (i o:Nat) (f:R) (k:Nat→Nat→(Nat→List V)→Nat→Nat→R):tkPtr (.rptr n wd g i o) f k=k n wd g i o:=Eq.trans (Eq.refl _) (Eq.refl _)
theorem tkHv_h (v:V) (h:List Slot) (f:R) (k:V→List Slot→R):tkHv (some (.ret v,h)) f k=k v h:=Eq.trans (Eq.refl _) (Eq.refl _)
theorem tkSCons_c (s:Slot) (l:List Slot) (f:R) (k:Slot→List Slot→R):tkSCons (s :: l) f k=k s l:=Eq.trans (Eq.refl _) (Eq.refl _)
theorem tkSNil_n (f k:R):tkSNil [] f k=k:=Eq.trans (Eq.refl _) (Eq.refl _)
theorem tkBox_b (e:Nat) (c:List V) (w:Bool) (f:R) (k:Nat→List V→Bool→R):tkBox (.box e c w) f k=k e c w:=Eq.trans (Eq.refl _) (Eq.refl _)
theorem tkArr_a (e wd n:Nat) (g:Nat→List V) (w:Bool) (f:R) (k:Nat→Nat→Nat→(Nat→List V)→Bool→R):tkArr (.arr e wd n g w) f k=k e wd n g w:=Eq.trans (Eq.refl _) (Eq.refl _)
theorem tkMp_m (a:Bool) (ks:List KS) (es:List (V × V)) (w:Bool) (f:R) (k:Bool→List KS→List (V × V)→Bool→R):tkMp (.mp a ks es w) f k=k a ks es w:=Eq.trans (Eq.refl _) (Eq.refl _)
theorem tkSl_r (a:Bool) (n wd:Nat) (g:Nat→List V) (f:R) (k:Bool→Nat→Nat→(Nat→List V)→R) (k':Nat→Nat→Nat→R):tkSl (.row a n wd g) f k k'=k a n wd g:=Eq.trans (Eq.refl _) (Eq.refl _)
theorem pT (a b:R):(bif true then a else b)=a:=Eq.trans (Eq.refl _) (Eq.refl _)
theorem pF (a b:R):(bif false then a else b)=b:=Eq.trans (Eq.refl _) (Eq.refl _)
theorem tkSl_o (b lo n:Nat) (f:R) (k:Bool→Nat→Nat→(Nat→List V)→R) (k':Nat→Nat→Nat→R):tkSl (.osl b lo n) f k k'=k' b lo n:=Eq.trans (Eq.refl _) (Eq.refl _)
end
theorem cAnd (a b:Bool):(bif a then some (Out.ret (.bool b)) else some (.ret (.bool false)))=some (.ret (.bool (a && b))):=by cases a<;>rfl
theorem cOr (a b:Bool):(bif a then some (Out.ret (.bool true)) else some (.ret (.bool b)))=some (.ret (.bool (a || b))):=by cases a<;>rfl
theorem wr {n:Int} (h:-9223372036854775808≤n∧n≤9223372036854775807):IntKind.i64.wrap n=n:=by rw[IntKind.wrap_i64];omega
theorem wrS {i:Nat} (h:i<4611686018427387904):IntKind.i64.wrap ((i:Int)+1)=((i+1:Nat):Int):=by rw[wr (by omega)];omega
theorem b2 {a b:Bool} (h:a=true↔b=true):a=b:=by cases a<;>cases b<;>simp_all
theorem b3 {a b:Bool} (h:a=b):some (Out.ret (.bool a))=some (.ret (.bool b)):=by rw[h]
abbrev Big:Nat:=4611686018427387904
abbrev SpanIn (p:Span) (a b:Int):Prop:=a≤p.lo∧p.lo≤p.hi∧p.hi≤b
abbrev SlcOk (x:Slc):Prop:=SpanIn x.vol 0 10000000000000∧(1000≤x.opn∧x.opn≤3000)∧(0≤x.fall∧x.fall≤x.opn - 1)∧SpanIn x.rate 0 300∧0≤x.most∧x.most≤10000000000000
abbrev CavOk (c:Cav):Prop:=(1≤c.slices.len∧c.slices.len≤10)∧(1≤c.hold∧c.hold≤300)∧(0≤c.oil∧c.oil≤10000000000000)∧∀ i,i<c.slices.len→SlcOk (c.slices.el i)
abbrev StgOk (n:Nat) (s:Stg):Prop:=(1≤s.water∧s.water≤1000000)∧(0≤s.into∧s.into<n)∧(0≤s.out∧s.out<n)∧s.into ≠ s.out∧0≤s.blanket∧s.blanket≤n
variable (F d:Nat)
theorem s59 (x y z:Int):(E F (d+1)).pf 41 [.int .i64 x,.int .i64 y,.int .i64 z]=some (.ret (.bool (decide (y≤x∧x≤z)))):=by
 rw[E_pf,t59];simp only[cAnd,Bool.decide_and,ge_iff_le]
theorem s64 (x y z:Int):(E F (d+1)).pf 30 [.int .i64 x,.int .i64 y,.int .i64 z]=some (.ret (.bool (decide (y≤x∧x≤z)))):=by
 rw[E_pf,t64];simp only[cAnd,Bool.decide_and,ge_iff_le]
theorem s98 (p:Span) (a n:Int):(E F (d+1)).pf 53 [.agg (eSpan p),.int .i64 a,.int .i64 n]=some (.ret (.bool (decide (SpanIn p a n)))):=by
 rw[E_pf,t98];simp only[cAnd,Bool.decide_and,ge_iff_le]
theorem s70 (p:Span) (a n:Int):(E F (d+1)).pf 29 [.agg (eSpan p),.int .i64 a,.int .i64 n]=some (.ret (.bool (decide (SpanIn p a n)))):=by
 rw[E_pf,t70];simp only[cAnd,Bool.decide_and,ge_iff_le]
theorem s97 (x:Slc):(E F (d+2)).pf 52 [.agg (eSlc x)]=some (.ret (.bool (!decide (SlcOk x)))):=by
 rw[E_pf,t97];simp only[s98,s59,tkOut_ret,tkBool_b,cOr]
 refine b3 ?_
 by_cases h:1000≤x.opn∧x.opn≤3000
 ·rw[wr (by omega)]
  simp only[Bool.decide_and,Bool.not_and]
 ·simp[h]
theorem s67 (c:Cav) (s:Stg) (hB:c.slices.len<Big):(E F (d+2)).pf 37 [.agg (eCav c),.agg (eStg s)]=some (.ret (.bool (decide (StgOk c.slices.len s)))):=by
 rw[E_pf,t67];simp only[s59,tkOut_ret,tkBool_b,cAnd]
 have hB':c.slices.len<4611686018427387904:=hB
 rw[wr (by omega)]
 refine b3 (b2 ?_)
 simp only[Bool.and_eq_true,decide_eq_true_iff,bne_iff_ne,ne_eq]
 omega
theorem s108 (c:Cav) (s:Stg) (hB:c.slices.len<Big):(E F (d+3)).pf 80 [.agg (eStg s),.rptr 1 3 (fun _=>eCav c) 0 0]=some (.ret (.bool (!decide (StgOk c.slices.len s)))):=by
 rw[E_pf,t108];simp only[s67 F d c s hB,tkOut_ret,tkBool_b]
theorem s58 (n:Int):(E F (d+2)).pf 40 [.int .i64 n]=some (.ret (.bool (decide (-1000≤n∧n≤1000)))):=by
 rw[E_pf,t58];simp only[s59,tkOut_ret,tkBool_b]
theorem s61 (n:Int):(E F (d+3)).pf 43 [.int .i64 n,.rptr 1 1 (fun _=>[.fn (.func 40) [] []]) 0 0]=some (.ret (.bool (!decide (-1000≤n∧n≤1000)))):=by
 rw[E_pf,t61];simp only[s58,tkOut_ret,tkBool_b]
theorem s105 (n:Int):(E F (d+2)).pf 71 [.int .i64 n]=some (.ret (.bool (!decide (0≤n∧n≤10000000000000)))):=by
 rw[E_pf,t105];simp only[s59,tkOut_ret,tkBool_b]
def ixF (p:Nat→Bool):Nat→Nat→Int
 |0,_=>-1
 |n+1,i=>bif p i then (i:Int) else ixF p n (i+1)
theorem ixF_ge (p:Nat→Bool):∀ n i,0≤ixF p n i↔∃ k,i≤k∧k<i+n∧p k=true:=by
 intro n
 induction n with
 |zero =>
  intro i;simp only[ixF];constructor<;>intro h
  ·omega
  ·obtain⟨k,h1,h2,_⟩:=h;omega
 |succ n ih =>
  intro i
  simp only[ixF]
  cases h:p i
  ·rw[cond_false,ih]
   constructor
   ·rintro⟨k,h1,h2,h3⟩;exact⟨k,by omega,by omega,h3⟩
   ·rintro⟨k,h1,h2,h3⟩
    refine⟨k,?_,by omega,h3⟩
    rcases Nat.eq_or_lt_of_le h1 with rfl | h4
    ·rw[h] at h3;cases h3
    ·omega
  ·rw[cond_true]
   exact⟨fun _=>⟨i,by omega,by omega,h⟩,fun _=>by omega⟩
theorem ge0 (p:Nat→Bool) (n:Nat):(!decide (0≤ixF p n 0))=decide (∀ i,i<n→p i=false):=by
 apply b2
 rw[Bool.not_eq_true',decide_eq_false_iff_not,decide_eq_true_iff,ixF_ge]
 constructor
 ·intro h i hi
  cases hp:p i
  ·rfl
  ·exact (h ⟨i,by omega,by omega,hp⟩).elim
 ·rintro h ⟨k,_,h2,h3⟩
  rw[h k (by omega)] at h3;cases h3
theorem l111 (l:Sl Slc) (hB:l.len<Big):∀ n i fu,l.len=i+n→n<fu →
 L111x0 (E F (d+2)) F l fu (i:Int)=some (.ret (.int .i64 (ixF (fun k=>!decide (SlcOk (l.el k))) n i))):=by
 intro n
 induction n with
 |zero =>
  intro i fu h hf
  obtain⟨fu,rfl⟩:=ex1 (n:=fu) (by omega)
  rw[L111x0s]
  simp only[Int.ofNat_lt,show ¬ i<l.len by omega,decide_false,cond_false,ixF]
 |succ n ih =>
  intro i fu h hf
  obtain⟨fu,rfl⟩:=ex1 (n:=fu) (by omega)
  rw[L111x0s]
  simp only[Int.ofNat_lt,show i<l.len by omega,decide_true,cond_true,Int.natCast_nonneg,tnC,s97,tkOut_ret,tkBool_b,wrS (show i<Big by omega),ih (i+1) fu (by omega) (by omega),ixF]
  cases decide (SlcOk (l.el i))<;>rfl
theorem l114 (c:Cav) (l:Sl Stg) (hC:c.slices.len<Big) (hB:l.len<Big):∀ n i fu,l.len=i+n→n<fu →
 L114x0 (E F (d+3)) F c l fu (i:Int)=some (.ret (.int .i64 (ixF (fun k=>!decide (StgOk c.slices.len (l.el k))) n i))):=by
 intro n
 induction n with
 |zero =>
  intro i fu h hf
  obtain⟨fu,rfl⟩:=ex1 (n:=fu) (by omega)
  rw[L114x0s]
  simp only[Int.ofNat_lt,show ¬ i<l.len by omega,decide_false,cond_false,ixF]
 |succ n ih =>
  intro i fu h hf
  obtain⟨fu,rfl⟩:=ex1 (n:=fu) (by omega)
  rw[L114x0s]
  simp only[Int.ofNat_lt,show i<l.len by omega,decide_true,cond_true,Int.natCast_nonneg,tnC,s108 F d c _ hC,tkOut_ret,tkBool_b,wrS (show i<Big by omega),ih (i+1) fu (by omega) (by omega),ixF]
  cases decide (StgOk c.slices.len (l.el i))<;>rfl
theorem l9161 (w:Sl Int) (hB:w.len<Big):∀ n i fu,w.len=i+n→n<fu →
 L9161x0 (E F (d+3)) F w fu (i:Int)=some (.ret (.int .i64 (ixF (fun k=>!decide (-1000≤w.el k∧w.el k≤1000)) n i))):=by
 intro n
 induction n with
 |zero =>
  intro i fu h hf
  obtain⟨fu,rfl⟩:=ex1 (n:=fu) (by omega)
  rw[L9161x0s]
  simp only[Int.ofNat_lt,show ¬ i<w.len by omega,decide_false,cond_false,ixF]
 |succ n ih =>
  intro i fu h hf
  obtain⟨fu,rfl⟩:=ex1 (n:=fu) (by omega)
  rw[L9161x0s]
  simp only[Int.ofNat_lt,show i<w.len by omega,decide_true,cond_true,Int.natCast_nonneg,tnC,s61,tkOut_ret,tkBool_b,wrS (show i<Big by omega),ih (i+1) fu (by omega) (by omega),ixF]
  cases decide (-1000≤w.el i∧w.el i≤1000)<;>rfl
theorem l91105 (w:Sl Int) (hB:w.len<Big):∀ n i fu,w.len=i+n→n<fu →
 L91105x0 (E F (d+2)) F w fu (i:Int)=some (.ret (.int .i64 (ixF (fun k=>!decide (0≤w.el k∧w.el k≤10000000000000)) n i))):=by
 intro n
 induction n with
 |zero =>
  intro i fu h hf
  obtain⟨fu,rfl⟩:=ex1 (n:=fu) (by omega)
  rw[L91105x0s]
  simp only[Int.ofNat_lt,show ¬ i<w.len by omega,decide_false,cond_false,ixF]
 |succ n ih =>
  intro i fu h hf
  obtain⟨fu,rfl⟩:=ex1 (n:=fu) (by omega)
  rw[L91105x0s]
  simp only[Int.ofNat_lt,show i<w.len by omega,decide_true,cond_true,Int.natCast_nonneg,tnC,s105,tkOut_ret,tkBool_b,wrS (show i<Big by omega),ih (i+1) fu (by omega) (by omega),ixF]
  cases decide (0≤w.el i∧w.el i≤10000000000000)<;>rfl
theorem s96 (l:Sl Slc) (hB:l.len<Big) (hF:l.len<F):(E F (d+4)).pf 51 [sl eSlc 7 l,.fn (.func 52) [] []]=some (.ret (.bool (!decide (∀ i,i<l.len→SlcOk (l.el i))))):=by
 rw[E_pf,t96,E_pf,t111,show L111x0 (E F (d+2)) F l F 0=_ from l111 F d l hB l.len 0 F (by omega) hF]
 simp only[tkOut_ret,tkInt_i,decide_true,cond_true,ge_iff_le]
 refine b3 (Bool.not_inj ?_)
 rw[Bool.not_not]
 exact (ge0 _ _).trans (by simp only[Bool.not_eq_false',decide_eq_true_eq])
theorem s107 (c:Cav) (l:Sl Stg) (hC:c.slices.len<Big) (hB:l.len<Big) (hF:l.len<F):(E F (d+5)).pf 79 [sl eStg 4 l,.fn (.func 80) [] [.rptr 1 3 (fun _=>eCav c) 0 0]]=some (.ret (.bool (!decide (∀ i,i<l.len→StgOk c.slices.len (l.el i))))):=by
 rw[E_pf,t107,E_pf,t114,show L114x0 (E F (d+3)) F c l F 0=_ from l114 F d c l hC hB l.len 0 F (by omega) hF]
 simp only[tkOut_ret,tkInt_i,decide_true,cond_true,ge_iff_le]
 refine b3 (Bool.not_inj ?_)
 rw[Bool.not_not]
 exact (ge0 _ _).trans (by simp only[Bool.not_eq_false',decide_eq_true_eq])
theorem s6061 (w:Sl Int) (hB:w.len<Big) (hF:w.len<F):(E F (d+5)).pf 42 [sl eInt 1 w,.fn (.func 43) [] [.rptr 1 1 (fun _=>[.fn (.func 40) [] []]) 0 0]]=some (.ret (.bool (!decide (∀ i,i<w.len→-1000≤w.el i∧w.el i≤1000)))):=by
 rw[E_pf,t6061,E_pf,t9161,show L9161x0 (E F (d+3)) F w F 0=_ from l9161 F d w hB w.len 0 F (by omega) hF]
 simp only[tkOut_ret,tkInt_i,decide_true,cond_true,ge_iff_le]
 refine b3 (Bool.not_inj ?_)
 rw[Bool.not_not]
 exact (ge0 _ _).trans (by simp only[Bool.not_eq_false',decide_eq_true_eq])
theorem s60105 (w:Sl Int) (hB:w.len<Big) (hF:w.len<F):(E F (d+4)).pf 42 [sl eInt 1 w,.fn (.func 71) [] []]=some (.ret (.bool (!decide (∀ i,i<w.len→0≤w.el i∧w.el i≤10000000000000)))):=by
 rw[E_pf,t60105,E_pf,t91105,show L91105x0 (E F (d+2)) F w F 0=_ from l91105 F d w hB w.len 0 F (by omega) hF]
 simp only[tkOut_ret,tkInt_i,decide_true,cond_true,ge_iff_le]
 refine b3 (Bool.not_inj ?_)
 rw[Bool.not_not]
 exact (ge0 _ _).trans (by simp only[Bool.not_eq_false',decide_eq_true_eq])
theorem s90 (c:Cav) (l:Sl Stg) (hC:c.slices.len<Big) (hB:l.len<Big) (hF:l.len<F):(E F (d+6)).pf 61 [.agg (eCav c),sl eStg 4 l]=some (.ret (.bool (decide (∀ i,i<l.len→StgOk c.slices.len (l.el i))))):=by
 rw[E_pf,t90];simp only[s107 F d c l hC hB hF,tkOut_ret,tkBool_b,Bool.not_not]
theorem s66 (c:Cav) (hB:c.slices.len<Big) (hF:c.slices.len<F):(E F (d+5)).pf 25 [.agg (eCav c)]=some (.ret (.bool (decide (CavOk c)))):=by
 rw[E_pf,t66];simp only[s59,s96 F d c.slices hB hF,tkOut_ret,tkBool_b,cAnd,Bool.not_not]
 refine b3 (b2 ?_)
 have e:((1:Int)≤(c.slices.len:Int)∧(c.slices.len:Int)≤10)↔(1≤c.slices.len∧c.slices.len≤10):=by omega
 simp only[Bool.and_eq_true,decide_eq_true_iff,e,CavOk]
theorem s57 (c:Cav) (l:Sl Stg) (hC:c.slices.len<Big) (hCF:c.slices.len<F) (hB:l.len<Big) (hF:l.len<F):(E F (d+7)).pf 39 [.agg (eCav c),sl eStg 4 l] =
 some (.ret (.int .i64 (if 8<l.len then 3 else if CavOk c∧∀ i,i<l.len→StgOk c.slices.len (l.el i) then 0 else 2))):=by
 rw[E_pf,t57];simp only[s66 F (d+1) c hC hCF,s90 F d c l hC hB hF,tkOut_ret,tkBool_b]
 by_cases h1:8<l.len
 ·simp[h1,show (8:Int)<(l.len:Int) by omega]
 ·simp only[show ¬ (8:Int)<(l.len:Int) by omega,h1,decide_false,cond_false,if_false]
  by_cases h2:CavOk c
  ·by_cases h3:∀ i,i<l.len→StgOk c.slices.len (l.el i)
   ·rw[if_pos ⟨h2,h3⟩,dT h2,dT h3];rfl
   ·rw[if_neg (fun h=>h3 h.2),dT h2,dF h3];rfl
  ·rw[if_neg (fun h=>h2 h.1),dF h2];rfl
end Go.Sim.Le

namespace Go.Sim.Lg
open Go.Proofs
open Go.Sim.Le (Cav Slc Span Stg Sl sl eCav eSlc eSpan eInt eStg tkOut_ret tkBool_b tkInt_i tkAgg_a tkTup_t tkRow_r tkCons_c tkHv_h tkSCons_c tkSNil_n tkBox_b tkArr_a tkSl_r tkSl_o pT pF wr wrS)
section
variable {R:Type}
theorem tkStr_s (s:ByteArray) (f:R) (k:ByteArray→R):tkStr (.str s) f k=k s:=Eq.trans (Eq.refl _) (Eq.refl _)
theorem tkDead_d (f k:R):tkDead .dead f k=k:=Eq.trans (Eq.refl _) (Eq.refl _)
theorem tkHvP_r (v:V) (h:List Slot) (f:R) (k:V→List Slot→R) (kp:V→R):tkHvP (some (.ret v,h)) f k kp=k v h:=Eq.trans (Eq.refl _) (Eq.refl _)
theorem tkHvP_p (v:V) (h:List Slot) (f:R) (k:V→List Slot→R) (kp:V→R):tkHvP (some (.pan v,h)) f k kp=kp v:=Eq.trans (Eq.refl _) (Eq.refl _)
theorem tkIfc_i (t:TypeId) (v:V) (f:R) (k:TypeId→V→R):tkIfc (.iface t v) f k=k t v:=Eq.trans (Eq.refl _) (Eq.refl _)
theorem tkIfcN_n (f kn:R) (k:TypeId→V→R):tkIfcN .nili f kn k=kn:=Eq.trans (Eq.refl _) (Eq.refl _)
theorem tkIfcN_i (t:TypeId) (v:V) (f kn:R) (k:TypeId→V→R):tkIfcN (.iface t v) f kn k=k t v:=Eq.trans (Eq.refl _) (Eq.refl _)
theorem tkNil_0 (f k:R):tkNil [] f k=k:=Eq.trans (Eq.refl _) (Eq.refl _)
theorem tkByte_s (b:UInt8) (f:R) (k:UInt8→R):tkByte (some b) f k=k b:=Eq.trans (Eq.refl _) (Eq.refl _)
end
def str (l:List UInt8):ByteArray:=⟨l.toArray⟩
theorem str_data (l:List UInt8):(str l).data.toList=l:=rfl
theorem str_of (b:ByteArray):str b.data.toList=b:=by cases b;simp[str]
theorem size_str (l:List UInt8):(str l).size=l.length:=rfl
theorem catS_str (a b:List UInt8):catS (str a) (str b)=str (a ++ b):=by
 unfold catS str
 apply ByteArray.ext
 simp
theorem toList_str (l:List UInt8):(str l).toList=l:=by
 simp[ByteArray.toList_eq,str]
theorem eqS_str (a b:List UInt8):eqS (str a) (str b)=decide (a=b):=by
 unfold eqS
 rw[toList_str,toList_str]
 by_cases h:a=b
 ·rw[h];simp
 ·rw[dF h];simpa using h
theorem bs_str (l:List Nat):bs l=str (l.map UInt8.ofNat):=rfl
theorem byteAt_str (a:List UInt8) (i:Nat):byteAt (str a) i=a[i]?:=by
 unfold byteAt
 rw[if_pos (by omega),tnC]
 rcases Nat.lt_or_ge i a.length with h | h
 ·rw[getElem?_pos (str a) i h,List.getElem?_eq_getElem h]
  rfl
 ·rw[getElem?_neg (str a) i (by rw[size_str];omega),List.getElem?_eq_none h]
theorem extract_str (a:List UInt8) (i j:Nat):ByteArray.extract (str a) i j=str ((a.drop i).take (j - i)):=by
 apply ByteArray.ext
 rw[ByteArray.data_extract]
 unfold str
 simp[List.extract_eq_take_drop]
end Go.Sim.Lg

namespace Go.Sim.Lg
open Go.Proofs
open Go.Sim.Le (Cav Slc Span Stg Sl sl eCav eSlc eSpan eInt eStg tkOut_ret tkBool_b tkInt_i tkAgg_a tkTup_t tkRow_r tkCons_c tkHv_h tkSCons_c tkSNil_n tkBox_b tkArr_a tkSl_r tkSl_o pT pF wr wrS)
abbrev dec (n:Nat):List UInt8:=Lib.decDigits n
theorem dec_small {n:Nat} (h:n<10):dec n=[UInt8.ofNat (48+n)]:=by
 unfold dec Lib.decDigits
 rw[dif_pos h]
theorem dec_big {n:Nat} (h:¬ n<10):dec n=dec (n / 10) ++ [UInt8.ofNat (48+n % 10)]:=by
 rw[dec,Lib.decDigits,dif_neg h]
theorem dec_le {n k:Nat} (hk:0<k) (h:n<10 ^ k):(dec n).length≤k:=dec_len n k hk h
def endL (s:Nat):List UInt8:=[101,110,100,32] ++ dec (s % 97 / 10) ++ dec (s % 97 % 10) ++ [10]
def numsL (ns:List Nat):List UInt8:=ns.flatMap fun n=>32 :: dec n
def lineL (w:List UInt8) (ns:List Nat):List UInt8:=w ++ numsL ns ++ [10]
theorem o55 {F d n:Nat} (h:n<9223372036854775808):(E F d).pf 55 [.int .i64 (n:Int)]=some (.ret (.str (str (dec n)))):=by
 refine E_o rfl ?_ rfl
 have e:orc 55 [.int .i64 (n:Int)]=(if 55=55∧-9223372036854775808≤(n:Int)∧(n:Int)≤9223372036854775807 then some (.ret (.str ⟨(Lib.itoa (n:Int)).toArray⟩)) else none):=rfl
 rw[e,if_pos ⟨rfl,by omega,by omega⟩,Lib.itoa_nonneg]
 rfl
variable (F d:Nat)
theorem s28 {n:Nat} (h:n<9223372036854775808):(E F (d+1)).pf 28 [.int .i64 (n:Int)]=some (.ret (.str (str (endL n)))):=by
 rw[E_pf _ _ _ _ rfl rfl rfl,t28]
 have e0:Int.tmod (n:Int) 97=((n % 97:Nat):Int):=by rw[Int.tmod_eq_emod_of_nonneg (by omega)];omega
 have e1:Int.tdiv ((n % 97:Nat):Int) 10=((n % 97 / 10:Nat):Int):=by rw[Int.tdiv_eq_ediv_of_nonneg (by omega)];omega
 have e2:Int.tmod ((n % 97:Nat):Int) 10=((n % 97 % 10:Nat):Int):=by rw[Int.tmod_eq_emod_of_nonneg (by omega)];omega
 have l1:(dec (n % 97 / 10)).length≤1:=dec_le (by omega) (by omega)
 have l2:(dec (n % 97 % 10)).length≤1:=dec_le (by omega) (by omega)
 rw[e0,e1,e2,wr (by omega),o55 (by omega),tkOut_ret,tkStr_s,size_str,dT (by omega),pT,o55 (by omega),tkOut_ret,tkStr_s,bs_str,bs_str,catS_str,catS_str,catS_str,size_str,size_str,size_str]
 rw[dT (by simp;omega),pT,dT (by simp;omega),pT]
 rfl
theorem bytesOf_str (l:List Int):bytesOf l=str (l.map fun n=>UInt8.ofNat n.toNat):=by
 have h:∀ (l:List Int) (a:List UInt8),l.foldl (fun r n=>r.push (UInt8.ofNat n.toNat)) (str a)=str (a ++ l.map fun n=>UInt8.ofNat n.toNat):=by
  intro l
  induction l with
  |nil=>intro a;simp
  |cons n l ih =>
   intro a
   have:(str a).push (UInt8.ofNat n.toNat)=str (a ++ [UInt8.ofNat n.toNat]):=by
    apply ByteArray.ext
    rw[ByteArray.data_push]
    simp[str]
   rw[List.foldl_cons,this,ih,List.append_assoc]
   rfl
 have:=h l []
 rw[List.nil_append] at this
 exact this
theorem digit_u8 {m:Nat}:IntKind.wrap .u8 (IntKind.wrap .i64 (48+((m % 10:Nat):Int)))=((48+m % 10:Nat):Int):=by
 rw[wr (by omega)]
 have:IntKind.wrap .u8 (48+((m % 10:Nat):Int))=48+((m % 10:Nat):Int):=by
  rw[IntKind.wrap_u8];omega
 rw[this];omega
theorem l56 (env:Env) (n:Nat):∀ (fu m:Nat) (z:List UInt8),m<1000000000000000000→z.length+(dec m).length≤1000→(dec m).length≤fu →
 L56x0 env F (n:Int) fu (m:Int) (str (UInt8.ofNat (48+m % 10) :: z))=some (.ret (.str (str (dec m ++ z)))):=by
 intro fu
 induction fu with
 |zero=>intro m z _ _ h;exact absurd (List.eq_nil_of_length_eq_zero (Nat.le_zero.1 h)) (dec_ne m)
 |succ fu ih =>
  intro m z hm hz h
  rw[L56x0s]
  by_cases h10:m<10
  ·rw[dF (by omega),pF,dec_small h10,Nat.mod_eq_of_lt h10]
   rfl
  ·have e1:Int.tdiv (m:Int) 10=((m / 10:Nat):Int):=by rw[Int.tdiv_eq_ediv_of_nonneg (by omega)];omega
   have e2:Int.tmod ((m / 10:Nat):Int) 10=((m / 10 % 10:Nat):Int):=by rw[Int.tmod_eq_emod_of_nonneg (by omega)];omega
   have hd:=dec_big h10
   have hw1:IntKind.wrap .i64 ((m / 10:Nat):Int)=((m / 10:Nat):Int):=wr (by omega)
   rw[dT (by omega),pT,e1,hw1,e2,digit_u8,bytesOf_str,catS_str,size_str,size_str,dT (by simp;omega),pT]
   simp only[List.map_cons,List.map_nil,List.cons_append,List.nil_append,tnC]
   rw[ih (m / 10) _ (by omega) (by rw[hd] at hz;simp at hz ⊢;omega) (by rw[hd] at h;simp at h;omega),hd,List.append_assoc]
   rfl
end Go.Sim.Lg

namespace Go.Sim.Lg
open Go.Proofs
def spl (b:UInt8):List UInt8→List (List UInt8)
 |[]=>[[]]
 |c :: l=>if c=b then [] :: spl b l else (c :: (spl b l).headD []) :: (spl b l).tail
theorem spl_ne (b:UInt8) (l:List UInt8):spl b l ≠ []:=by
 cases l with
 |nil=>simp[spl]
 |cons c l=>unfold spl;split<;>simp
theorem spl_free (b:UInt8):∀ (w:List UInt8),b ∉ w→spl b w=[w]
 |[],_=>rfl
 |c :: w,h=>by
  rw[List.mem_cons,not_or] at h
  rw[spl,if_neg (fun e=>h.1 e.symm),spl_free b w h.2]
  rfl
theorem spl_app (b:UInt8) (l:List UInt8):∀ (w:List UInt8),b ∉ w→spl b (w ++ b :: l)=w :: spl b l
 |[],_=>by rw[List.nil_append,spl,if_pos rfl]
 |c :: w,h=>by
  rw[List.mem_cons,not_or] at h
  rw[List.cons_append,spl,if_neg (fun e=>h.1 e.symm),spl_app b l w h.2]
  rfl
theorem has_byte (b:UInt8) (l:List UInt8):b ∉ l∨∃ w r,l=w ++ b :: r∧b ∉ w:=by
 by_cases h:b ∈ l
 ·exact Or.inr (by obtain⟨w,r,h1,h2⟩:=List.eq_append_cons_of_mem h;exact⟨w,r,h1,h2⟩)
 ·exact Or.inl h
theorem spl_join (b:UInt8):∀ (n:Nat) (l w:List UInt8) (ws:List (List UInt8)),l.length≤n→spl b l=w :: ws→l=w ++ ws.flatMap (b :: ·)∧b ∉ w∧∀ x ∈ ws,b ∉ x
 |n,l,w,ws,hn,h=>by
  rcases has_byte b l with hb | ⟨w',r,rfl,hb⟩
  ·rw[spl_free b l hb] at h
   cases h
   exact⟨by simp,hb,by simp⟩
  ·rw[spl_app b r w' hb] at h
   cases h
   cases n with
   |zero=>simp at hn
   |succ n =>
    cases hr:spl b r with
    |nil=>exact absurd hr (spl_ne b r)
    |cons x xs =>
     obtain⟨h1,h2,h3⟩:=spl_join b n r x xs (by simp at hn;omega) hr
     refine⟨?_,hb,?_⟩
     ·rw[List.flatMap_cons,List.cons_append,← h1]
     ·intro y hy
      rcases List.mem_cons.1 hy with rfl | hy
      ·exact h2
      ·exact h3 y hy
theorem spl_of (b:UInt8):∀ (ws:List (List UInt8)) (w:List UInt8),b ∉ w→(∀ x ∈ ws,b ∉ x)→spl b (w ++ ws.flatMap (b :: ·))=w :: ws
 |[],w,h,_=>by rw[List.flatMap_nil,List.append_nil,spl_free b w h]
 |x :: xs,w,h,hx=>by
  rw[List.flatMap_cons,List.cons_append,spl_app b _ w h,spl_of b xs x (hx x (List.mem_cons_self ..)) fun y hy=>hx y (List.mem_cons_of_mem _ hy)]
theorem index_free {b:UInt8}:∀ {l:List UInt8},b ∉ l→Lib.index l [b] = -1
 |[],_=>rfl
 |c :: l,h=>by
  rw[List.mem_cons,not_or] at h
  have hp:([b]:List UInt8).isPrefixOf (c :: l)=false:=by simp[List.isPrefixOf,h.1]
  rw[Lib.index,hp,index_free h.2]
  rfl
theorem index_app {b:UInt8} {r:List UInt8}:∀ {w:List UInt8},b ∉ w→Lib.index (w ++ b :: r) [b]=w.length
 |[],_=>by
  rw[List.nil_append,Lib.index]
  simp[List.isPrefixOf]
 |c :: w,h=>by
  rw[List.mem_cons,not_or] at h
  have hp:([b]:List UInt8).isPrefixOf (c :: (w ++ b :: r))=false:=by simp[List.isPrefixOf,h.1]
  rw[List.cons_append,Lib.index,hp,index_app h.2]
  have:((w.length:Int) == -1)=false:=by rw[beq_eq_false_iff_ne];omega
  rw[this]
  simp
theorem cut_free {b:UInt8} {l:List UInt8} (h:b ∉ l):Lib.cut l [b]=(l,[],false):=by
 rw[Lib.cut,index_free h]
 rfl
theorem cut_app {b:UInt8} {w r:List UInt8} (h:b ∉ w):Lib.cut (w ++ b :: r) [b]=(w,r,true):=by
 rw[Lib.cut,index_app h,if_pos (by omega)]
 simp
theorem splitK_spl (b:UInt8):∀ (n:Nat) (l:List UInt8),l.length≤n→Lib.splitK [b] 0 (Lib.count l [b]) l=spl b l
 |n,l,hn=>by
  rcases has_byte b l with hb | ⟨w,r,rfl,hb⟩
  ·rw[Lib.count_miss (index_free hb),spl_free b l hb]
   rfl
  ·have hi:Lib.index (w ++ b :: r) [b]=w.length:=index_app hb
   cases n with
   |zero=>simp at hn
   |succ n =>
    have hd:(w ++ b :: r).drop (w.length+1)=r:=by simp
    rw[Lib.count_hit (by simp) hi,show w.length+[b].length=w.length+1 from rfl,hd,Nat.add_comm 1,Lib.splitK,hi,if_neg (by rw[beq_iff_eq];omega),show ((w.length:Int)).toNat=w.length from rfl]
    rw[show w.length+[b].length=w.length+1 from rfl,hd,splitK_spl b n r (by simp at hn;omega),spl_app b r w hb]
    simp
theorem parts_str (b:UInt8) (l:List UInt8):parts (str l) (str [b])=(spl b l).map str:=by
 have h:=Lib.splitB_data (str [b]) 0 (Lib.countB (str l) (str [b])) (str l)
 rw[str_data,str_data,show Lib.countB (str l) (str [b])=Lib.count l [b] from rfl,splitK_spl b l.length l (Nat.le_refl _)] at h
 rw[← h,List.map_map]
 show Lib.splitB _ _ _ _=_
 rw[show Lib.countB (str l) (str [b])=Lib.count l [b] from rfl]
 have e:(str ∘ fun x:ByteArray=>x.data.toList)=id:=by funext x;exact str_of x
 rw[e,List.map_id]
theorem spl_len (b:UInt8) (l:List UInt8):Lib.countB (str l) (str [b])+1=(spl b l).length:=by
 have h:(parts (str l) (str [b])).length=Lib.countB (str l) (str [b])+1:=Lib.splitB_all (str [b]) (Nat.le_refl 1) 0 _ (str l) rfl
 rw[← h,parts_str,List.length_map]
open Classical in
noncomputable def numOf (w:List UInt8):Option Nat:=if h:∃ n,IsNum w n then some h.choose else none
theorem numOf_some {w:List UInt8} {n:Nat}:numOf w=some n↔IsNum w n:=by
 unfold numOf
 constructor
 ·intro h
  split at h
  ·rename_i hx;cases h;exact hx.choose_spec
  ·cases h
 ·intro h
  rw[dif_pos ⟨n,h⟩,num_inj (Exists.choose_spec ⟨n,h⟩) h]
theorem numOf_none {w:List UInt8} (h:numOf w=none) (n:Nat):¬ IsNum w n:=by
 intro hn
 rw[numOf_some.2 hn] at h
 cases h
def Nums (ns:List Nat):Prop:=∀ n ∈ ns,(dec n).length≤14
theorem num_dec {n:Nat} (h:(dec n).length≤14):numOf (dec n)=some n:=numOf_some.2 ⟨rfl,h⟩
noncomputable def numsOf:List (List UInt8)→Option (List Nat)
 |[]=>some []
 |w :: ws=>match numOf w with | none=>none | some n=>match numsOf ws with | none=>none | some ns=>some (n :: ns)
theorem numsOf_some:∀ {ws:List (List UInt8)} {ns:List Nat},numsOf ws=some ns↔Nums ns∧ws=ns.map dec
 |[],ns=>by
  constructor
  ·intro h;cases h;exact⟨(fun _ h=>by cases h),rfl⟩
  ·rintro⟨_,h⟩
   cases ns with
   |nil=>rfl
   |cons _ _=>cases h
 |w :: ws,ns=>by
  constructor
  ·intro h
   unfold numsOf at h
   split at h
   ·cases h
   ·rename_i n hn
    split at h
    ·cases h
    ·rename_i ms hm
     cases h
     obtain⟨h1,h2⟩:=numsOf_some.1 hm
     obtain⟨h3,h4⟩:=numOf_some.1 hn
     subst h2;subst h3
     refine⟨fun x hx=>?_,rfl⟩
     rcases List.mem_cons.1 hx with rfl | hx
     ·exact h4
     ·exact h1 x hx
  ·rintro⟨h1,h2⟩
   cases ns with
   |nil=>cases h2
   |cons n ns =>
    cases h2
    have e:numsOf (ns.map dec)=some ns:=numsOf_some.2 ⟨fun x hx=>h1 x (List.mem_cons_of_mem _ hx),rfl⟩
    show (match numOf (dec n) with | none=>none | some n=>_)=_
    rw[num_dec (h1 n (List.mem_cons_self ..)),e]
theorem numsOf_len {ws:List (List UInt8)} {ns:List Nat} (h:numsOf ws=some ns):ns.length=ws.length:=by
 rw[(numsOf_some.1 h).2,List.length_map]
theorem dec_no {n:Nat} {b:UInt8} (hb:b.toNat<48):b ∉ dec n:=by
 intro h
 have:=dec_digits n b h
 omega
noncomputable def takeL (w:List UInt8) (k:Nat) (l:List UInt8):Option (List Nat) :=
 if (spl 32 l).headD []=w then if (spl 32 l).length=k+1 then numsOf (spl 32 l).tail else none else none
theorem takeL_iff {w:List UInt8} (hw:32 ∉ w) {k:Nat} {l:List UInt8} {ns:List Nat}:takeL w k l=some ns↔ns.length=k∧Nums ns∧l=w ++ numsL ns:=by
 have hmap:∀ ns:List Nat,(ns.map dec).flatMap ((32:UInt8) :: ·)=numsL ns:=by
  intro ns;unfold numsL;rw[List.flatMap_map]
 constructor
 ·intro h
  unfold takeL at h
  split at h
  ·rename_i h1
   split at h
   ·rename_i h2
    obtain⟨h3,h4⟩:=numsOf_some.1 h
    cases hx:spl 32 l with
    |nil=>exact absurd hx (spl_ne _ _)
    |cons x xs =>
     rw[hx] at h1 h2 h4
     obtain⟨e,_,_⟩:=spl_join 32 l.length l x xs (Nat.le_refl _) hx
     simp only[List.headD_cons,List.length_cons,List.tail_cons] at h1 h2 h4
     subst h1;subst h4
     rw[hmap] at e
     exact⟨by simpa using h2,h3,e⟩
   ·cases h
  ·cases h
 ·rintro⟨h1,h2,rfl⟩
  have e:spl 32 (w ++ numsL ns)=w :: ns.map dec:=by
   rw[← hmap]
   refine spl_of 32 _ w hw fun x hx=>?_
   obtain⟨n,_,rfl⟩:=List.mem_map.1 hx
   exact dec_no (by decide)
  unfold takeL
  rw[e]
  simp only[List.headD_cons,List.length_cons,List.tail_cons,List.length_map]
  rw[if_pos trivial,if_pos (by omega)]
  exact numsOf_some.2 ⟨h2,rfl⟩
theorem line_no {w:List UInt8} {ns:List Nat} (hw:10 ∉ w):10 ∉ w ++ numsL ns:=by
 intro h
 rcases List.mem_append.1 h with h | h
 ·exact hw h
 ·unfold numsL at h
  obtain⟨n,_,hn⟩:=List.mem_flatMap.1 h
  rcases List.mem_cons.1 hn with h | h
  ·exact absurd h (by decide)
  ·exact dec_no (by decide) h
noncomputable def lineP (w:List UInt8) (k:Nat) (t:List UInt8):Option (List Nat × List UInt8) :=
 if (Lib.cut t [10]).2.2=true then match takeL w k (Lib.cut t [10]).1 with | none=>none | some ns=>some (ns,(Lib.cut t [10]).2.1) else none
theorem lineP_iff {w:List UInt8} (hw:32 ∉ w) (hw':10 ∉ w) {k:Nat} {t r:List UInt8} {ns:List Nat}:lineP w k t=some (ns,r)↔ns.length=k∧Nums ns∧t=lineL w ns ++ r:=by
 constructor
 ·intro h
  unfold lineP at h
  rcases has_byte 10 t with hb | ⟨x,y,rfl,hb⟩
  ·rw[cut_free hb,if_neg (by simp)] at h
   cases h
  ·rw[cut_app hb,if_pos rfl] at h
   dsimp only at h
   split at h
   ·cases h
   ·rename_i ms hm
    cases h
    obtain⟨h1,h2,h3⟩:=(takeL_iff hw).1 hm
    refine⟨h1,h2,?_⟩
    rw[h3]
    simp[lineL]
 ·rintro⟨h1,h2,rfl⟩
  have e:lineL w ns ++ r=(w ++ numsL ns) ++ 10 :: r:=by simp[lineL]
  unfold lineP
  rw[e,cut_app (line_no hw'),if_pos rfl]
  dsimp only
  rw[(takeL_iff hw).2 ⟨h1,h2,rfl⟩]
end Go.Sim.Lg

namespace Go.Sim.Lg
open Go.Proofs
open Go.Sim.Le (Cav Slc Span Stg Sl sl eCav eSlc eSpan eInt eStg tkOut_ret tkBool_b tkInt_i tkAgg_a tkTup_t tkRow_r tkCons_c tkHv_h tkSCons_c tkSNil_n tkBox_b tkArr_a tkSl_r tkSl_o pT pF wr wrS)
variable (F d:Nat)
theorem s56 {n:Nat} (h:n<1000000000000000000) (hF:1000<F):(E F (d+1)).pf 56 [.int .i64 (n:Int)]=some (.ret (.str (str (dec n)))):=by
 have e2:Int.tmod (n:Int) 10=((n % 10:Nat):Int):=by rw[Int.tmod_eq_emod_of_nonneg (by omega)];omega
 have hl:(dec n).length≤18:=dec_le (by omega) (by omega)
 rw[E_pf _ _ _ _ rfl rfl rfl,t56,e2,digit_u8,bytesOf_str]
 simp only[List.map_cons,List.map_nil,tnC]
 rw[l56 F (E F d) n F n [] h (by simp;omega) (by omega),List.append_nil]
def RowIs (ns:List Nat) (g:Nat→List V):Prop:=∀ (i:Nat) (n:Nat),ns[i]? = some n→g i=[.int .i64 (n:Int)]
theorem l32 (t:ByteArray) (l:Sl Int) (ns:List Nat) (hl:l.len=ns.length) (he:∀ (i:Nat) (n:Nat),ns[i]? = some n→l.el i=(n:Int)) (hn:∀ n ∈ ns,n<1000000000000000000) (hF:1000<F) :
 ∀ (r p:List Nat) (fu:Nat) (z:List UInt8),ns=p ++ r→r.length<fu→z.length+20*r.length≤1000000→ns.length≤1000000 →
  L32x0 (E F (d+1)) F t l fu (str z) (p.length:Int)=some (.ret (.str (str (z ++ numsL r ++ [10])))):=by
 intro r
 induction r with
 |nil =>
  intro p fu z h1 h2 h3 h4
  obtain⟨fu,rfl⟩:=ex1 (n:=fu) (by omega)
  have hp:p.length=ns.length:=by rw[h1];simp
  rw[L32x0s,dF (by rw[hl];omega),pF,size_str,dT (by simp at h3;omega),pT,bs_str,catS_str]
  simp[numsL]
 |cons n r ih =>
  intro p fu z h1 h2 h3 h4
  obtain⟨fu,rfl⟩:∃ k,fu=k+1:=⟨fu - 1,by simp at h2;omega⟩
  have hp:p.length+(r.length+1)=ns.length:=by rw[h1];simp
  have hat:ns[p.length]? = some n:=by rw[h1];simp
  have hn0:n<1000000000000000000:=hn n (List.mem_of_getElem? hat)
  have hd:(dec n).length≤18:=dec_le (by omega) (by omega)
  simp only[List.length_cons] at h2 h3
  have hw:IntKind.wrap .i64 ((p.length:Int)+1)=(((p ++ [n]).length:Nat):Int):=by rw[wrS (by omega)];simp
  rw[L32x0s,dT (by rw[hl];omega),pT,size_str,dT (by omega),pT,dT (by omega),pT,pT,tnC,he _ _ hat,s56 F d hn0 hF,tkOut_ret,tkStr_s,bs_str,catS_str,size_str,size_str,
   dT (by simp;omega),pT,catS_str,hw,ih (p ++ [n]) fu _ (by rw[h1];simp) (by omega) (by simp;omega) h4]
  simp[numsL]
theorem s32 {w:List UInt8} {l:Sl Int} {ns:List Nat} (hl:l.len=ns.length) (he:∀ (i:Nat) (n:Nat),ns[i]? = some n→l.el i=(n:Int)) (hn:∀ n ∈ ns,n<1000000000000000000) (hF:1000<F) (h2:ns.length≤100) (h3:w.length≤1000) :
 (E F (d+2)).pf 32 [.str (str w),sl eInt 1 l]=some (.ret (.str (str (lineL w ns)))):=by
 rw[E_pf _ _ _ _ rfl rfl rfl,t32]
 exact l32 F d (str w) l ns hl he hn hF ns [] F w rfl (by omega) (by omega) (by omega)
theorem oW {F d:Nat} {X T:List UInt8} {s:Int} (h1:1≤X.length) (h2:X.length+T.length≤1000000) :
 (E F d).hv 54 [.optr 0 0 0,.str (str T)] [.box 71 [.optr 0 0 0,.osl 1 0 X.length,.int .i64 s] true,.arr 5 1 X.length (byteGet (str X)) true] =
  some (.ret (.tup [.int .i64 T.length,.nili]),[.box 71 [.optr 0 0 0,.osl 2 0 (X ++ T).length,.int .i64 s] true,.dead,.arr 5 1 (X ++ T).length (byteGet (str (X ++ T))) true]):=by
 have h:=E_h (F:=F) (d:=d) (HvoR.more (x:=str X) (t:=str T) (q:=.i64) (s:=s) h1 h2)
 rw[show str X ++ str T=str (X ++ T) from catS_str X T] at h
 exact h
theorem oW0 {F d:Nat} {T:List UInt8} {s:Int} (h1:1≤T.length) (h2:T.length≤1000000) :
 (E F d).hv 54 [.optr 0 0 0,.str (str T)] [.box 71 [.nilp,.row true 0 0 (fun _=>[]),.int .i64 s] true] =
  some (.ret (.tup [.int .i64 T.length,.nili]),[.box 71 [.optr 0 0 0,.osl 1 0 T.length,.int .i64 s] true,.arr 5 1 T.length (byteGet (str T)) true]) :=
 E_h (HvoR.first (t:=str T) h1 h2)
theorem oS {F d:Nat} {X:List UInt8} {s:Int} (h1:1≤X.length) :
 (E F d).hv 27 [.optr 0 0 0] [.box 71 [.optr 0 0 0,.osl 1 0 X.length,.int .i64 s] true,.arr 5 1 X.length (byteGet (str X)) true]=some (.ret (.str (str X)),[.box 71 [.optr 0 0 0,.osl 1 0 X.length,.int .i64 s] true,.dead]) :=
 E_h (HvoR.str (x:=str X) h1)
theorem z71:(Nat.beq 71 71 && (true==true))=true:=rfl
theorem z20:(Nat.beq 2 2 && Nat.beq 0 0)=true:=rfl
theorem z10:(Nat.beq 1 1 && Nat.beq 0 0)=true:=rfl
theorem z30:(Nat.beq 3 3 && Nat.beq 0 0)=true:=rfl
theorem z51:((Nat.beq 5 5 && Nat.beq 1 1) && (true==true))=true:=rfl
theorem zsv:sameV 8 (.optr 0 0 0) (.optr 0 0 0)=true:=rfl
theorem l26 (t:ByteArray) (k:Nat) (g:Nat→List V) (s0:Int) (m:Nat) (x:Nat→List V) (ns:List Nat) (hk:k=ns.length) (hg:RowIs ns g) (hN:ns.length≤1000) (hn:∀ n ∈ ns,n<1000000000000000000) :
 ∀ (r p:List Nat) (fu:Nat) (X:List UInt8) (s:Nat),ns=p ++ r→r.length<fu→1≤X.length→X.length+20*r.length≤100000→s+1000000000000000000*r.length<9223372036854775808 →
  L26x0 (E F d) F t k g s0 m x fu (p.length:Int) X.length .i64 (s:Int) X.length (byteGet (str X)) =
   some (.ret (.tup []),[.box 71 [.optr 0 0 0,.osl 3 0 (X ++ numsL r ++ [10]).length,.int .i64 ((s+r.sum:Nat):Int)] true,.arr 3 1 k g true,.dead,.arr 5 1 (X ++ numsL r ++ [10]).length (byteGet (str (X ++ numsL r ++ [10]))) true]):=by
 intro r
 induction r with
 |nil =>
  intro p fu X s h1 h2 h3 h4 h5
  obtain⟨fu,rfl⟩:=ex1 (n:=fu) (by omega)
  have hp:p.length=ns.length:=by rw[h1];simp
  rw[L26x0s,dF (by rw[hk];omega),pF,bs_str]
  simp only[List.map_cons,List.map_nil]
  rw[oW h3 (by simp;omega)]
  simp only[tkHvP_r,tkSCons_c,tkBox_b,tkCons_c,tkSl_o,tkInt_i,tkNil_0,tkDead_d,tkArr_a,tkSNil_n,z71,z20,z51,zsv,pT,numsL,List.flatMap_nil,List.append_nil,List.sum_nil,Nat.add_zero]
  rfl
 |cons n r ih =>
  intro p fu X s h1 h2 h3 h4 h5
  obtain⟨fu,rfl⟩:∃ k,fu=k+1:=⟨fu - 1,by simp at h2;omega⟩
  have hp:p.length+(r.length+1)=ns.length:=by rw[h1];simp
  have hat:ns[p.length]? = some n:=by rw[h1];simp
  have hn0:n<1000000000000000000:=hn n (List.mem_of_getElem? hat)
  have hd:(dec n).length≤18:=dec_le (by omega) (by omega)
  simp only[List.length_cons] at h2 h4 h5
  have hw:IntKind.wrap .i64 ((p.length:Int)+1)=(((p ++ [n]).length:Nat):Int):=by rw[wrS (by omega)];simp
  have hws:IntKind.wrap .i64 ((s:Int)+(n:Int))=((s+n:Nat):Int):=by rw[wr (by omega)];omega
  rw[L26x0s,dT (by rw[hk];omega),pT,dT (by omega),pT,pT,tnC,hg _ _ hat,tkCons_c,tkInt_i,o55 (by omega),tkOut_ret,tkStr_s,size_str,dT (by omega),pT,bs_str,catS_str]
  simp only[List.map_cons,List.map_nil]
  rw[oW h3 (by simp;omega)]
  simp only[tkHvP_r,tkSCons_c,tkBox_b,tkCons_c,tkSl_o,tkInt_i,tkNil_0,tkDead_d,tkArr_a,tkSNil_n,z71,z20,z51,zsv,pT,decide_true,hw,hws]
  have e:=ih (p ++ [n]) fu (X ++ (UInt8.ofNat 32 :: dec n)) (s+n) (by rw[h1];simp) (by omega) (by simp;omega) (by simp;omega) (by omega)
  simp only[List.cons_append,List.nil_append]
  rw[e]
  simp only[numsL,List.flatMap_cons,List.append_assoc,List.cons_append,List.sum_cons,Nat.add_assoc]
  rfl
end Go.Sim.Lg

namespace Go.Sim.Lg
open Go.Proofs
open Go.Sim.Le (Cav Slc Span Stg Sl sl eCav eSlc eSpan eInt eStg tkOut_ret tkBool_b tkInt_i tkAgg_a tkTup_t tkRow_r tkCons_c tkHv_h tkSCons_c tkSNil_n tkBox_b tkArr_a tkSl_r tkSl_o pT pF wr wrS)
variable (F d:Nat)
theorem atoi_lt {w:List UInt8} {n:Int} (h:Lib.atoiAll w = .ok n):n<9223372036854775808:=by
 unfold Lib.atoiAll at h
 split at h
 ·cases h
 ·dsimp only at h
  split at h
  ·cases h
  ·cases h
  ·split at h
   ·cases h
   ·split at h
    ·cases h
    ·rename_i h1 h2
     cases h
     split
     ·omega
     ·rename_i h3
      have:¬ 9223372036854775808≤_:=fun e=>h1 ⟨h3,e⟩
      omega
theorem o78 {F d:Nat} {w:List UInt8} (h:w.length≤1000000):(E F d).pf 78 [.str (str w)]=some (.ret (atoiV (str w))):=by
 refine E_o rfl ?_ rfl
 have e:orc 78 [.str (str w)]=(if 78=78∧(str w).size≤281474976710656 then some (.ret (atoiV (str w))) else none):=rfl
 rw[e,if_pos ⟨rfl,by rw[size_str];omega⟩]
theorem o57 {F d:Nat} {r:List UInt8} (h:r.length≤1000000):(E F d).pf 57 [.str (str r),.str (str [10])]=some (.ret (.tup [.str (str (Lib.cut r [10]).1),.str (str (Lib.cut r [10]).2.1),.bool (Lib.cut r [10]).2.2])):=by
 refine E_o rfl ?_ rfl
 have e:orc 57 [.str (str r),.str (str [10])]=(if 57=57∧(str r).size<4294967281 then some (.ret (.tup [.str ⟨(Lib.cut (str r).data.toList (str [10]).data.toList).1.toArray⟩,.str ⟨(Lib.cut (str r).data.toList (str [10]).data.toList).2.1.toArray⟩,.bool (Lib.cut (str r).data.toList (str [10]).data.toList).2.2]))
  else if 57=58∧(str r).size<4294967281∧1≤(str [10]).size then some (.ret (.row false (Lib.countB (str r) (str [10])+1) 1 fun i=>[.str ((parts (str r) (str [10])).getD i default)])) else none):=rfl
 rw[e,if_pos ⟨rfl,by rw[size_str];omega⟩]
 rfl
theorem o58 {F d:Nat} {r:List UInt8} {b:UInt8} (h:r.length≤1000000):(E F d).pf 58 [.str (str r),.str (str [b])]=some (.ret (.row false (spl b r).length 1 fun i=>[.str (((spl b r).map str).getD i default)])):=by
 refine E_o rfl ?_ rfl
 have e:orc 58 [.str (str r),.str (str [b])]=(if 58=57∧(str r).size<4294967281 then some (.ret (.tup [.str ⟨(Lib.cut (str r).data.toList (str [b]).data.toList).1.toArray⟩,.str ⟨(Lib.cut (str r).data.toList (str [b]).data.toList).2.1.toArray⟩,.bool (Lib.cut (str r).data.toList (str [b]).data.toList).2.2]))
  else if 58=58∧(str r).size<4294967281∧1≤(str [b]).size then some (.ret (.row false (Lib.countB (str r) (str [b])+1) 1 fun i=>[.str ((parts (str r) (str [b])).getD i default)])) else none):=rfl
 rw[e,if_neg (fun h=>absurd h.1 (by decide)),if_pos ⟨rfl,by rw[size_str];omega,Nat.le_refl 1⟩,spl_len,parts_str]
theorem zflat (w:ByteArray):flatP (.iface 83 (.agg [.str w]))=true:=rfl
theorem s59 {w x:List UInt8} {s:Nat} (hw:w.length≤1000000) (hs:s<9000000000000000000) :
 (E F (d+1)).hv 59 [.optr 0 0 0,.str (str w)] [.box 86 [.str (str x),.int .i64 (s:Int)] true]=(match numOf w with
  |some n=>some (.ret (.int .i64 (n:Int)),[.box 86 [.str (str x),.int .i64 ((s+n:Nat):Int)] true])
  |none=>some (.pan (.iface 83 (.agg [.str (str w)])),[])):=by
 rw[E_hv _ _ _ _ _ (by decide) (by decide),t59,o78 hw,tkOut_ret]
 unfold atoiV
 rw[str_data]
 cases hn:numOf w with
 |some m =>
  have hm:=numOf_some.1 hn
  obtain⟨h1,h2,h3,h4⟩:=(num_prog w m).2 ⟨m,rfl,hm⟩
  have hlt:m<10 ^ 14:=dec_lt m 14 (by rw[← hm.1];exact hm.2)
  have hlt':m<100000000000000:=hlt
  rw[h1]
  simp only[tkTup_t,tkCons_c,tkInt_i,tkIfcN_n,tkNil_0,decide_true,pT]
  have e:dec m=w:=hm.1.symm
  rw[dF (by omega),pF,size_str,dF (by omega),pF,o55 (by omega),tkOut_ret,tkStr_s,eqS_str,e,dT rfl,Bool.not_true,pF,wr (by omega)]
  rfl
 |none =>
  cases hx:Lib.atoiAll w with
  |range =>
   simp only[tkTup_t,tkCons_c,tkInt_i,tkIfcN_i,tkNil_0]
   rw[zflat,pT]
  |ok n =>
   have hlt:=atoi_lt hx
   simp only[tkTup_t,tkCons_c,tkInt_i,tkIfcN_n,tkNil_0,decide_true,pT]
   rw[zflat,size_str]
   by_cases h1:n<0
   ·rw[dT h1,pT,pT]
   ·rw[dF h1,pF]
    by_cases h2:(w.length:Int)>14
    ·rw[dT h2,pT,pT]
    ·rw[dF h2,pF]
     obtain⟨m,rfl⟩:∃ m:Nat,n=m:=⟨n.toNat,by omega⟩
     rw[o55 (by omega),tkOut_ret,tkStr_s,eqS_str]
     have h3:¬ dec m=w:=by
      intro e
      exact numOf_none hn m ⟨e.symm,by omega⟩
     rw[dF h3,Bool.not_false,pT,pT]
  |_ =>
   simp only[tkTup_t,tkCons_c,tkInt_i,tkIfcN_i,tkNil_0]
   rw[zflat,pT]
end Go.Sim.Lg

namespace Go.Sim.Lg
open Go.Proofs
open Go.Sim.Le (Cav Slc Span Stg Sl sl eCav eSlc eSpan eInt eStg tkOut_ret tkBool_b tkInt_i tkAgg_a tkTup_t tkRow_r tkCons_c tkHv_h tkSCons_c tkSNil_n tkBox_b tkArr_a tkSl_r tkSl_o pT pF wr wrS)
variable (F d:Nat)
theorem z86:(Nat.beq 86 86 && (true==true))=true:=rfl
theorem z11:((1:Nat)==1)=true:=rfl
theorem nums_sum:∀ {ns:List Nat},Nums ns→ns.sum≤100000000000000*ns.length
 |[],_=>Nat.le_refl _
 |n :: ns,h=>by
  have h1:n<10 ^ 14:=dec_lt n 14 (h n (List.mem_cons_self ..))
  have h2:=nums_sum (ns:=ns) fun x hx=>h x (List.mem_cons_of_mem _ hx)
  have h3:(10:Nat) ^ 14=100000000000000:=by decide
  rw[h3] at h1
  rw[List.sum_cons,List.length_cons,Nat.mul_add]
  clear h3 h
  omega
theorem row_snoc {ns:List Nat} {n:Nat} {k:Nat} {g:Nat→List V} (hk:k=ns.length) (hg:RowIs ns g):RowIs (ns ++ [n]) (appGet k g fun _=>[.int .i64 (n:Int)]):=by
 intro i m h
 unfold appGet
 rcases Nat.lt_or_ge i ns.length with h1 | h1
 ·rw[if_pos (by omega),hg i m (by rw[← h,List.getElem?_append_left h1])]
 ·rw[if_neg (by omega)]
  rw[List.getElem?_append_right h1] at h
  cases hi:i - ns.length with
  |zero=>rw[hi] at h;cases h;rfl
  |succ j=>rw[hi] at h;cases h
theorem l34x1 (r t:ByteArray) (s0 n0:Int) (z:List UInt8) (b:Bool) (k2:Nat) (g:Nat→List V) (ws:List (List UInt8)) (hk:k2=ws.length) (hg:∀ (i:Nat) (w:List UInt8),ws[i]? = some w→g i=[.str (str w)]) (hw:∀ w ∈ ws,w.length≤1000000) (hL:ws.length≤1000) :
 ∀ (q p:List (List UInt8)) (fu:Nat) (ns:List Nat) (s:Nat) (g':Nat→List V),ws=p ++ q→q.length<fu→ns.length=p.length→RowIs ns g'→s+100000000000000*q.length<9000000000000000000 →
  (match numsOf q with
   |some ms=>∃ g2,RowIs (ns ++ ms) g2∧L34x1 (E F (d+1)) F r t s0 n0 fu p.length b k2 1 g (ws.length:Int) (p.length:Int) (str z) .i64 (s:Int) p.length g'=some (.ret (.osl 1 0 ws.length),[.box 86 [.str (str z),.int .i64 ((s+ms.sum:Nat):Int)] true,.arr 3 1 ws.length g2 true])
   |none=>∃ x,L34x1 (E F (d+1)) F r t s0 n0 fu p.length b k2 1 g (ws.length:Int) (p.length:Int) (str z) .i64 (s:Int) p.length g'=some (.pan (.iface 83 (.agg [.str (str x)])),[])):=by
 intro q
 induction q with
 |nil =>
  intro p fu ns s g' h1 h2 h3 h4 h5
  obtain⟨fu,rfl⟩:=ex1 (n:=fu) (by omega)
  have hp:p.length=ws.length:=by rw[h1];simp
  refine⟨g',by rwa [List.append_nil],?_⟩
  rw[L34x1s,dF (by omega),pF,hp]
  rfl
 |cons w q ih =>
  intro p fu ns s g' h1 h2 h3 h4 h5
  obtain⟨fu,rfl⟩:∃ k,fu=k+1:=⟨fu - 1,by simp at h2;omega⟩
  have hp:p.length+(q.length+1)=ws.length:=by rw[h1];simp
  have hat:ws[p.length]? = some w:=by rw[h1];simp
  have hw0:w.length≤1000000:=hw w (List.mem_of_getElem? hat)
  simp only[List.length_cons] at h2 h5
  have hwr:IntKind.wrap .i64 ((p.length:Int)+1)=(((p ++ [w]).length:Nat):Int):=by rw[wrS (by omega)];simp
  have hs:=s59 F d (w:=w) (x:=z) (s:=s) hw0 (by omega)
  rw[L34x1s,dT (by omega),pT,z11,pT,dT (by omega),pT,dT (by omega),pT,tnC,hg _ _ hat,tkCons_c,tkStr_s,hs]
  unfold numsOf
  cases hn:numOf w with
  |none =>
   refine⟨w,?_⟩
   simp only[tkHvP_p,tkIfc_i,zflat,pT]
  |some n =>
   simp only[tkHvP_r,tkInt_i,tkSCons_c,tkBox_b,tkCons_c,tkStr_s,tkNil_0,tkSNil_n,z86,pT]
   have hm:n<10 ^ 14:=dec_lt n 14 (by have:=numOf_some.1 hn;rw[← this.1];exact this.2)
   have hm':n<100000000000000:=hm
   have e:=ih (p ++ [w]) fu (ns ++ [n]) (s+n) (appGet p.length g' fun _=>[.int .i64 (n:Int)]) (by rw[h1];simp) (by omega) (by simp[h3]) (row_snoc h3.symm h4) (by omega)
   rw[dT (show (p.length+1)*8≤140737488355328 by omega),pT,hwr]
   rw[show (p ++ [w]).length=p.length+1 by simp] at e ⊢
   cases hq:numsOf q with
   |none=>rw[hq] at e;exact e
   |some ms =>
    rw[hq] at e
    obtain⟨g2,e1,e2⟩:=e
    refine⟨g2,by rw[List.append_assoc] at e1;exact e1,?_⟩
    rw[e2,List.sum_cons,Nat.add_assoc]
theorem zwds (k:Nat) (h:k≤100):IntKind.wrap .i64 ((k:Int)+1)=((k+1:Nat):Int):=wrS (by omega)
theorem s34 {w t:List UInt8} {k s:Nat} (ht:t.length≤100000) (hk1:1≤k) (hk2:k≤100) (hs:s<8000000000000000000) (hF:1000<F) :
 (∃ ns r g,lineP w k t=some (ns,r)∧RowIs ns g ∧
  (E F (d+2)).hv 34 [.optr 0 0 0,.str (str w),.int .i64 (k:Int)] [.box 86 [.str (str t),.int .i64 (s:Int)] true]=some (.ret (.osl 1 0 k),[.box 86 [.str (str r),.int .i64 ((s+ns.sum:Nat):Int)] true,.arr 3 1 k g true])) ∨
 (lineP w k t=none∧∃ x,(E F (d+2)).hv 34 [.optr 0 0 0,.str (str w),.int .i64 (k:Int)] [.box 86 [.str (str t),.int .i64 (s:Int)] true]=some (.pan (.iface 83 (.agg [.str (str x)])),[])):=by
 have hc1:(Lib.cut t [10]).1.length≤t.length:=by
  unfold Lib.cut;split
  ·simp;omega
  ·exact Nat.le_refl _
 have hb10:bs [10]=str [10]:=rfl
 have hb32:bs [32]=str [32]:=rfl
 obtain⟨X,hX⟩:∃ X,X=(E F (d+2)).hv 34 [.optr 0 0 0,.str (str w),.int .i64 (k:Int)] [.box 86 [.str (str t),.int .i64 (s:Int)] true]:=⟨_,rfl⟩
 rw[← hX]
 rw[E_hv _ _ _ _ _ (by decide) (by decide),t34,hb10,hb32,o57 (by omega),tkOut_ret] at hX
 simp only[tkTup_t,tkCons_c,tkStr_s,tkBool_b,tkNil_0] at hX
 rw[o58 (by omega),tkOut_ret,tkRow_r] at hX
 have hL:lineP w k t=if (Lib.cut t [10]).2.2=true then match takeL w k (Lib.cut t [10]).1 with | none=>none | some ns=>some (ns,(Lib.cut t [10]).2.1) else none:=rfl
 rw[hL]
 clear hL
 generalize Lib.cut t [10]=c at hc1 hX ⊢
 obtain⟨now,rest,is⟩:=c
 dsimp only at hc1 hX ⊢
 cases is with
 |false =>
  rw[Bool.not_false,pT,zflat,pT] at hX
  exact Or.inr ⟨if_neg (by decide),now,hX⟩
 |true =>
  rw[if_pos rfl]
  rw[Bool.not_true,pF,z11,pT] at hX
  obtain⟨w0,ws,hsp⟩:∃ w0 ws,spl 32 now=w0 :: ws:=by
   cases hx:spl 32 now with
   |nil=>exact absurd hx (spl_ne _ _)
   |cons a l=>exact⟨a,l,rfl⟩
  obtain⟨hj,hj2,hj3⟩:=spl_join 32 now.length now w0 ws (Nat.le_refl _) hsp
  have hT:takeL w k now=if w0=w then if ws.length+1=k+1 then numsOf ws else none else none:=by
   unfold takeL;rw[hsp];rfl
  rw[hT]
  rw[hsp] at hX
  simp only[List.length_cons,List.map_cons] at hX
  rw[dT (show (0:Int)<((ws.length+1:Nat):Int) by omega),pT] at hX
  simp only[tkCons_c,tkStr_s,List.getD_cons_zero] at hX
  rw[eqS_str] at hX
  by_cases h0:w0=w
  ·rw[dT h0,Bool.not_true,pF,zwds k hk2] at hX
   rw[if_pos h0]
   by_cases h1:ws.length=k
   ·rw[if_pos (by omega)]
    rw[show (((ws.length+1:Nat):Int) != ((k+1:Nat):Int))=false by rw[h1];simp,pF,Bool.true_or,pT,dT (show 1≤ws.length+1 by omega),pT,dT (Nat.le_refl _),pT,Nat.add_sub_cancel] at hX
    have hlen:∀ x ∈ ws,x.length≤1000000:=by
     intro x hx
     have:x.length≤(ws.flatMap ((32:UInt8) :: ·)).length:=by
      clear hj hj3 hsp h1 hT hX
      induction ws with
      |nil=>cases hx
      |cons y ys ih =>
       rw[List.flatMap_cons,List.length_append]
       rcases List.mem_cons.1 hx with rfl | hx
       ·simp;omega
       ·have:=ih hx;omega
     have h2:now.length=w0.length+(ws.flatMap ((32:UInt8) :: ·)).length:=by
      conv=>lhs;rw[hj]
      rw[List.length_append]
     omega
    have hg:∀ (i:Nat) (x:List UInt8),ws[i]? = some x→(fun u=>[V.str ((str w0 :: ws.map str).getD (u+1) default)]) i=[.str (str x)]:=by
     intro i x hx
     simp[List.getD_eq_getElem?_getD,hx]
    clear hj hT hsp
    generalize hG:(fun u=>[V.str ((str w0 :: ws.map str).getD (u+1) default)])=G at hg hX
    clear hG
    obtain⟨x,xs,rfl⟩:∃ x xs,ws=x :: xs:=by
     cases ws with
     |nil=>simp at h1;omega
     |cons a l=>exact⟨a,l,rfl⟩
    obtain⟨fu,hfu⟩:∃ fu,F=fu+1:=⟨F - 1,by omega⟩
    have hx:=hg 0 x rfl
    have hs59:=s59 F d (w:=x) (x:=rest) (s:=s) (hlen x (List.mem_cons_self ..)) (by omega)
    have hxs:xs.length<1000:=by simp at h1;omega
    have hL0:∀ f2,f2=fu+1→L34x0 (E F (d+1)) F (str t) (str w) s k f2 false (x :: xs).length 1 G ((x :: xs).length:Int) (str rest)=X:=fun f2 e=>by rw[hX,e,hfu]
    have hL1:=hL0 _ rfl
    rw[L34x0s,dT (by simp),pT,z11,pT,pT,hx,tkCons_c,tkStr_s,hs59] at hL1
    rw[← hL1]
    unfold numsOf
    cases hn:numOf x with
    |none =>
     refine Or.inr ⟨rfl,x,?_⟩
     simp only[tkHvP_p,tkIfc_i,zflat,pT]
    |some n =>
     have hm:n<10 ^ 14:=dec_lt n 14 (by have:=numOf_some.1 hn;rw[← this.1];exact this.2)
     have hm':n<100000000000000:=hm
     have e:=l34x1 F d (str t) (str w) s k rest false (x :: xs).length G (x :: xs) rfl hg hlen (by simp;omega) xs [x] fu [n] (s+n) (fun _=>[.int .i64 (n:Int)]) rfl (by omega) rfl (by intro i m hm;cases i with | zero=>cases hm;rfl | succ i=>cases hm) (by omega)
     simp only[tkHvP_r,tkInt_i,tkSCons_c,tkBox_b,tkCons_c,tkStr_s,tkNil_0,tkSNil_n,z86,pT]
     have h01:IntKind.wrap .i64 ((0:Int)+1)=(([x]:List (List UInt8)).length:Int):=rfl
     rw[h01]
     cases hq:numsOf xs with
     |none =>
      rw[hq] at e
      exact Or.inr ⟨rfl,e⟩
     |some ms =>
      rw[hq] at e
      obtain⟨g2,e1,e2⟩:=e
      rw[h1] at e2
      refine Or.inl ⟨n :: ms,rest,g2,rfl,e1,?_⟩
      rw[List.sum_cons,← Nat.add_assoc]
      rw[h1]
      exact e2
   ·rw[if_neg (by omega)]
    rw[show (((ws.length+1:Nat):Int) != ((k+1:Nat):Int))=true by rw[bne_iff_ne];omega,pT,zflat,pT] at hX
    exact Or.inr ⟨rfl,now,hX⟩
  ·rw[if_neg h0]
   rw[dF h0,Bool.not_false,pT,zflat,pT] at hX
   exact Or.inr ⟨rfl,now,hX⟩
end Go.Sim.Lg

namespace Go.Sim.Le
open Go.Proofs
def allF (p:Nat→Bool):Nat→Nat→Bool
 |0,_=>true
 |n+1,i=>p i && allF p n (i+1)
theorem allF_iff (p:Nat→Bool):∀ n i,allF p n i=true↔∀ k,i≤k→k<i+n→p k=true:=by
 intro n
 induction n with
 |zero=>intro i;simp only[allF,true_iff];intro k h1 h2;omega
 |succ n ih =>
  intro i
  simp only[allF,Bool.and_eq_true,ih]
  constructor
  ·rintro⟨h1,h2⟩ k h3 h4
   rcases Nat.eq_or_lt_of_le h3 with rfl | h5
   ·exact h1
   ·exact h2 k h5 (by omega)
  ·intro h
   exact⟨h i (Nat.le_refl _) (by omega),fun k h1 h2=>h k (by omega) (by omega)⟩
theorem allF_dec (p:Nat→Bool) (n:Nat):allF p n 0=decide (∀ i,i<n→p i=true):=by
 apply b2
 rw[allF_iff,decide_eq_true_iff]
 exact⟨fun h i hi=>h i (Nat.zero_le _) (by omega),fun h i _ hi=>h i (by omega)⟩
theorem cStep (p a:Bool):(bif !p then some (Out.ret (.bool false)) else some (.ret (.bool a)))=some (.ret (.bool (p && a))):=by cases p<;>rfl
variable (F d:Nat)
theorem l27 (c:Cav) (hB:c.slices.len<Big):∀ n i fu,c.slices.len=i+n→n<fu →
 L27x0 (E F (d+1)) F c fu (i:Int)=some (.ret (.bool (allF (fun k=>decide (SlcOk (c.slices.el k))) n i && (decide (1≤c.slices.len∧c.slices.len≤10) && (decide (1≤c.hold∧c.hold≤300) && decide (0≤c.oil∧c.oil≤10000000000000)))))):=by
 intro n
 induction n with
 |zero =>
  intro i fu h hf
  obtain⟨fu,rfl⟩:=ex1 (n:=fu) (by omega)
  rw[L27x0s]
  simp only[Int.ofNat_lt,show ¬ i<c.slices.len by omega,decide_false,cond_false,allF,s64,tkOut_ret,tkBool_b,cAnd]
  have e:((1:Int)≤(c.slices.len:Int)∧(c.slices.len:Int)≤10)↔(1≤c.slices.len∧c.slices.len≤10):=by omega
  simp only[e,Bool.true_and]
 |succ n ih =>
  intro i fu h hf
  obtain⟨fu,rfl⟩:=ex1 (n:=fu) (by omega)
  rw[L27x0s]
  simp only[Int.ofNat_lt,show i<c.slices.len by omega,decide_true,cond_true,Int.natCast_nonneg,tnC,s64,s70,tkOut_ret,tkBool_b,wrS (show i<Big by omega),ih (i+1) fu (by omega) (by omega),allF,cStep]
  refine b3 ?_
  generalize (c.slices.el i)=x
  by_cases h:1000≤x.opn∧x.opn≤3000
  ·rw[wr (by omega)]
   simp only[Bool.decide_and,Bool.and_assoc]
  ·simp[h]
theorem s27 (c:Cav) (hB:c.slices.len<Big) (hF:c.slices.len<F):(E F (d+2)).pf 9 [.agg (eCav c)]=some (.ret (.bool (decide (CavOk c)))):=by
 rw[E_pf,t27,show L27x0 (E F (d+1)) F c F 0=_ from l27 F d c hB c.slices.len 0 F (by omega) hF,allF_dec]
 refine b3 (b2 ?_)
 simp only[Bool.and_eq_true,decide_eq_true_iff]
 exact⟨fun ⟨a,b,e,f⟩=>⟨b,e,f,a⟩,fun ⟨a,b,e,f⟩=>⟨f,a,b,e⟩⟩
abbrev WtOk (c:Cav) (w:Sl Int) (m:Int):Prop:=(∀ i,i<w.len→-1000≤w.el i∧w.el i≤1000)∧w.len=c.slices.len∧(-1000≤m∧m≤1000)
abbrev WantOk (c:Cav) (w:Sl Int):Prop:=(∀ i,i<w.len→0≤w.el i∧w.el i≤10000000000000)∧w.len=c.slices.len
abbrev SameI (a b:Sl Int):Prop:=a.len=b.len∧∀ i,i<a.len→a.el i=b.el i
abbrev SameP (a b:Sl Span):Prop:=a.len=b.len∧∀ i,i<a.len→a.el i=b.el i
theorem l35 (a b:Sl Int) (hB:a.len<Big) (hl:a.len=b.len):∀ n i fu,a.len=i+n→n<fu →
 L35x0 (E F d) F a b fu (i:Int)=some (.ret (.bool (allF (fun k=>a.el k==b.el k) n i))):=by
 intro n
 induction n with
 |zero =>
  intro i fu h hf
  obtain⟨fu,rfl⟩:=ex1 (n:=fu) (by omega)
  rw[L35x0s]
  simp only[Int.ofNat_lt,show ¬ i<a.len by omega,decide_false,cond_false,allF]
 |succ n ih =>
  intro i fu h hf
  obtain⟨fu,rfl⟩:=ex1 (n:=fu) (by omega)
  rw[L35x0s]
  simp only[Int.ofNat_lt,show i<a.len by omega,show i<b.len by omega,decide_true,cond_true,Int.natCast_nonneg,tnC,wrS (show i<Big by omega),ih (i+1) fu (by omega) (by omega),allF,bne,cStep]
theorem s35 (a b:Sl Int) (hB:a.len<Big) (hF:a.len<F):(E F (d+1)).pf 24 [sl eInt 1 a,sl eInt 1 b]=some (.ret (.bool (decide (SameI a b)))):=by
 rw[E_pf,t35]
 by_cases h:a.len=b.len
 ·rw[show L35x0 (E F d) F a b F 0=_ from l35 F d a b hB h a.len 0 F (by omega) hF,allF_dec]
  rw[show ((a.len:Int) != (b.len:Int))=false by rw[h];simp,cond_false]
  refine b3 (b2 ?_)
  simp only[decide_eq_true_iff,beq_iff_eq]
  exact⟨fun g=>⟨h,g⟩,fun g=>g.2⟩
 ·rw[show ((a.len:Int) != (b.len:Int))=true by simp;omega,cond_true]
  exact b3 (Eq.symm (dF fun g=>h g.1))
theorem spanEq (p q:Span):((p.lo==q.lo) && ((p.hi==q.hi) && true))=decide (p=q):=by
 apply b2
 simp only[Bool.and_eq_true,beq_iff_eq,decide_eq_true_iff,Bool.and_true]
 cases p;cases q;simp
theorem l40 (a b:Sl Span) (hB:a.len<Big) (hl:a.len=b.len):∀ n i fu,a.len=i+n→n<fu →
 L40x0 (E F d) F a b fu (i:Int)=some (.ret (.bool (allF (fun k=>decide (a.el k=b.el k)) n i))):=by
 intro n
 induction n with
 |zero =>
  intro i fu h hf
  obtain⟨fu,rfl⟩:=ex1 (n:=fu) (by omega)
  rw[L40x0s]
  simp only[Int.ofNat_lt,show ¬ i<a.len by omega,decide_false,cond_false,allF]
 |succ n ih =>
  intro i fu h hf
  obtain⟨fu,rfl⟩:=ex1 (n:=fu) (by omega)
  rw[L40x0s]
  simp only[Int.ofNat_lt,show i<a.len by omega,show i<b.len by omega,decide_true,cond_true,Int.natCast_nonneg,tnC,wrS (show i<Big by omega),ih (i+1) fu (by omega) (by omega),allF,spanEq,cStep]
theorem s40 (a b:Sl Span) (hB:a.len<Big) (hF:a.len<F):(E F (d+1)).pf 23 [sl eSpan 2 a,sl eSpan 2 b]=some (.ret (.bool (decide (SameP a b)))):=by
 rw[E_pf,t40]
 by_cases h:a.len=b.len
 ·rw[show L40x0 (E F d) F a b F 0=_ from l40 F d a b hB h a.len 0 F (by omega) hF,allF_dec]
  rw[show ((a.len:Int) != (b.len:Int))=false by rw[h];simp,cond_false]
  refine b3 (b2 ?_)
  simp only[decide_eq_true_iff]
  exact⟨fun g=>⟨h,g⟩,fun g=>g.2⟩
 ·rw[show ((a.len:Int) != (b.len:Int))=true by simp;omega,cond_true]
  exact b3 (Eq.symm (dF fun g=>h g.1))
def errP (c:Cav) (l:Sl Stg) (fine:Bool):Int:=if 8<l.len then 3 else if CavOk c∧(∀ i,i<l.len→StgOk c.slices.len (l.el i))∧fine=true then 0 else 2
theorem s57e (c:Cav) (l:Sl Stg) (hC:c.slices.len<Big) (hCF:c.slices.len<F) (hB:l.len<Big) (hF:l.len<F):(E F (d+7)).pf 39 [.agg (eCav c),sl eStg 4 l]=some (.ret (.int .i64 (errP c l true))):=by
 rw[s57 F d c l hC hCF hB hF];simp[errP]
def errM (c:Cav) (l:Sl Stg) (w:Sl Int):Int:=if 6<l.len then 3 else if CavOk c∧l.len ≠ 0∧(∀ i,i<l.len→StgOk c.slices.len (l.el i))∧WantOk c w then 0 else 2
theorem s77 (c:Cav) (l:Sl Stg) (w:Sl Int) (hC:c.slices.len<Big) (hCF:c.slices.len<F) (hB:l.len<Big) (hF:l.len<F) (hW:w.len<Big) (hWF:w.len<F):(E F (d+7)).pf 48 [.agg (eCav c),sl eStg 4 l,sl eInt 1 w]=some (.ret (.int .i64 (errM c l w))):=by
 rw[E_pf,t77];simp only[s66 F (d+1) c hC hCF,s90 F d c l hC hB hF,s60105 F (d+2) w hW hWF,tkOut_ret,tkBool_b,errM]
 have e:((l.len:Int)==0)=decide (l.len=0):=by apply b2;rw[beq_iff_eq,decide_eq_true_iff];omega
 have e':((w.len:Int) != (c.slices.len:Int)) = !decide (w.len=c.slices.len):=by apply b2;simp;omega
 by_cases h1:6<l.len
 ·simp[h1,show (6:Int)<(l.len:Int) by omega]
 ·simp only[show ¬ ((l.len:Int)>6) by omega,h1,decide_false,cond_false,if_false,e,e']
  by_cases h2:CavOk c
  ·by_cases h0:l.len=0
   ·rw[if_neg (fun h=>h.2.1 h0),dT h2,dT h0];rfl
   by_cases h3:∀ i,i<l.len→StgOk c.slices.len (l.el i)
   ·by_cases h4:w.len=c.slices.len
    ·by_cases h5:∀ i,i<w.len→0≤w.el i∧w.el i≤10000000000000
     ·rw[if_pos ⟨h2,h0,h3,h5,h4⟩,dT h2,dT h3,dT h4,dT h5,dF h0];rfl
     ·rw[if_neg (fun h=>h5 h.2.2.2.1),dT h2,dT h3,dT h4,dF h5,dF h0];rfl
    ·rw[if_neg (fun h=>h4 h.2.2.2.2),dT h2,dT h3,dF h4,dF h0];rfl
   ·rw[if_neg (fun h=>h3 h.2.2.1),dT h2,dF h3,dF h0];rfl
  ·rw[if_neg (fun h=>h2 h.1),dF h2];rfl
end Go.Sim.Le

namespace Go.Sim.Le
open Go.Proofs
section
variable {α:Type} (e:α→List V) (z:α)
def gl (ms:List α):Nat→List V:=fun j=>e (ms.getD j (ms.getLastD z))
variable {e z}
theorem gl_one {l:List V} {m:α} (hl:l=e m):(fun _:Nat=>l)=gl e z [m]:=by
 subst hl
 funext j
 unfold gl
 cases j<;>rfl
theorem gl_snoc {l:List V} {m:α} {ms:List α} {k:Nat} (hk:ms.length=k) (hl:l=e m):appGet k (gl e z ms) (fun _=>l)=gl e z (ms ++ [m]):=by
 subst hl hk
 funext j
 unfold appGet gl
 rw[List.getLastD_concat,List.getD_eq_getElem?_getD,List.getD_eq_getElem?_getD]
 by_cases h:j<ms.length
 ·rw[if_pos h,List.getElem?_append_left h,List.getElem?_eq_getElem h];rfl
 ·rw[if_neg h,List.getElem?_append_right (by omega)]
  rcases Nat.eq_zero_or_pos (j - ms.length) with h0 | h0
  ·rw[h0];rfl
  ·rw[List.getElem?_eq_none (by simp;omega)];rfl
end
def pathN (s:Stg):Nat:=if s.out<s.into then (s.into - s.out).toNat+1 else (s.out - s.into).toNat+1
def stepOf (s:Stg):Int:=if s.out<s.into then -1 else 1
def pathAt (s:Stg) (k:Nat):Int:=s.into+stepOf s*(k:Int)
theorem pathAt_0 (s:Stg):pathAt s 0=s.into:=by simp[pathAt]
theorem pathAt_last (s:Stg):pathAt s (pathN s - 1)=s.out:=by
 unfold pathAt pathN stepOf
 split
 ·rw[show (((s.into - s.out).toNat+1 - 1:Nat):Int)=s.into - s.out by omega];omega
 ·rw[show (((s.out - s.into).toNat+1 - 1:Nat):Int)=s.out - s.into by omega];omega
theorem pathN_pos (s:Stg):1≤pathN s:=by unfold pathN;split<;>omega
theorem pathAt_ne (s:Stg) {k:Nat} (h:k+1<pathN s):pathAt s k ≠ s.out:=by
 unfold pathAt stepOf
 unfold pathN at h
 split at h
 ·rename_i hd;rw[if_pos hd];omega
 ·rename_i hd;rw[if_neg hd];omega
theorem pathAt_in {n:Nat} {s:Stg} (hs:StgOk n s) {k:Nat} (h:k<pathN s):0≤pathAt s k∧pathAt s k<n:=by
 obtain⟨_,h1,h2,h3,_⟩:=hs
 unfold pathAt stepOf
 unfold pathN at h
 split at h
 ·rename_i hd;rw[if_pos hd];omega
 ·rename_i hd;rw[if_neg hd];omega
theorem pathN_le {n:Nat} {s:Stg} (hs:StgOk n s):pathN s≤n:=by
 obtain⟨_,h1,h2,h3,_⟩:=hs
 unfold pathN
 split<;>omega
theorem pathAt_S (s:Stg) (k:Nat):pathAt s (k+1)=pathAt s k+stepOf s:=by
 unfold pathAt
 rw[Int.natCast_add,Int.mul_add]
 simp[Int.add_assoc]
def pathL (s:Stg) (n:Nat):List Int:=(List.range n).map (pathAt s)
theorem pathL_S (s:Stg) (n:Nat):pathL s (n+1)=pathL s n ++ [pathAt s n]:=by
 unfold pathL;rw[List.range_succ,List.map_append];rfl
theorem pathL_len (s:Stg) (n:Nat):(pathL s n).length=n:=by simp[pathL]
theorem pathL_get (s:Stg) {n j:Nat} (h:j<n) (z:Int):(pathL s n).getD j z=pathAt s j:=by
 unfold pathL
 rw[List.getD_eq_getElem?_getD,List.getElem?_map,List.getElem?_range h];rfl
variable (F d:Nat)
def pathSl (s:Stg):Sl Int:=⟨false,pathN s,fun j=>(pathL s (pathN s)).getD j ((pathL s (pathN s)).getLastD 0)⟩
theorem pathSl_el (s:Stg) {j:Nat} (h:j<pathN s):(pathSl s).el j=pathAt s j:=pathL_get s h _
theorem s68 (s:Stg):(E F (d+1)).pf 45 [.agg (eStg s)]=some (.ret (.fn (.func 66) [] [.rptr 1 4 (fun _=>eStg s) 0 0])):=by
 rw[E_pf,t68]
end Go.Sim.Le

namespace Go.Sim.Le
open Go.Proofs
variable (F d:Nat)
def timesS (p:Span) (n:Int):Span:=if n<0 then ⟨n*p.hi,n*p.lo⟩ else ⟨n*p.lo,n*p.hi⟩
abbrev I64 (n:Int):Prop:=-9223372036854775808≤n∧n≤9223372036854775807
theorem s86 (p:Span) (n:Int) (h1:I64 (n*p.lo)) (h2:I64 (n*p.hi)):(E F (d+1)).pf 81 [.agg (eSpan p),.int .i64 n]=some (.ret (.agg (eSpan (timesS p n)))):=by
 rw[E_pf,t86,wr h1,wr h2]
 unfold timesS
 by_cases h:n<0
 ·rw[dT h,cond_true,if_pos h]
 ·rw[dF h,cond_false,if_neg h]
def gainI (c:Cav) (m:Mea) (i:Nat):Int:=(c.slices.el i).opn*m.weights.el i+(c.slices.el i).fall*m.sump
theorem s110 (c:Cav) (m:Mea) (n:Int) (h0:0≤n) (h1:n<c.slices.len) (hl:m.weights.len=c.slices.len) (hw:I64 ((c.slices.el n.toNat).opn*m.weights.el n.toNat)) (hv:I64 ((c.slices.el n.toNat).fall*m.sump)) (hg:I64 (gainI c m n.toNat)) :
 (E F (d+1)).pf 83 [.agg (eCav c),.agg (eMea m),.int .i64 n]=some (.ret (.int .i64 (gainI c m n.toNat))):=by
 rw[E_pf,t110,wr hw,wr hv]
 simp only[h0,h1,show n<(m.weights.len:Int) by omega,decide_true,cond_true]
 unfold gainI at hg ⊢
 rw[wr hg]
end Go.Sim.Le

namespace Go.Sim.Le
open Go.Proofs
theorem mnE (a b:Int):(if b<a then b else a)=min a b:=by omega
theorem mxE (a b:Int):(if a<b then b else a)=max a b:=by omega
abbrev slAt (c:Cav) (s:Stg) (k:Nat):Slc:=c.slices.el (pathAt s k).toNat
def sumLo (c:Cav) (s:Stg):Nat→Int
 |0=>0
 |k+1=>sumLo c s k+(slAt c s k).rate.lo
def sumHi (c:Cav) (s:Stg):Nat→Int
 |0=>0
 |k+1=>sumHi c s k+(slAt c s k).rate.hi
def rtK (c:Cav) (s:Stg) (k:Nat):Span:=⟨min (slAt c s k).rate.lo (max 0 (c.hold - sumHi c s k)),min (slAt c s k).rate.hi (max 0 (c.hold - sumLo c s k))⟩
def rtRow (c:Cav) (s:Stg):Nat→Nat→Span
 |0=>fun _=>⟨0,0⟩
 |k+1=>fun j=>if j=(pathAt s k).toNat then rtK c s k else rtRow c s k j
def rateSl (c:Cav) (s:Stg):Sl Span:=⟨false,c.slices.len,rtRow c s (pathN s)⟩
theorem slcOk_at {c:Cav} (hc:CavOk c) {s:Stg} (hs:StgOk c.slices.len s) {k:Nat} (h:k<pathN s):SlcOk (slAt c s k):=by
 have:=pathAt_in hs h
 exact hc.2.2.2 _ (by omega)
theorem sumLo_in {c:Cav} (hc:CavOk c) {s:Stg} (hs:StgOk c.slices.len s):∀ k,k≤pathN s→0≤sumLo c s k∧sumLo c s k≤sumHi c s k∧sumHi c s k≤300*k:=by
 intro k
 induction k with
 |zero=>intro _;simp[sumLo,sumHi]
 |succ k ih =>
  intro h
  have h1:=ih (by omega)
  have h2:=(slcOk_at hc hs (k:=k) (by omega)).2.2.2.1
  unfold SpanIn at h2
  simp only[sumLo,sumHi]
  omega
theorem upd_span (r:Nat→Span) (n:Nat) (p:Span):updGet (fun j=>eSpan (r j)) n 0 (eSpan p)=fun j=>eSpan (if j=n then p else r j):=by
 funext j
 unfold updGet
 by_cases h:j=n
 ·rw[if_pos h,if_pos h];rfl
 ·rw[if_neg h,if_neg h]
variable (F d:Nat)
theorem l82 (c:Cav) (hc:CavOk c) (s:Stg) (hs:StgOk c.slices.len s):∀ j k fu,k+1+j=pathN s→j<fu →
 L82x0 (E F d) F c s fu (fun _=>eStg s) (stepOf s) .i64 (pathAt s k) (min c.hold (sumLo c s k)) (min c.hold (sumHi c s k)) (fun i=>eSpan (rtRow c s k i)) (fun _=>eStg s)=some (.ret (sl eSpan 2 (rateSl c s))):=by
 intro j
 have hp:=pathN_le hs
 have hl:=hc.1
 have hH:=hc.2.1
 induction j with
 |zero =>
  intro k fu h hf
  obtain⟨fu,rfl⟩:=ex1 (n:=fu) (by omega)
  have hin:=pathAt_in hs (k:=k) (by omega)
  have hsm:=sumLo_in hc hs k (by omega)
  have hk':k=pathN s - 1:=by omega
  have e1:pathAt s k=s.out:=by rw[hk',pathAt_last]
  rw[L82x0s]
  simp (disch:=omega) only[wr,dT,decide_true,cond_true,List.drop,tkCons_c,tkInt_i,show (pathAt s k != s.out)=false by simp[e1],cond_false,mnE,tnC]
  have e2:pathN s=k+1:=by omega
  simp only[sl,rateSl]
  rw[e2]
  have:=upd_span (rtRow c s k) (pathAt s k).toNat (rtK c s k)
  refine congrArg (fun g=>some (Out.ret (V.row false c.slices.len 2 g))) ?_
  refine Eq.trans ?_ this
  unfold rtK
  rw[show c.hold - min c.hold (sumHi c s k)=max 0 (c.hold - sumHi c s k) by omega,show c.hold - min c.hold (sumLo c s k)=max 0 (c.hold - sumLo c s k) by omega]
 |succ j ih =>
  intro k fu h hf
  obtain⟨fu,rfl⟩:=ex1 (n:=fu) (by omega)
  have hin:=pathAt_in hs (k:=k) (by omega)
  have hsm:=sumLo_in hc hs k (by omega)
  have hok:SpanIn (c.slices.el (pathAt s k).toNat).rate 0 300:=(slcOk_at hc hs (k:=k) (by omega)).2.2.2.1
  unfold SpanIn at hok
  have hne:(pathAt s k != s.out)=true:=by
   have:=pathAt_ne s (k:=k) (by omega)
   simpa using this
  have hS:pathAt s k+stepOf s=pathAt s (k+1):=by rw[← pathAt_S]
  have hin2:=pathAt_in hs (k:=k+1) (by omega)
  rw[L82x0s]
  simp (disch:=omega) only[wr,dT,decide_true,cond_true,List.drop,tkCons_c,tkInt_i,hne,hS,mnE,tnC]
  have e3:=upd_span (rtRow c s k) (pathAt s k).toNat (rtK c s k)
  unfold rtK at e3
  rw[show c.hold - min c.hold (sumHi c s k)=max 0 (c.hold - sumHi c s k) by omega,show c.hold - min c.hold (sumLo c s k)=max 0 (c.hold - sumLo c s k) by omega,e3]
  have e4:=ih (k+1) fu (by omega) (by omega)
  simp only[sumLo,sumHi] at e4
  rw[show min c.hold (min c.hold (sumLo c s k)+(c.slices.el (pathAt s k).toNat).rate.lo)=min c.hold (sumLo c s k+(slAt c s k).rate.lo) by unfold slAt;omega,show min c.hold (min c.hold (sumHi c s k)+(c.slices.el (pathAt s k).toNat).rate.hi)=min c.hold (sumHi c s k+(slAt c s k).rate.hi) by unfold slAt;omega]
  exact e4
theorem s82 (c:Cav) (hc:CavOk c) (s:Stg) (hs:StgOk c.slices.len s) (hF:20<F):(E F (d+2)).pf 38 [.agg (eCav c),.agg (eStg s)]=some (.ret (sl eSpan 2 (rateSl c s))):=by
 have hl:=hc.1
 have hp:=pathN_le hs
 have hp1:=pathN_pos s
 have h:=l82 F (d+1) c hc s hs (pathN s - 1) 0 F (by omega) (by omega)
 rw[pathAt_0] at h
 simp only[sumLo,sumHi,rtRow,show min c.hold 0=0 by have:=hc.2.1;omega] at h
 rw[E_pf,t82]
 simp (disch:=omega) only[dT,decide_true,cond_true,s68,tkOut_ret,tkFn_f,tkNil_n,tkCons_c,tkPtr_p,tkInt_i,Nat.beq_refl,Bool.and_self]
 unfold stepOf at h
 by_cases hd:s.out<s.into
 ·rw[if_pos hd] at h
  rw[dT hd,cond_true];exact h
 ·rw[if_neg hd] at h
  rw[dF hd,cond_false];exact h
theorem s39 (c:Cav) (s:Stg) (hB:c.slices.len<Big) (hF:c.slices.len<F) (hF2:20<F):(E F (d+6)).pf 14 [.agg (eCav c),.agg (eStg s)] =
 (if CavOk c∧StgOk c.slices.len s then some (.ret (.tup [sl eSpan 2 (rateSl c s),i64 0])) else some (.ret (.tup [.row true 0 0 fun _=>[],i64 2]))):=by
 rw[E_pf,t39]
 by_cases h1:CavOk c
 ·by_cases h2:StgOk c.slices.len s
  ·rw[if_pos ⟨h1,h2⟩]
   simp (disch:=omega) only[s66 F d c hB hF,s67 F (d+3) c s hB,tkOut_ret,tkBool_b,dT h1,dT h2,Bool.not_true,cond_false,s82 F (d+3) c h1 s h2,tkRow_r]
  ·rw[if_neg (fun h=>h2 h.2)]
   simp (disch:=omega) only[s66 F d c hB hF,s67 F (d+3) c s hB,tkOut_ret,tkBool_b,dT h1,dF h2,Bool.not_true,Bool.not_false,cond_false,cond_true]
 ·rw[if_neg (fun h=>h1 h.1)]
  simp (disch:=omega) only[s66 F d c hB hF,tkOut_ret,tkBool_b,dF h1,Bool.not_false,cond_true]
end Go.Sim.Le

namespace Go.Sim.Le
open Go.Proofs
def addS (p q:Span):Span:=⟨p.lo+q.lo,p.hi+q.hi⟩
variable (F d:Nat)
theorem pairGet (p q:Span):(fun u:Nat=>List.take 2 (List.drop (Min.min u 1*2) [V.int .i64 p.lo,V.int .i64 p.hi,V.int .i64 q.lo,V.int .i64 q.hi]))=fun i=>eSpan (if i=0 then p else q):=by
 funext i
 match i with
 |0=>rfl
 |i+1=>simp[show Min.min (i+1) 1=1 by omega]
theorem s85g (env:Env) (F:Nat) (a:Sl Span) (hl:a.len=2) (h1:I64 (a.el 0).lo) (h2:I64 (a.el 0).hi) (h3:I64 ((a.el 0).lo+(a.el 1).lo)) (h4:I64 ((a.el 0).hi+(a.el 1).hi)) :
 evFun Tryz.prog (cfg (F+3)) env 64 [sl eSpan 2 a]=some (.ret (.agg (eSpan (addS (a.el 0) (a.el 1))))):=by
 rw[t85,L85x0s,dT (by omega),cond_true,dT (by omega),cond_true,cond_true,Int.toNat_zero,Int.zero_add,Int.zero_add,Int.zero_add,wr (by decide),wr h1,wr h2]
 rw[L85x0s,dT (by omega),cond_true,dT (by omega),cond_true,cond_true,show (1:Int).toNat=1 from rfl,wr h3,wr h4,wr (by decide)]
 rw[L85x0s,dF (by omega),cond_false]
 rfl
theorem s85 (p q:Span) (hF:20<F) (h1:I64 p.lo) (h2:I64 p.hi) (h3:I64 (p.lo+q.lo)) (h4:I64 (p.hi+q.hi)) :
 (E F (d+1)).pf 64 [.row false 2 2 (fun u=>List.take 2 (List.drop (Min.min u 1*2) [V.int .i64 p.lo,V.int .i64 p.hi,V.int .i64 q.lo,V.int .i64 q.hi]))]=some (.ret (.agg (eSpan (addS p q)))):=by
 obtain⟨F,rfl⟩:∃ k,F=k+3:=⟨F - 3,by omega⟩
 rw[pairGet,E_pf]
 exact s85g (E (F+3) d) F ⟨false,2,fun i=>if i=0 then p else q⟩ rfl h1 h2 h3 h4
abbrev MeaOk (c:Cav) (m:Mea):Prop:=m.weights.len=c.slices.len∧(∀ i,i<c.slices.len→-1000≤m.weights.el i∧m.weights.el i≤1000)∧-1000≤m.sump∧m.sump≤1000
theorem mul_in {a b x y:Int} (h1:-x≤a) (h2:a≤x) (h3:0≤b) (h4:b≤y):-(x*y)≤a*b∧a*b≤x*y:=by
 have hx:0≤x:=by omega
 constructor
 ·have:-a*b≤x*y:=Int.mul_le_mul (by omega) h4 h3 hx
  rw[Int.neg_mul] at this;omega
 ·exact Int.mul_le_mul h2 h4 h3 hx
def firstS (c:Cav) (m:Mea):Nat→Span
 |0=>⟨0,0⟩
 |k+1=>addS (firstS c m k) (timesS (c.slices.el k).vol (m.weights.el k))
theorem times_in {p:Span} {n x y:Int} (h1:-x≤n) (h2:n≤x) (h3:0≤p.lo) (h4:p.lo≤p.hi) (h5:p.hi≤y):(-(x*y)≤n*p.lo∧n*p.lo≤x*y)∧(-(x*y)≤n*p.hi∧n*p.hi≤x*y):=⟨mul_in h1 h2 h3 (by omega),mul_in h1 h2 (by omega) h5⟩
theorem timesS_in {p:Span} {n z:Int} (h:(-z≤n*p.lo∧n*p.lo≤z)∧(-z≤n*p.hi∧n*p.hi≤z)):(-z≤(timesS p n).lo∧(timesS p n).lo≤z)∧(-z≤(timesS p n).hi∧(timesS p n).hi≤z):=by
 unfold timesS
 split
 ·exact⟨h.2,h.1⟩
 ·exact h
theorem vol_in {c:Cav} (hc:CavOk c) {m:Mea} (hm:MeaOk c m) {k:Nat} (h:k<c.slices.len):(-10000000000000000≤m.weights.el k*(c.slices.el k).vol.lo∧m.weights.el k*(c.slices.el k).vol.lo≤10000000000000000)∧(-10000000000000000≤m.weights.el k*(c.slices.el k).vol.hi∧m.weights.el k*(c.slices.el k).vol.hi≤10000000000000000):=by
 have h1:=(hc.2.2.2 k h).1
 have h2:=hm.2.1 k h
 exact times_in (x:=1000) (y:=10000000000000) h2.1 h2.2 h1.1 h1.2.1 h1.2.2
theorem first_in {c:Cav} (hc:CavOk c) {m:Mea} (hm:MeaOk c m):∀ k,k≤c.slices.len→(-(10000000000000000*(k:Int))≤(firstS c m k).lo∧(firstS c m k).lo≤10000000000000000*k)∧(-(10000000000000000*(k:Int))≤(firstS c m k).hi∧(firstS c m k).hi≤10000000000000000*k):=by
 intro k
 induction k with
 |zero=>intro _;simp[firstS]
 |succ k ih =>
  intro h
  have h1:=ih (by omega)
  have h2:=timesS_in (z:=10000000000000000) (vol_in hc hm (k:=k) (by omega))
  simp only[firstS,addS]
  omega
theorem l92 (c:Cav) (hc:CavOk c) (m:Mea) (hm:MeaOk c m) (hF:20<F):∀ j k fu,k+j=c.slices.len→j<fu →
 L92x0 (E F (d+1)) F c m fu k .i64 (firstS c m k).lo .i64 (firstS c m k).hi=some (.ret (.agg (eSpan (firstS c m c.slices.len)))):=by
 intro j
 have hl:=hc.1
 have hw:=hm.1
 induction j with
 |zero =>
  intro k fu h hf
  obtain⟨fu,rfl⟩:=ex1 (n:=fu) (by omega)
  rw[L92x0s]
  have hk:k=c.slices.len:=by omega
  subst hk
  simp (disch:=omega) only[dF,decide_false,cond_false]
 |succ j ih =>
  intro k fu h hf
  obtain⟨fu,rfl⟩:=ex1 (n:=fu) (by omega)
  have h1:=vol_in hc hm (k:=k) (by omega)
  have h2:=first_in hc hm k (by omega)
  have h3:=first_in hc hm (k+1) (by omega)
  simp only[firstS,addS] at h3
  rw[L92x0s]
  have e5:=s85 F d (firstS c m k) (timesS (c.slices.el k).vol (m.weights.el k)) hF (by omega) (by omega) (by omega) (by omega)
  simp (disch:=omega) only[dT,decide_true,cond_true,tnC,s86,tkOut_ret,tkAgg_a,tkCons_c,tkInt_i,tkNil_n,e5]
  rw[wrS (by omega)]
  exact ih (k+1) fu (by omega) (by omega)
theorem s92 (c:Cav) (hc:CavOk c) (m:Mea) (hm:MeaOk c m) (hF:20<F):(E F (d+2)).pf 63 [.agg (eCav c),.agg (eMea m)]=some (.ret (.agg (eSpan (firstS c m c.slices.len)))):=by
 rw[E_pf,t92]
 have hl:=hc.1
 exact l92 F d c hc m hm hF c.slices.len 0 F (by omega) (by omega)
section
variable {κ:Type} (ek ev:κ→V)
def encM (ks:List κ):List (V × V):=ks.map fun k=>(ek k,ev k)
variable {ek ev}
theorem mget_enc [DecidableEq κ] (he:∀ a b,keyEq (ek a) (ek b)=decide (a=b)) (k:κ):∀ ks,mget (encM ek ev ks) (ek k)=if k ∈ ks then some (ev k) else none:=by
 intro ks
 induction ks with
 |nil=>rfl
 |cons a ks ih =>
  simp only[encM,List.map,mget,he]
  by_cases h:a=k
  ·subst h;simp
  ·rw[dF h,cond_false]
   have:(k ∈ a :: ks)↔k ∈ ks:=by simp[show ¬ k=a from fun e=>h e.symm]
   simp only[this]
   exact ih
theorem mput_enc [DecidableEq κ] (he:∀ a b,keyEq (ek a) (ek b)=decide (a=b)) (k:κ):∀ ks,k ∉ ks→mput (encM ek ev ks) (ek k) (ev k)=encM ek ev (ks ++ [k]):=by
 intro ks
 induction ks with
 |nil=>intro _;rfl
 |cons a ks ih =>
  intro h
  simp only[encM,List.map,mput,he,List.cons_append]
  rw[dF (fun e=>h (by simp[e])),cond_false]
  exact congrArg _ (ih fun e=>h (by simp[e]))
theorem encM_len (ks:List κ):(encM ek ev ks).length=ks.length:=by simp[encM]
end
end Go.Sim.Le

namespace Go.Sim.Le
open Go.Proofs
def bestLo (f:Int→Int) (a:Int):Nat→Int
 |0=>f a
 |j+1=>min (bestLo f a j) (f (a+((j+1:Nat):Int)))
def bestHi (f:Int→Int) (a:Int):Nat→Int
 |0=>f a
 |j+1=>max (bestHi f a j) (f (a+((j+1:Nat):Int)))
def restS (c:Cav) (m:Mea) (s:Stg):Nat→Int→Span
 |0,_=>⟨0,0⟩
 |r+1,b =>
  let x:=slAt c s (pathN s - (r+1))
  let g:=gainI c m (pathAt s (pathN s - (r+1))).toNat
  let a:=min x.rate.lo b
  ⟨bestLo (fun n=>(restS c m s r (b - n)).lo+n*g) a (min x.rate.hi b - a).toNat,bestHi (fun n=>(restS c m s r (b - n)).hi+n*g) a (min x.rate.hi b - a).toNat⟩
theorem bestLo_in {f:Int→Int} {a L H:Int}:∀ j:Nat,(∀ n,a≤n→n≤a+j→L≤f n∧f n≤H)→L≤bestLo f a j∧bestLo f a j≤H:=by
 intro j
 induction j with
 |zero=>intro h;exact h a (by omega) (by omega)
 |succ j ih =>
  intro h
  have h1:=ih fun n h1 h2=>h n h1 (by omega)
  have h2:=h (a+((j+1:Nat):Int)) (by omega) (by omega)
  simp only[bestLo]
  omega
theorem bestHi_in {f:Int→Int} {a L H:Int}:∀ j:Nat,(∀ n,a≤n→n≤a+j→L≤f n∧f n≤H)→L≤bestHi f a j∧bestHi f a j≤H:=by
 intro j
 induction j with
 |zero=>intro h;exact h a (by omega) (by omega)
 |succ j ih =>
  intro h
  have h1:=ih fun n h1 h2=>h n h1 (by omega)
  have h2:=h (a+((j+1:Nat):Int)) (by omega) (by omega)
  simp only[bestHi]
  omega
theorem gain_in {c:Cav} (hc:CavOk c) {m:Mea} (hm:MeaOk c m) {k:Nat} (h:k<c.slices.len):(-3000000≤(c.slices.el k).opn*m.weights.el k∧(c.slices.el k).opn*m.weights.el k≤3000000)∧(-3000000≤(c.slices.el k).fall*m.sump∧(c.slices.el k).fall*m.sump≤3000000)∧-6000000≤gainI c m k∧gainI c m k≤6000000:=by
 have h1:=hc.2.2.2 k h
 have h2:=hm.2.1 k h
 have h3:=hm.2.2
 obtain⟨_,⟨h4,h5⟩,⟨h6,h7⟩,_⟩:=h1
 have e1:=mul_in (a:=m.weights.el k) (b:=(c.slices.el k).opn) (x:=1000) (y:=3000) h2.1 h2.2 (by omega) h5
 have e2:=mul_in (a:=m.sump) (b:=(c.slices.el k).fall) (x:=1000) (y:=3000) h3.1 h3.2 h6 (by omega)
 rw[Int.mul_comm] at e1 e2
 unfold gainI
 rw[Int.mul_comm] at e1 e2
 rw[Int.mul_comm (c.slices.el k).opn,Int.mul_comm (c.slices.el k).fall]
 omega
theorem mulg {n g z:Int} (h0:0≤n) (h1:-z≤g) (h2:g≤z):-(z*n)≤n*g∧n*g≤z*n:=by
 have a:=Int.mul_le_mul_of_nonneg_left h1 h0
 have b:=Int.mul_le_mul_of_nonneg_left h2 h0
 rw[Int.mul_neg] at a
 rw[Int.mul_comm z n]
 omega
theorem rest_in {c:Cav} (hc:CavOk c) {m:Mea} (hm:MeaOk c m) {s:Stg} (hs:StgOk c.slices.len s):∀ r,r≤pathN s→∀ b,0≤b→(-(6000000*b)≤(restS c m s r b).lo∧(restS c m s r b).lo≤6000000*b)∧(-(6000000*b)≤(restS c m s r b).hi∧(restS c m s r b).hi≤6000000*b):=by
 intro r
 induction r with
 |zero=>intro _ b h;simp only[restS];omega
 |succ r ih =>
  intro h b hb
  have hk:=pathAt_in hs (k:=pathN s - (r+1)) (by omega)
  have hg:=(gain_in hc hm (k:=(pathAt s (pathN s - (r+1))).toNat) (by omega)).2.2
  have ho:SpanIn (slAt c s (pathN s - (r+1))).rate 0 300:=(slcOk_at hc hs (k:=pathN s - (r+1)) (by omega)).2.2.2.1
  unfold SpanIn at ho
  simp only[restS]
  generalize (slAt c s (pathN s - (r+1))).rate.lo=lo at ho ⊢
  generalize (slAt c s (pathN s - (r+1))).rate.hi=hi at ho ⊢
  generalize gainI c m (pathAt s (pathN s - (r+1))).toNat=g at hg ⊢
  constructor
  ·refine bestLo_in _ fun n h1 h2=>?_
   have h3:=(ih (by omega) (b - n) (by omega)).1
   have h4:=mulg (n:=n) (by omega) hg.1 hg.2
   omega
  ·refine bestHi_in _ fun n h1 h2=>?_
   have h3:=(ih (by omega) (b - n) (by omega)).2
   have h4:=mulg (n:=n) (by omega) hg.1 hg.2
   omega
section
variable (c:Cav) (m:Mea) (s:Stg)
def mK (p:Nat × Int):V:=.agg [.int .i64 p.1,.int .i64 p.2]
def mV (p:Nat × Int):V:=.agg (eSpan (restS c m s (pathN s - p.1) p.2))
abbrev Mem (ks:List (Nat × Int)):Prop:=ks.Nodup∧∀ p ∈ ks,p.1<10∧0≤p.2∧p.2≤300
theorem mK_eq (p q:Nat × Int):keyEq (mK p) (mK q)=decide (p=q):=by
 obtain⟨a,b⟩:=p
 obtain⟨a',b'⟩:=q
 apply b2
 simp[mK,keyEq,keysEq,keyEq1]
 omega
theorem mem_len {ks:List (Nat × Int)} (h:Mem ks):ks.length≤3010:=by
 have h1:ks ⊆ (List.range 10).flatMap fun i=>(List.range 301).map fun j=>(i,((j:Nat):Int)):=by
  intro p hp
  obtain⟨a1,a2,a3⟩:=h.2 p hp
  simp only[List.mem_flatMap,List.mem_range,List.mem_map]
  refine⟨p.1,a1,p.2.toNat,by omega,?_⟩
  rw[Int.toNat_of_nonneg a2]
 have h2:=h.1.length_le_of_subset h1
 rw[show ((List.range 10).flatMap fun i=>(List.range 301).map fun j=>(i,((j:Nat):Int))).length=3010 by decide +kernel] at h2
 exact h2
abbrev memH (N:Nat) (es:List (V × V)):List Slot:=[.box 51 [.osl 5 0 N] true,.box 142 [.mapr 6] true,.box 66 (eCav c) true,.box 99 (eMea m) true,.box 143 [.fn (.func 82) [] [.optr 0 0 0,.optr 1 0 0,.optr 2 0 0,.optr 3 0 0,.optr 4 0 0]] true,.arr 3 1 N (fun i=>eInt ((pathSl s).el i)) true,.mp true [.int .i64,.int .i64] es true]
end
theorem p63:(2:Int) ^ 63=9223372036854775808:=rfl
theorem samO (N:Nat):sameV 8 (.osl 5 0 N) (.osl 5 0 N)=true:=by simp only[sameV,Nat.beq_refl,Bool.and_self]
theorem samM:sameV 8 (.mapr 6) (.mapr 6)=true:=rfl
theorem samF:sameV 8 (.fn (.func 82) [] [.optr 0 0 0,.optr 1 0 0,.optr 2 0 0,.optr 3 0 0,.optr 4 0 0]) (.fn (.func 82) [] [.optr 0 0 0,.optr 1 0 0,.optr 2 0 0,.optr 3 0 0,.optr 4 0 0])=true:=rfl
theorem ks2:ksEq [.int .i64,.int .i64] [.int .i64,.int .i64]=true:=rfl
variable (F d:Nat)
theorem mput_mem {κ:Type} [DecidableEq κ] {ek ev:κ→V} (he:∀ a b,keyEq (ek a) (ek b)=decide (a=b)) (k:κ):∀ ks,k ∈ ks→mput (encM ek ev ks) (ek k) (ev k)=encM ek ev ks:=by
 intro ks
 induction ks with
 |nil=>intro h;simp at h
 |cons a ks ih =>
  intro h
  simp only[encM,List.map,mput,he]
  by_cases e:a=k
  ·rw[dT e,cond_true,e]
  ·rw[dF e,cond_false]
   refine congrArg _ (ih ?_)
   rcases List.mem_cons.1 h with h | h
   ·exact (e h.symm).elim
   ·exact h
theorem mput_some {κ:Type} [DecidableEq κ] {ek ev:κ→V} (he:∀ a b,keyEq (ek a) (ek b)=decide (a=b)) {P:κ→Prop} (k:κ) (hk:P k) {ks:List κ} (h:ks.Nodup∧∀ p ∈ ks,P p) :
 ∃ ks',(ks'.Nodup∧∀ p ∈ ks',P p)∧mput (encM ek ev ks) (ek k) (ev k)=encM ek ev ks':=by
 by_cases hm:k ∈ ks
 ·exact⟨ks,h,mput_mem he k ks hm⟩
 ·refine⟨ks ++ [k],⟨?_,?_⟩,mput_enc he k ks hm⟩
  ·rw[List.nodup_append]
   exact⟨h.1,by simp,fun a ha b hb e=>hm (by rw[List.mem_singleton] at hb;rw[← hb,← e];exact ha)⟩
  ·intro p hp
   rcases List.mem_append.1 hp with hp | hp
   ·exact h.2 p hp
   ·rw[List.mem_singleton] at hp;rw[hp];exact hk
end Go.Sim.Le

namespace Go.Sim.Le
open Go.Proofs
variable (F d:Nat)
theorem l109 {c:Cav} (hc:CavOk c) {m:Mea} (hm:MeaOk c m) {s:Stg} (hs:StgOk c.slices.len s) (D r k:Nat) (hk:k+(r+1)=pathN s) (b:Int) (hb:0≤b∧b≤300) (es:List (V × V))
 (IH:∀ b ks,0≤b→b≤300→Mem ks→∃ ks',Mem ks'∧(E F D).hv 82 [.agg [.int .i64 ((k+1:Nat):Int),.int .i64 b],.optr 0 0 0,.optr 1 0 0,.optr 2 0 0,.optr 3 0 0,.optr 4 0 0] (memH c m s (pathN s) (encM mK (mV c m s) ks))=some (.ret (.agg (eSpan (restS c m s r b))),memH c m s (pathN s) (encM mK (mV c m s) ks'))) :
 let x:=slAt c s k
 let g:=gainI c m (pathAt s k).toNat
 let a:=min x.rate.lo b
 let fl:=fun n=>(restS c m s r (b - n)).lo+n*g
 let fh:=fun n=>(restS c m s r (b - n)).hi+n*g
 ∀ j t fu ks,t+j=(min x.rate.hi b - a).toNat→j<fu→Mem ks→∃ ks',Mem ks' ∧
  L109x0 (E F D) F c m k b (pathN s) (pathSl s).el es fu .i64 g (a+((t+1:Nat):Int)) .i64 (bestLo fl a t) .i64 (bestHi fh a t) c.slices.nl c.slices.len 7 (fun u=>eSlc (c.slices.el u)) .i64 c.hold .i64 c.oil m.weights.nl m.weights.len 1 (fun u=>[.int .i64 (m.weights.el u)]) .i64 m.sump (fun u=>[.int .i64 ((pathSl s).el u)]) (encM mK (mV c m s) ks)
   = some (.ret (.agg (eSpan (restS c m s (r+1) b))),memH c m s (pathN s) (encM mK (mV c m s) ks')):=by
 intro x g a fl fh
 have hp:=pathN_le hs
 have hin:=pathAt_in hs (k:=k) (by omega)
 have hl:=hc.1
 have hg:-6000000≤g∧g≤6000000:=(gain_in hc hm (k:=(pathAt s k).toNat) (by omega)).2.2
 have ho:SpanIn (c.slices.el (pathAt s k).toNat).rate 0 300:=(slcOk_at hc hs (k:=k) (by omega)).2.2.2.1
 unfold SpanIn at ho
 have hkN:pathN s - (r+1)=k:=by omega
 have hR:=fun b h=>rest_in hc hm hs r (by omega) b h
 have ha:a=min (c.slices.el (pathAt s k).toNat).rate.lo b:=rfl
 have hx:x.rate.hi=(c.slices.el (pathAt s k).toNat).rate.hi:=rfl
 have hE:restS c m s (r+1) b=⟨bestLo fl a (min x.rate.hi b - a).toNat,bestHi fh a (min x.rate.hi b - a).toNat⟩:=by
  rw[restS,hkN]
 intro j
 induction j with
 |zero =>
  intro t fu ks h hf hM
  obtain⟨fu,rfl⟩:=ex1 (n:=fu) (by omega)
  have hlen:=mem_len hM
  obtain⟨ks',hM',e'⟩:=mput_some (ev:=mV c m s) mK_eq (P:=fun p=>p.1<10∧0≤p.2∧p.2≤300) (k,b) ⟨by omega,hb.1,hb.2⟩ hM
  refine⟨ks',hM',?_⟩
  rw[L109x0s]
  simp (disch:=omega) only[tnC,pathSl_el,mnE]
  rw[dF (by omega),cond_false]
  simp (disch:=omega) only[p63,dT,decide_true,Bool.and_self,cond_true,encM_len]
  have ht:t=(min x.rate.hi b - a).toNat:=by omega
  have e2:(V.agg [.int .i64 (bestLo fl a t),.int .i64 (bestHi fh a t)])=mV c m s (k,b):=by
   simp only[mV]
   rw[show pathN s - k=r+1 by omega,hE,ht]
  have e3:(V.agg [.int .i64 ((k:Nat):Int),.int .i64 b])=mK (k,b):=rfl
  rw[e2,e3,e',hE,← ht,← e2]
 |succ j ih =>
  intro t fu ks h hf hM
  obtain⟨fu,rfl⟩:=ex1 (n:=fu) (by omega)
  obtain⟨ks1,hM1,e1⟩:=IH (b - (a+((t+1:Nat):Int))) ks (by omega) (by omega) hM
  obtain⟨ks',hM',e'⟩:=ih (t+1) fu ks1 (by omega) (by omega) hM1
  refine⟨ks',hM',?_⟩
  have hr:=hR (b - (a+((t+1:Nat):Int))) (by omega)
  have hng:=mulg (n:=a+((t+1:Nat):Int)) (by omega) hg.1 hg.2
  rw[L109x0s]
  simp (disch:=omega) only[tnC,pathSl_el,mnE]
  rw[dT (by omega),cond_true,wrS (by omega),wr (show _∧_ by omega)]
  simp only[memH,eInt] at e1
  simp only[e1,tkHv_h,tkAgg_a,tkCons_c,tkInt_i,tkNil_n,tkSCons_c,tkBox_b,Nat.beq_refl,Bool.and_self,beq_self_eq_true,cond_true,samO,samM,samF,ks2,tkRow_r,tkArr_a,tkMp_m,tkSNil_n,decide_true]
  rw[show (a+((t+1:Nat):Int)==min (c.slices.el (pathAt s k).toNat).rate.lo b)=false by rw[beq_eq_false_iff_ne];omega,cond_false]
  rw[wr (n:=a+((t+1:Nat):Int)+1) (show _∧_ by omega),wr (n:=(a+((t+1:Nat):Int))*g) (show _∧_ by omega),wr (show _∧_ by omega),wr (show _∧_ by omega)]
  simp only[mnE,mxE]
  rw[show a+((t+1:Nat):Int)+1=a+((t+1+1:Nat):Int) by omega]
  exact e'
theorem s109 {c:Cav} (hc:CavOk c) {m:Mea} (hm:MeaOk c m) {s:Stg} (hs:StgOk c.slices.len s) (hF:400<F):∀ r k D,k+r=pathN s→∀ b ks,0≤b→b≤300→Mem ks→∃ ks',Mem ks' ∧
 (E F (D+r+2)).hv 82 [.agg [.int .i64 ((k:Nat):Int),.int .i64 b],.optr 0 0 0,.optr 1 0 0,.optr 2 0 0,.optr 3 0 0,.optr 4 0 0] (memH c m s (pathN s) (encM mK (mV c m s) ks))=some (.ret (.agg (eSpan (restS c m s r b))),memH c m s (pathN s) (encM mK (mV c m s) ks')):=by
 intro r
 induction r with
 |zero =>
  intro k D hk b ks h0 h1 hM
  refine⟨ks,hM,?_⟩
  rw[E_hv,t109]
  rw[show ((k:Int)==(pathN s:Int))=true by rw[beq_iff_eq];omega,cond_true]
  rfl
 |succ r ih =>
  intro k D hk b ks h0 h1 hM
  have hp:=pathN_le hs
  have hin:=pathAt_in hs (k:=k) (by omega)
  have hl:=hc.1
  have hG:=gain_in hc hm (k:=(pathAt s k).toNat) (by omega)
  have hg:=hG.2.2
  have ho:SpanIn (c.slices.el (pathAt s k).toNat).rate 0 300:=(slcOk_at hc hs (k:=k) (by omega)).2.2.2.1
  unfold SpanIn at ho
  rw[show D+(r+1)+2=(D+r+2)+1 by omega,E_hv,t109]
  rw[show ((k:Int)==(pathN s:Int))=false by rw[beq_eq_false_iff_ne];omega,cond_false]
  simp (disch:=omega) only[p63,dT,decide_true,Bool.and_self,cond_true,tnC,pathSl_el]
  rw[show (V.agg [.int .i64 ((k:Nat):Int),.int .i64 b])=mK (k,b) from rfl,mget_enc mK_eq]
  by_cases hmem:(k,b) ∈ ks
  ·rw[if_pos hmem]
   refine⟨ks,hM,?_⟩
   simp only[tkOpt,mV,tkAgg_a,tkCons_c,tkInt_i,tkNil_n]
   rw[show pathN s - k=r+1 by omega]
  ·rw[if_neg hmem]
   have IH:=fun b ks=>ih (k+1) D (by omega) b ks
   obtain⟨ks1,hM1,e1⟩:=IH (b - min (c.slices.el (pathAt s k).toNat).rate.lo b) ks (by omega) (by omega) hM
   obtain⟨ks',hM',e'⟩:=l109 F hc hm hs (D+r+2) r k hk b ⟨h0,h1⟩ (encM mK (mV c m s) ks) IH (min (c.slices.el (pathAt s k).toNat).rate.hi b - min (c.slices.el (pathAt s k).toNat).rate.lo b).toNat 0 (F - 1) ks1 (by simp[slAt]) (by omega) hM1
   refine⟨ks',hM',?_⟩
   have hr:=rest_in hc hm hs r (by omega) (b - min (c.slices.el (pathAt s k).toNat).rate.lo b) (by omega)
   have hng:=mulg (n:=min (c.slices.el (pathAt s k).toNat).rate.lo b) (by omega) hg.1 hg.2
   have e110:=s110 F (D+r+1) c m (pathAt s k) hin.1 hin.2 hm.1 (by omega) (by omega) (by omega)
   simp only[tkOpt]
   rw[e110]
   simp only[tkOut_ret,tkInt_i]
   obtain⟨F,rfl⟩:=ex1 (n:=F) (by omega)
   rw[L109x0s]
   simp (disch:=omega) only[tnC,pathSl_el,mnE]
   rw[dT (by omega),cond_true,wrS (by omega),wr (show _∧_ by omega)]
   simp only[memH,eInt] at e1
   simp only[e1,tkHv_h,tkAgg_a,tkCons_c,tkInt_i,tkNil_n,tkSCons_c,tkBox_b,Nat.beq_refl,Bool.and_self,beq_self_eq_true,cond_true,samO,samM,samF,ks2,tkRow_r,tkArr_a,tkMp_m,tkSNil_n,decide_true]
   rw[wr (n:=min (c.slices.el (pathAt s k).toNat).rate.lo b+1) (show _∧_ by omega),wr (n:=(min (c.slices.el (pathAt s k).toNat).rate.lo b)*gainI c m (pathAt s k).toNat) (show _∧_ by omega),wr (show _∧_ by omega),wr (show _∧_ by omega)]
   simp only[mnE,mxE,Int.min_self,Int.max_self]
   exact e'
end Go.Sim.Le

namespace Go.Sim.Le
open Go.Proofs
variable (F d:Nat)
def grownS (c:Cav) (m:Mea) (s:Stg):Span:=timesS (restS c m s (pathN s) c.hold) s.water
theorem grown_in {c:Cav} (hc:CavOk c) {m:Mea} (hm:MeaOk c m) {s:Stg} (hs:StgOk c.slices.len s):((-1800000000000000≤s.water*(restS c m s (pathN s) c.hold).lo∧s.water*(restS c m s (pathN s) c.hold).lo≤1800000000000000)∧-1800000000000000≤s.water*(restS c m s (pathN s) c.hold).hi∧s.water*(restS c m s (pathN s) c.hold).hi≤1800000000000000) ∧
 (-1800000000000000≤(grownS c m s).lo∧(grownS c m s).lo≤1800000000000000)∧-1800000000000000≤(grownS c m s).hi∧(grownS c m s).hi≤1800000000000000:=by
 have h1:=rest_in hc hm hs (pathN s) (Nat.le_refl _) c.hold (by have:=hc.2.1;omega)
 have h2:=hc.2.1
 have h3:=hs.1
 have e1:=mul_in (a:=(restS c m s (pathN s) c.hold).lo) (b:=s.water) (x:=1800000000) (y:=1000000) (by omega) (by omega) (by omega) (by omega)
 have e2:=mul_in (a:=(restS c m s (pathN s) c.hold).hi) (b:=s.water) (x:=1800000000) (y:=1000000) (by omega) (by omega) (by omega) (by omega)
 rw[Int.mul_comm (restS c m s (pathN s) c.hold).lo] at e1
 rw[Int.mul_comm (restS c m s (pathN s) c.hold).hi] at e2
 have e3:(-1800000000000000≤s.water*(restS c m s (pathN s) c.hold).lo∧s.water*(restS c m s (pathN s) c.hold).lo≤1800000000000000)∧-1800000000000000≤s.water*(restS c m s (pathN s) c.hold).hi∧s.water*(restS c m s (pathN s) c.hold).hi≤1800000000000000:=⟨by omega,by omega⟩
 exact⟨e3,timesS_in e3⟩
theorem l93 {c:Cav} (hc:CavOk c) {m:Mea} (hm:MeaOk c m) {s:Stg} (hs:StgOk c.slices.len s) (hF:400<F):∀ j k fu,k+1+j=pathN s→1≤k→j<fu →
 L93x1 (E F (d+12)) F c s m fu (fun _=>eStg s) (stepOf s) .i64 (pathAt s k) k k (gl eInt 0 (pathL s k)) (fun _=>eStg s)=some (.ret (.agg (eSpan (grownS c m s)))):=by
 intro j
 have hp:=pathN_le hs
 have hl:=hc.1
 have hH:=hc.2.1
 induction j with
 |zero =>
  intro k fu h hk hf
  obtain⟨fu,rfl⟩:=ex1 (n:=fu) (by omega)
  have hk':k=pathN s - 1:=by omega
  have e1:pathAt s k=s.out:=by rw[hk',pathAt_last]
  have e2:k+1=pathN s:=by omega
  have hg:=grown_in hc hm hs
  obtain⟨ks',_,e9⟩:=s109 F hc hm hs hF (pathN s) 0 (d+10 - pathN s) (by omega) c.hold [] (by omega) (by omega) ⟨List.nodup_nil,by simp⟩
  rw[show d+10 - pathN s+pathN s+2=d+12 by omega] at e9
  have e3:appGet k (gl eInt 0 (pathL s k)) (fun _=>[.int .i64 (pathAt s k)])=fun i=>eInt ((pathSl s).el i):=by
   refine (gl_snoc (m:=pathAt s k) (e:=eInt) (pathL_len s k) rfl).trans ?_
   rw[← pathL_S,e2];rfl
  rw[L93x1s,e3,e2]
  simp (disch:=omega) only[dT,decide_true,pT,List.drop,tkCons_c,tkInt_i,show (pathAt s k != s.out)=false by simp[e1],pF]
  simp only[memH,eInt,encM,List.map,Int.natCast_zero] at e9
  simp only[e9,tkHv_h,tkAgg_a,tkCons_c,tkInt_i,tkNil_n,tkSCons_c,tkBox_b,Nat.beq_refl,Bool.and_self,beq_self_eq_true,pT,samO,samM,samF,ks2,tkRow_r,tkArr_a,tkMp_m,tkSNil_n,decide_true]
  rw[s86 F (d+11) (restS c m s (pathN s) c.hold) s.water (by omega) (by omega)]
  simp only[tkOut_ret,tkAgg_a,tkCons_c,tkInt_i,tkNil_n]
  rfl
 |succ j ih =>
  intro k fu h hk hf
  obtain⟨fu,rfl⟩:=ex1 (n:=fu) (by omega)
  have hne:(pathAt s k != s.out)=true:=by
   have:=pathAt_ne s (k:=k) (by omega)
   simpa using this
  have hS:pathAt s k+stepOf s=pathAt s (k+1):=by rw[← pathAt_S]
  have hin2:=pathAt_in hs (k:=k+1) (by omega)
  rw[L93x1s]
  simp (disch:=omega) only[wr,dT,decide_true,pT,List.drop,tkCons_c,tkInt_i,hne,hS]
  have e3:appGet k (gl eInt 0 (pathL s k)) (fun _=>[.int .i64 (pathAt s k)])=gl eInt 0 (pathL s (k+1)):=by
   refine (gl_snoc (m:=pathAt s k) (e:=eInt) (pathL_len s k) rfl).trans ?_
   rw[← pathL_S]
  rw[e3]
  exact ih (k+1) fu (by omega) (by omega) (by omega)
theorem s93 {c:Cav} (hc:CavOk c) {m:Mea} (hm:MeaOk c m) {s:Stg} (hs:StgOk c.slices.len s) (hF:400<F):(E F (d+13)).pf 65 [.agg (eCav c),.agg (eStg s),.agg (eMea m)]=some (.ret (.agg (eSpan (grownS c m s)))):=by
 have hl:=hc.1
 have hp:=pathN_le hs
 have hne:2≤pathN s:=by
  have:=hs.2.2.2.1
  unfold pathN;split<;>omega
 have hne2:(s.into != s.out)=true:=by have:=hs.2.2.2.1;simpa using this
 obtain⟨F,rfl⟩:=ex1 (n:=F) (by omega)
 have h:=l93 (F+1) d hc hm hs hF (pathN s - 2) 1 F (by omega) (by omega) (by omega)
 have hin2:=pathAt_in hs (k:=1) (by omega)
 have hS:s.into+stepOf s=pathAt s 1:=by rw[← pathAt_0 s,← pathAt_S]
 have h1:(fun _:Nat=>[V.int .i64 s.into])=gl eInt 0 (pathL s 1):=by
  rw[show pathL s 1=[s.into] by simp[pathL,pathAt_0]]
  exact gl_one rfl
 rw[E_pf,t93]
 simp (disch:=omega) only[dT,decide_true,pT,s68,tkOut_ret,tkFn_f,tkNil_n,tkCons_c,tkPtr_p,tkInt_i,Nat.beq_refl,Bool.and_self]
 unfold stepOf at h hS
 by_cases hd:s.out<s.into
 ·rw[if_pos hd] at h hS
  rw[dT hd,pT,L93x0s]
  simp (disch:=omega) only[wr,decide_true,pT,List.drop,tkCons_c,tkInt_i,hne2,hS,h1]
  exact h
 ·rw[if_neg hd] at h hS
  rw[dF hd,pF,L93x0s]
  simp (disch:=omega) only[wr,decide_true,pT,List.drop,tkCons_c,tkInt_i,hne2,hS,h1]
  exact h
def boundS (c:Cav) (l:Nat→Stg) (m:Mea):Nat→Span
 |0=>firstS c m c.slices.len
 |k+1=>addS (boundS c l m k) (grownS c m (l k))
theorem bound_in {c:Cav} (hc:CavOk c) {m:Mea} (hm:MeaOk c m) {n:Nat} {l:Nat→Stg} (hl:∀ i,i<n→StgOk c.slices.len (l i)):∀ k,k≤n→(-(100000000000000000+1800000000000000*(k:Int))≤(boundS c l m k).lo∧(boundS c l m k).lo≤100000000000000000+1800000000000000*(k:Int))∧(-(100000000000000000+1800000000000000*(k:Int))≤(boundS c l m k).hi∧(boundS c l m k).hi≤100000000000000000+1800000000000000*(k:Int)):=by
 intro k
 induction k with
 |zero =>
  intro _
  have h1:=first_in hc hm c.slices.len (Nat.le_refl _)
  have h2:=hc.1
  simp only[boundS]
  omega
 |succ k ih =>
  intro h
  have h1:=ih (by omega)
  have h2:=(grown_in hc hm (hl k (by omega))).2
  simp only[boundS,addS]
  omega
theorem l62 {c:Cav} (hc:CavOk c) {m:Mea} (hm:MeaOk c m) (l:Sl Stg) (hn:l.len≤1000) (hl:∀ i,i<l.len→StgOk c.slices.len (l.el i)) (hF:400<F):∀ j k fu,k+j=l.len→j<fu →
 L62x0 (E F (d+13)) F c l m fu k .i64 (boundS c l.el m k).lo .i64 (boundS c l.el m k).hi=some (.ret (.agg (eSpan (boundS c l.el m l.len)))):=by
 intro j
 induction j with
 |zero =>
  intro k fu h hf
  obtain⟨fu,rfl⟩:=ex1 (n:=fu) (by omega)
  rw[L62x0s]
  have hk:k=l.len:=by omega
  rw[hk]
  simp (disch:=omega) only[dF,decide_false,pF]
 |succ j ih =>
  intro k fu h hf
  obtain⟨fu,rfl⟩:=ex1 (n:=fu) (by omega)
  have h2:=bound_in hc hm hl k (by omega)
  have h3:=bound_in hc hm hl (k+1) (by omega)
  simp only[boundS,addS] at h3
  have e5:=s85 F (d+12) (boundS c l.el m k) (grownS c m (l.el k)) (by omega) (by omega) (by omega) (by omega) (by omega)
  have e6:=s93 F d hc hm (hl k (by omega)) hF
  rw[L62x0s]
  simp (disch:=omega) only[dT,decide_true,pT,tnC,tkOut_ret,tkAgg_a,tkCons_c,tkInt_i,tkNil_n,e5,e6]
  rw[wrS (by omega)]
  exact ih (k+1) fu (by omega) (by omega)
theorem s62 {c:Cav} (hc:CavOk c) {m:Mea} (hm:MeaOk c m) (l:Sl Stg) (hn:l.len≤300) (hl:∀ i,i<l.len→StgOk c.slices.len (l.el i)) (hF:400<F) :
 (E F (d+14)).pf 44 [.agg (eCav c),sl eStg 4 l,.agg (eMea m)]=some (.ret (.agg (eSpan (boundS c l.el m l.len)))):=by
 rw[E_pf,t62]
 simp only[s92 F (d+11) c hc m hm (by omega),tkOut_ret,tkAgg_a,tkCons_c,tkInt_i,tkNil_n]
 exact l62 F d hc hm l (by omega) hl hF l.len 0 F (by omega) (by omega)
end Go.Sim.Le

namespace Go.Sim.Le
open Go.Proofs
theorem upd_int (r:Nat→Int) (n:Nat) (p:Int):updGet (fun j=>eInt (r j)) n 0 (eInt p)=fun j=>eInt (if j=n then p else r j):=by
 funext j
 unfold updGet
 by_cases h:j=n
 ·rw[if_pos h,if_pos h];rfl
 ·rw[if_neg h,if_neg h]
variable (F d:Nat)
end Go.Sim.Le

namespace Go.Sim.Le
open Go.Proofs
variable (F d:Nat)
end Go.Sim.Le

namespace Go.Sim.Le
open Go.Proofs
variable (F d:Nat)
theorem s22 (c:Cav) (l:Sl Stg) (w:Sl Int) (n:Int) (hC:c.slices.len<Big) (hCF:c.slices.len<F) (hB:l.len<Big) (hLF:l.len<F) (hW:w.len<Big) (hWF:w.len<F) (hF:400<F) :
 (E F (d+15)).pf 17 [.agg (eCav c),sl eStg 4 l,sl eInt 1 w,.int .i64 n] =
 some (.ret (.tup (if errP c l (decide (WtOk c w n))=0 then [.agg (eSpan (boundS c l.el ⟨w,n⟩ l.len)),.int .i64 0] else [.agg [.int .i64 0,.int .i64 0],.int .i64 (errP c l (decide (WtOk c w n)))]))):=by
 rw[E_pf,t22]
 simp only[s57e F (d+7) c l hC hCF hB hLF,tkOut_ret,tkInt_i,decide_true,pT]
 by_cases h0:errP c l true=0
 ·have h0':8≥l.len∧CavOk c∧∀ i,i<l.len→StgOk c.slices.len (l.el i):=by
   unfold errP at h0
   split at h0
   ·omega
   ·rename_i h8
    split at h0
    ·rename_i h9;exact⟨by omega,h9.1,h9.2.1⟩
    ·omega
  obtain⟨h8,hc,hl⟩:=h0'
  rw[h0,show ((0:Int) != 0)=false from rfl,pF]
  by_cases hw:w.len=c.slices.len
  ·have e1:((w.len:Int) != (c.slices.len:Int))=false:=by rw[hw];simp
   rw[e1,pF,s58 F (d+12)]
   simp only[tkOut_ret,tkBool_b]
   by_cases hn:-1000≤n∧n≤1000
   ·rw[dT hn,Bool.not_true,pF,s6061 F (d+9) w hW hWF]
    simp only[tkOut_ret,tkBool_b]
    by_cases ha:∀ i,i<w.len→-1000≤w.el i∧w.el i≤1000
    ·have hm:MeaOk c ⟨w,n⟩:=⟨hw,fun i hi=>ha i (by omega),hn.1,hn.2⟩
     have hk:WtOk c w n:=⟨ha,hw,hn⟩
     rw[dT ha,Bool.not_true,pF]
     have e2:=s62 F d hc hm l (by omega) hl hF
     simp only[eMea] at e2
     rw[e2]
     simp only[tkOut_ret,tkAgg_a,tkCons_c,tkInt_i,tkNil_n]
     rw[dT hk,h0,if_pos rfl]
    ·have hk:¬ WtOk c w n:=fun h=>ha h.1
     rw[dF ha,Bool.not_false,pT]
     have e3:errP c l (decide (WtOk c w n))=2:=by rw[dF hk];unfold errP;rw[if_neg (by omega),if_neg (fun h=>by cases h.2.2)]
     rw[e3];rfl
   ·have hk:¬ WtOk c w n:=fun h=>hn h.2.2
    rw[dF hn,Bool.not_false,pT]
    have e3:errP c l (decide (WtOk c w n))=2:=by rw[dF hk];unfold errP;rw[if_neg (by omega),if_neg (fun h=>by cases h.2.2)]
    rw[e3];rfl
  ·have e1:((w.len:Int) != (c.slices.len:Int))=true:=by simp;omega
   have hk:¬ WtOk c w n:=fun h=>hw h.2.1
   rw[e1,pT]
   have e3:errP c l (decide (WtOk c w n))=2:=by rw[dF hk];unfold errP;rw[if_neg (by omega),if_neg (fun h=>by cases h.2.2)]
   rw[e3];rfl
 ·have e1:(errP c l true != 0)=true:=by simpa using h0
  have e3:errP c l (decide (WtOk c w n))=errP c l true:=by
   unfold errP at h0 ⊢
   split
   ·rfl
   ·rename_i h8
    rw[if_neg h8] at h0
    split
    ·rename_i h9
     rw[if_pos ⟨h9.1,h9.2.1,rfl⟩] at h0
     exact (h0 rfl).elim
    ·rename_i h9
     split
     ·rename_i h10
      rw[if_pos h10] at h0
      exact (h0 rfl).elim
     ·rfl
  rw[e1,pT,e3,if_neg h0]
end Go.Sim.Le

namespace Go.Sim.Le
open Go.Proofs
def wv (x y:Int) (u:Nat):Int:=if x=0∧(u:Int)≤y then -1 else if (x=1∧y≤u)∨(x=2∧(u:Int)=y) then 1 else 0
def meaW (x y:Int) (q u:Nat):Int:=if u<q then wv x y u else 0
def meaS (c:Cav) (x y:Int):Mea:=⟨⟨false,c.slices.len,meaW x y c.slices.len⟩,if x=0 then 1 else 0⟩
theorem wv_in (x y:Int) (u:Nat):-1≤wv x y u∧wv x y u≤1:=by
 unfold wv;split
 ·omega
 ·split<;>omega
theorem meaOk (c:Cav) (x y:Int):MeaOk c (meaS c x y):=⟨rfl,fun i hi=>by
 have:=wv_in x y i
 simp only[meaS,meaW]
 rw[if_pos hi];omega,by show -1000≤(if x=0 then (1:Int) else 0);split<;>omega,by show (if x=0 then (1:Int) else 0)≤1000;split<;>omega⟩
variable (F d:Nat)
theorem meaW_upd (x y:Int) (k:Nat):updGet (fun u=>eInt (meaW x y k u)) k 0 [.int .i64 (wv x y k)]=fun u=>eInt (meaW x y (k+1) u):=by
 have e3:=upd_int (meaW x y k) k (wv x y k)
 refine e3.trans ?_
 funext u
 refine congrArg eInt ?_
 unfold meaW
 by_cases h2:u=k
 ·subst h2;rw[if_pos rfl,if_pos (by omega)]
 ·rw[if_neg h2]
  by_cases h3:u<k
  ·rw[if_pos h3,if_pos (by omega)]
  ·rw[if_neg h3,if_neg (by omega)]
theorem meaW_same (x y:Int) (k:Nat) (h:wv x y k=0):(fun u=>eInt (meaW x y k u))=fun u=>eInt (meaW x y (k+1) u):=by
 funext u
 refine congrArg eInt ?_
 unfold meaW
 by_cases h2:u=k
 ·subst h2;rw[if_neg (by omega),if_pos (by omega),h]
 ·by_cases h3:u<k
  ·rw[if_pos h3,if_pos (by omega)]
  ·rw[if_neg h3,if_neg (by omega)]
theorem l113 (c:Cav) (hB:c.slices.len<Big) (x y:Int) (hx:0≤x∧x≤2):∀ j k fu,k+j=c.slices.len→j<fu →
 L113x0 (E F d) F c x y fu k (fun u=>eInt (meaW x y k u))=some (.ret (.agg (eMea (meaS c x y)))):=by
 have hB':c.slices.len<4611686018427387904:=hB
 have hx':x=0∨x=1∨x=2:=by omega
 intro j
 induction j with
 |zero =>
  intro k fu h hf
  obtain⟨fu,rfl⟩:=ex1 (n:=fu) (by omega)
  have hk:k=c.slices.len:=by omega
  subst hk
  rw[L113x0s,tnC]
  rw[dF (by omega),pF]
  rcases hx' with rfl | rfl | rfl<;>rfl
 |succ j ih =>
  intro k fu h hf
  obtain⟨fu,rfl⟩:=ex1 (n:=fu) (by omega)
  have e:=ih (k+1) fu (by omega) (by omega)
  have hS:=wrS (i:=k) (by omega)
  rw[L113x0s,tnC]
  rw[dT (show (k:Int)<c.slices.len by omega),pT,hS]
  rcases hx' with rfl | rfl | rfl
  ·by_cases h1:(k:Int)≤y
   ·have hw:wv 0 y k = -1:=by unfold wv;rw[if_pos ⟨rfl,h1⟩]
    have e2:=meaW_upd 0 y k
    rw[hw] at e2
    rw[← e2] at e
    simp (disch:=omega) only[beq_self_eq_true,pT,dT,decide_true,tnC]
    exact e
   ·have hw:wv 0 y k=0:=by unfold wv;rw[if_neg (fun h=>h1 h.2),if_neg (by omega)]
    rw[← meaW_same 0 y k hw] at e
    simp (disch:=omega) only[beq_self_eq_true,pT,pF,dF,show ((0:Int)==1)=false from rfl,show ((0:Int)==2)=false from rfl]
    exact e
  ·by_cases h1:(k:Int)≥y
   ·have hw:wv 1 y k=1:=by unfold wv;rw[if_neg (by omega),if_pos (.inl ⟨rfl,h1⟩)]
    have e2:=meaW_upd 1 y k
    rw[hw] at e2
    rw[← e2] at e
    simp (disch:=omega) only[beq_self_eq_true,pT,pF,dT,decide_true,tnC,show ((1:Int)==0)=false from rfl]
    exact e
   ·have hw:wv 1 y k=0:=by unfold wv;rw[if_neg (by omega),if_neg (by omega)]
    rw[← meaW_same 1 y k hw] at e
    simp (disch:=omega) only[beq_self_eq_true,pT,pF,dF,show ((1:Int)==0)=false from rfl,show ((1:Int)==2)=false from rfl]
    exact e
  ·by_cases h1:(k:Int)=y
   ·have hw:wv 2 y k=1:=by unfold wv;rw[if_neg (by omega),if_pos (.inr ⟨rfl,h1⟩)]
    have e2:=meaW_upd 2 y k
    rw[hw] at e2
    rw[← e2] at e
    have h2:((k:Int)==y)=true:=by rw[beq_iff_eq];exact h1
    simp (disch:=omega) only[beq_self_eq_true,pT,pF,dT,decide_true,tnC,show ((2:Int)==0)=false from rfl,show ((2:Int)==1)=false from rfl,h2]
    exact e
   ·have hw:wv 2 y k=0:=by unfold wv;rw[if_neg (by omega),if_neg (by omega)]
    rw[← meaW_same 2 y k hw] at e
    have h2:((k:Int)==y)=false:=by rw[beq_eq_false_iff_ne];exact h1
    simp (disch:=omega) only[beq_self_eq_true,pT,pF,show ((2:Int)==0)=false from rfl,show ((2:Int)==1)=false from rfl,h2]
    exact e
theorem s113 (c:Cav) (hl:c.slices.len≤300) (x y:Int) (hx:0≤x∧x≤2) (hF:400<F):(E F (d+1)).pf 84 [.agg (eCav c),.agg [.int .i64 x,.int .i64 y]]=some (.ret (.agg (eMea (meaS c x y)))):=by
 have e:=l113 F d c (show c.slices.len<4611686018427387904 by omega) x y hx c.slices.len 0 F (by omega) (by omega)
 have e0:(fun u=>eInt (meaW x y 0 u))=fun _=>[V.int .i64 0]:=by
  funext u
  simp only[meaW,Nat.not_lt_zero,if_false]
 rw[e0] at e
 rw[E_pf,t113]
 simp (disch:=omega) only[dT,decide_true,pT]
 exact e
abbrev GKey:Type:=Stg × Int × Int
def gK (p:GKey):V:=.agg [.int .i64 p.1.water,.int .i64 p.1.into,.int .i64 p.1.out,.int .i64 p.1.blanket,.int .i64 p.2.1,.int .i64 p.2.2]
def gV (c:Cav) (p:GKey):V:=.agg (eSpan (grownS c (meaS c p.2.1 p.2.2) p.1))
abbrev GOk (L:List Stg) (p:GKey):Prop:=p.1 ∈ L∧(0≤p.2.1∧p.2.1≤2)∧0≤p.2.2∧p.2.2≤10
abbrev Gs (L:List Stg) (ks:List GKey):Prop:=ks.Nodup∧∀ p ∈ ks,GOk L p
theorem gK_eq (p q:GKey):keyEq (gK p) (gK q)=decide (p=q):=by
 obtain⟨⟨a1,a2,a3,a4⟩,a5,a6⟩:=p
 obtain⟨⟨b1,b2,b3,b4⟩,b5,b6⟩:=q
 apply Go.Sim.Le.b2
 simp[gK,keyEq,keysEq,keyEq1,and_assoc]
theorem gs_len {L:List Stg} {ks:List GKey} (h:Gs L ks) (hL:L.length≤1000):ks.length≤33000:=by
 have h1:ks ⊆ L.flatMap fun s=>(List.range 33).map fun j=>(s,((j / 11:Nat):Int),((j % 11:Nat):Int)):=by
  intro p hp
  obtain⟨a1,a2,a3⟩:=h.2 p hp
  simp only[List.mem_flatMap,List.mem_range,List.mem_map]
  refine⟨p.1,a1,p.2.1.toNat*11+p.2.2.toNat,by omega,?_⟩
  obtain⟨s,x,y⟩:=p
  simp only at a2 a3 ⊢
  have e1:(((x.toNat*11+y.toNat) / 11:Nat):Int)=x:=by omega
  have e2:(((x.toNat*11+y.toNat) % 11:Nat):Int)=y:=by omega
  rw[e1,e2]
 have h2:=h.1.length_le_of_subset h1
 have h3:∀ L:List Stg,(L.flatMap fun s=>(List.range 33).map fun j=>(s,((j / 11:Nat):Int),((j % 11:Nat):Int))).length=L.length*33:=by
  intro L
  induction L with
  |nil=>rfl
  |cons a L ih=>rw[List.flatMap_cons,List.length_append,ih,List.length_map,List.length_range,List.length_cons];omega
 rw[h3] at h2
 omega
theorem ks6:ksEq [.int .i64,.int .i64,.int .i64,.int .i64,.int .i64,.int .i64] [.int .i64,.int .i64,.int .i64,.int .i64,.int .i64,.int .i64]=true:=rfl
theorem samM1:sameV 8 (.mapr 1) (.mapr 1)=true:=rfl
theorem samM2:sameV 8 (.mapr 2) (.mapr 2)=true:=rfl
theorem samO1 (N:Nat):sameV 8 (.osl 1 0 N) (.osl 1 0 N)=true:=by simp only[sameV,Nat.beq_refl,Bool.and_self]
theorem tkSame_s {R:Type} (a:Slot) (f k:R):tkSame a a f k=k:=by unfold tkSame;rw[if_pos rfl]
abbrev K6:List KS:=[.int .i64,.int .i64,.int .i64,.int .i64,.int .i64,.int .i64]
abbrev PA (c:Cav) (l:Sl Stg) (p:Int) (es:List (V × V)):List Slot:=[.box 108 [sl eSlc 7 c.slices,.int .i64 c.hold,.int .i64 c.oil,sl eStg 4 l,.int .i64 p,.mapr 1] true,.mp true K6 es true]
abbrev PB (c:Cav) (k:Nat) (h:Nat→Stg) (p:Int) (es:List (V × V)):List Slot:=[.box 108 [sl eSlc 7 c.slices,.int .i64 c.hold,.int .i64 c.oil,.osl 1 0 k,.int .i64 p,.mapr 2] true,.arr 44 4 k (fun i=>eStg (h i)) true,.mp true K6 es true]
end Go.Sim.Le

namespace Go.Sim.Le
open Go.Proofs
variable (F d:Nat)
theorem l1061 {c:Cav} (hc:CavOk c) {L:List Stg} (hL:L.length≤1000) (l:Sl Stg) (p:Int) (es:List (V × V)) (n:Nat) (hn:n≤l.len) (hn2:n≤300) (hl:∀ i,i<n→StgOk c.slices.len (l.el i)∧l.el i ∈ L) (x y:Int) (hx:0≤x∧x≤2) (hy:0≤y∧y≤10) (hF:400<F) :
 ∀ j k fu ks,k+j=n→j<fu→Gs L ks→∃ ks',Gs L ks' ∧
  L1061x0 (E F (d+14)) F c l p es n x y fu k .i64 (boundS c l.el (meaS c x y) k).lo .i64 (boundS c l.el (meaS c x y) k).hi (encM gK (gV c) ks)=some (.ret (.agg (eSpan (boundS c l.el (meaS c x y) n))),PA c l p (encM gK (gV c) ks')):=by
 intro j
 induction j with
 |zero =>
  intro k fu ks h hf hG
  obtain⟨fu,rfl⟩:=ex1 (n:=fu) (by omega)
  refine⟨ks,hG,?_⟩
  have hk:k=n:=by omega
  subst hk
  rw[L1061x0s,tnC,Nat.sub_zero,dF (by omega),pF]
 |succ j ih =>
  intro k fu ks h hf hG
  obtain⟨fu,rfl⟩:=ex1 (n:=fu) (by omega)
  have hlk:=hl k (by omega)
  obtain⟨hs,hsL⟩:=hlk
  have hcl:=hc.1
  have hm:=meaOk c x y
  have h2:=bound_in hc hm (n:=n) (l:=l.el) (fun i hi=>(hl i hi).1) k (by omega)
  have h3:=bound_in hc hm (n:=n) (l:=l.el) (fun i hi=>(hl i hi).1) (k+1) (by omega)
  simp only[boundS,addS] at h3
  have e5:=s85 F (d+13) (boundS c l.el (meaS c x y) k) (grownS c (meaS c x y) (l.el k)) (by omega) (by omega) (by omega) (by omega) (by omega)
  have e6:(E F (d+14)).pf 65 [.agg (eCav c),.agg (eStg (l.el k)),.agg (eMea (meaS c x y))]=_:=s93 F (d+1) hc hm hs hF
  have e7:=s113 F (d+13) c (by omega) x y hx hF
  have hlen:=gs_len hG hL
  have eK:(V.agg [.int .i64 (l.el k).water,.int .i64 (l.el k).into,.int .i64 (l.el k).out,.int .i64 (l.el k).blanket,.int .i64 x,.int .i64 y])=gK (l.el k,x,y):=rfl
  have eV:(V.agg [.int .i64 (grownS c (meaS c x y) (l.el k)).lo,.int .i64 (grownS c (meaS c x y) (l.el k)).hi])=gV c (l.el k,x,y):=rfl
  have hS:=wrS (i:=k) (by omega)
  obtain⟨hw1,hw2,hw3,hw4,hw5⟩:=hs
  simp only[eMea] at e6 e7
  rw[L1061x0s,tnC,Nat.sub_zero]
  simp (disch:=omega) only[p63,dT,decide_true,pT,Bool.and_self,tnC,hS]
  rw[eK,mget_enc gK_eq]
  by_cases hmem:(l.el k,x,y) ∈ ks
  ·rw[if_pos hmem]
   obtain⟨ks',hG',e'⟩:=ih (k+1) fu ks (by omega) (by omega) hG
   refine⟨ks',hG',?_⟩
   simp only[tkOpt,gV,tkAgg_a,tkCons_c,tkInt_i,tkNil_n,e5,tkOut_ret]
   exact e'
  ·rw[if_neg hmem]
   obtain⟨ks1,hG1,e1⟩:=mput_some (ev:=gV c) gK_eq (P:=GOk L) (l.el k,x,y) ⟨hsL,hx,hy⟩ hG
   obtain⟨ks',hG',e'⟩:=ih (k+1) fu ks1 (by omega) (by omega) hG1
   refine⟨ks',hG',?_⟩
   simp only[tkOpt,tkAgg_a,tkCons_c,tkInt_i,tkRow_r,tkNil_n,e7,e6,tkOut_ret,encM_len]
   rw[dT (show ks.length<1000000000000 by omega),pT]
   simp only[e5,tkOut_ret,tkAgg_a,tkCons_c,tkInt_i,tkNil_n]
   rw[eV,e1]
   exact e'
theorem s1061 {c:Cav} (hc:CavOk c) {L:List Stg} (hL:L.length≤1000) (l:Sl Stg) (p:Int) (n:Nat) (hn:n≤l.len) (hn2:n≤300) (hl:∀ i,i<n→StgOk c.slices.len (l.el i)∧l.el i ∈ L) (x y:Int) (hx:0≤x∧x≤2) (hy:0≤y∧y≤10) (hF:400<F) (ks:List GKey) (hG:Gs L ks) :
 ∃ ks',Gs L ks'∧(E F (d+15)).hv 72 [.optr 0 0 0,.int .i64 n,.agg [.int .i64 x,.int .i64 y]] (PA c l p (encM gK (gV c) ks))=some (.ret (.agg (eSpan (boundS c l.el (meaS c x y) n))),PA c l p (encM gK (gV c) ks')):=by
 have hcl:=hc.1
 obtain⟨ks',hG',e⟩:=l1061 F d hc hL l p (encM gK (gV c) ks) n hn hn2 hl x y hx hy hF n 0 F ks (by omega) (by omega) hG
 refine⟨ks',hG',?_⟩
 have e7:=s113 F (d+13) c (by omega) x y hx hF
 have e8:=s92 F (d+12) c hc (meaS c x y) (meaOk c x y) (by omega)
 simp only[eMea] at e7 e8
 rw[E_hv,t1061]
 simp (disch:=omega) only[e7,e8,tkOut_ret,tkAgg_a,tkCons_c,tkInt_i,tkRow_r,tkNil_n,Bool.true_or,pT,dT,decide_true,tnC]
 exact e
theorem l1062 {c:Cav} (hc:CavOk c) {L:List Stg} (hL:L.length≤1000) (k0:Nat) (h0:Nat→Stg) (p:Int) (es:List (V × V)) (n:Nat) (hn:n≤k0) (hn2:n≤300) (hl:∀ i,i<n→StgOk c.slices.len (h0 i)∧h0 i ∈ L) (x y:Int) (hx:0≤x∧x≤2) (hy:0≤y∧y≤10) (hF:400<F) :
 ∀ j k fu ks,k+j=n→j<fu→Gs L ks→∃ ks',Gs L ks' ∧
  L1062x0 (E F (d+14)) F c k0 h0 p es n x y fu k .i64 (boundS c h0 (meaS c x y) k).lo .i64 (boundS c h0 (meaS c x y) k).hi (encM gK (gV c) ks)=some (.ret (.agg (eSpan (boundS c h0 (meaS c x y) n))),PB c k0 h0 p (encM gK (gV c) ks')):=by
 intro j
 induction j with
 |zero =>
  intro k fu ks h hf hG
  obtain⟨fu,rfl⟩:=ex1 (n:=fu) (by omega)
  refine⟨ks,hG,?_⟩
  have hk:k=n:=by omega
  subst hk
  rw[L1062x0s,tnC,dF (by omega),pF]
 |succ j ih =>
  intro k fu ks h hf hG
  obtain⟨fu,rfl⟩:=ex1 (n:=fu) (by omega)
  have hlk:=hl k (by omega)
  obtain⟨hs,hsL⟩:=hlk
  have hcl:=hc.1
  have hm:=meaOk c x y
  have h2:=bound_in hc hm (n:=n) (l:=h0) (fun i hi=>(hl i hi).1) k (by omega)
  have h3:=bound_in hc hm (n:=n) (l:=h0) (fun i hi=>(hl i hi).1) (k+1) (by omega)
  simp only[boundS,addS] at h3
  have e5:=s85 F (d+13) (boundS c h0 (meaS c x y) k) (grownS c (meaS c x y) (h0 k)) (by omega) (by omega) (by omega) (by omega) (by omega)
  have e6:(E F (d+14)).pf 65 [.agg (eCav c),.agg (eStg (h0 k)),.agg (eMea (meaS c x y))]=_:=s93 F (d+1) hc hm hs hF
  have e7:=s113 F (d+13) c (by omega) x y hx hF
  have hlen:=gs_len hG hL
  have eK:(V.agg [.int .i64 (h0 k).water,.int .i64 (h0 k).into,.int .i64 (h0 k).out,.int .i64 (h0 k).blanket,.int .i64 x,.int .i64 y])=gK (h0 k,x,y):=rfl
  have eV:(V.agg [.int .i64 (grownS c (meaS c x y) (h0 k)).lo,.int .i64 (grownS c (meaS c x y) (h0 k)).hi])=gV c (h0 k,x,y):=rfl
  have hS:=wrS (i:=k) (by omega)
  obtain⟨hw1,hw2,hw3,hw4,hw5⟩:=hs
  simp only[eMea] at e6 e7
  rw[L1062x0s,tnC]
  simp (disch:=omega) only[p63,dT,decide_true,pT,Bool.and_self,tnC,hS]
  rw[eK,mget_enc gK_eq]
  by_cases hmem:(h0 k,x,y) ∈ ks
  ·rw[if_pos hmem]
   obtain⟨ks',hG',e'⟩:=ih (k+1) fu ks (by omega) (by omega) hG
   refine⟨ks',hG',?_⟩
   simp only[tkOpt,gV,tkAgg_a,tkCons_c,tkInt_i,tkNil_n,e5,tkOut_ret]
   exact e'
  ·rw[if_neg hmem]
   obtain⟨ks1,hG1,e1⟩:=mput_some (ev:=gV c) gK_eq (P:=GOk L) (h0 k,x,y) ⟨hsL,hx,hy⟩ hG
   obtain⟨ks',hG',e'⟩:=ih (k+1) fu ks1 (by omega) (by omega) hG1
   refine⟨ks',hG',?_⟩
   simp only[tkOpt,tkAgg_a,tkCons_c,tkInt_i,tkRow_r,tkNil_n,e7,e6,tkOut_ret,encM_len]
   rw[dT (show ks.length<1000000000000 by omega),pT]
   simp only[e5,tkOut_ret,tkAgg_a,tkCons_c,tkInt_i,tkNil_n]
   rw[eV,e1]
   exact e'
theorem s1062 {c:Cav} (hc:CavOk c) {L:List Stg} (hL:L.length≤1000) (k0:Nat) (h0:Nat→Stg) (p:Int) (n:Nat) (hn:n≤k0) (hn2:n≤300) (hl:∀ i,i<n→StgOk c.slices.len (h0 i)∧h0 i ∈ L) (x y:Int) (hx:0≤x∧x≤2) (hy:0≤y∧y≤10) (hF:400<F) (ks:List GKey) (hG:Gs L ks) :
 ∃ ks',Gs L ks'∧(E F (d+15)).hv 72 [.optr 0 0 0,.int .i64 n,.agg [.int .i64 x,.int .i64 y]] (PB c k0 h0 p (encM gK (gV c) ks))=some (.ret (.agg (eSpan (boundS c h0 (meaS c x y) n))),PB c k0 h0 p (encM gK (gV c) ks')):=by
 have hcl:=hc.1
 obtain⟨ks',hG',e⟩:=l1062 F d hc hL k0 h0 p (encM gK (gV c) ks) n hn hn2 hl x y hx hy hF n 0 F ks (by omega) (by omega) hG
 refine⟨ks',hG',?_⟩
 have e7:=s113 F (d+13) c (by omega) x y hx hF
 have e8:=s92 F (d+12) c hc (meaS c x y) (meaOk c x y) (by omega)
 simp only[eMea] at e7 e8
 rw[E_hv,t1062]
 simp (disch:=omega) only[e7,e8,tkOut_ret,tkAgg_a,tkCons_c,tkInt_i,tkRow_r,tkNil_n,Bool.true_or,pT,dT,decide_true,tnC]
 exact e
end Go.Sim.Le

namespace Go.Sim.Le
open Go.Proofs
def topOf (s:Stg):Int:=max s.into s.out
def lowOf (s:Stg):Int:=min s.into s.out
def buriedB (c:Cav) (l:Nat→Stg) (k:Nat):Bool:=decide (max (boundS c l (meaS c 0 (min (l k).into (l k).out)) k).hi (boundS c l (meaS c 0 (min (l k).into (l k).out)) (k+1)).hi>0)
def oiledB (c:Cav) (l:Nat→Stg) (k:Nat):Bool:=decide ((boundS c l (meaS c 1 (l k).blanket) k).hi>c.oil)
def wideR (c:Cav) (l:Nat→Stg) (k:Nat):Nat→Nat→Int × Bool
 |0,_=>(0,false)
 |j+1,i=>bif decide ((boundS c l (meaS c 2 (i:Int)) (k+1)).hi>(c.slices.el i).most) then ((i:Int),true) else wideR c l k j (i+1)
def faultR (c:Cav) (l:Nat→Stg):Nat→Nat→Int × Int × Int
 |0,_=>(-1,1,0)
 |j+1,k=>bif decide (topOf (l k)≥(l k).blanket) then ((k:Int),2,topOf (l k)) else bif buriedB c l k then ((k:Int),3,lowOf (l k)) else
  bif oiledB c l k then ((k:Int),4,(l k).blanket) else bif (wideR c l k c.slices.len 0).2 then ((k:Int),5,(wideR c l k c.slices.len 0).1) else faultR c l j (k+1)
variable (F d:Nat)
theorem s1011 (c:Cav) (l:Sl Stg) (k:Nat) (hk:k<l.len) (es:List (V × V)):(E F (d+1)).hv 67 [.optr 0 0 0] (PA c l k es)=some (.ret (.tup [.int .i64 (topOf (l.el k)),.bool (decide (topOf (l.el k)≥(l.el k).blanket))]),(PA c l k es)):=by
 rw[E_hv,t1011]
 simp (disch:=omega) only[dT,decide_true,pT,tnC,mxE,topOf]
 rfl
theorem s1021 {c:Cav} (hc:CavOk c) {L:List Stg} (hL:L.length≤1000) (l:Sl Stg) (k:Nat) (hk:k<l.len) (hn2:l.len≤300) (hl:∀ i,i<l.len→StgOk c.slices.len (l.el i)∧l.el i ∈ L) (hF:400<F) (ks:List GKey) (hG:Gs L ks):∃ ks',Gs L ks' ∧
 (E F (d+16)).hv 68 [.optr 0 0 0] (PA c l k (encM gK (gV c) ks))=some (.ret (.tup [.int .i64 (lowOf (l.el k)),.bool (buriedB c l.el k)]),(PA c l k (encM gK (gV c) ks'))):=by
 have hs:=(hl k hk).1
 have hcl:=hc.1
 obtain⟨hw1,hw2,hw3,hw4,hw5⟩:=hs
 obtain⟨ks1,hG1,e1⟩:=s1061 F d hc hL l k k (by omega) (by omega) (fun i hi=>hl i (by omega)) 0 (min (l.el k).into (l.el k).out) (by omega) (by omega) hF ks hG
 obtain⟨ks2,hG2,e2⟩:=s1061 F d hc hL l k (k+1) (by omega) (by omega) (fun i hi=>hl i (by omega)) 0 (min (l.el k).into (l.el k).out) (by omega) (by omega) hF ks1 hG1
 refine⟨ks2,hG2,?_⟩
 have hS:=wrS (i:=k) (by omega)
 rw[E_hv,t1021]
 simp (disch:=omega) only[dT,decide_true,pT,tnC,mnE,hS]
 simp only[e1,tkHv_h,tkAgg_a,tkTup_t,tkCons_c,tkInt_i,tkBool_b,tkNil_n,tkSCons_c,tkBox_b,Nat.beq_refl,Bool.and_self,beq_self_eq_true,pT,samM1,ks6,tkRow_r,tkMp_m,tkSNil_n,tkSame_s,decide_true]
 simp only[e2,tkHv_h,tkAgg_a,tkTup_t,tkCons_c,tkInt_i,tkBool_b,tkNil_n,tkSCons_c,tkBox_b,Nat.beq_refl,Bool.and_self,beq_self_eq_true,pT,samM1,ks6,tkRow_r,tkMp_m,tkSNil_n,tkSame_s,decide_true]
 simp only[mxE,lowOf,buriedB]
theorem s1031 {c:Cav} (hc:CavOk c) {L:List Stg} (hL:L.length≤1000) (l:Sl Stg) (k:Nat) (hk:k<l.len) (hn2:l.len≤300) (hl:∀ i,i<l.len→StgOk c.slices.len (l.el i)∧l.el i ∈ L) (hF:400<F) (ks:List GKey) (hG:Gs L ks):∃ ks',Gs L ks' ∧
 (E F (d+16)).hv 69 [.optr 0 0 0] (PA c l k (encM gK (gV c) ks))=some (.ret (.tup [.int .i64 (l.el k).blanket,.bool (oiledB c l.el k)]),(PA c l k (encM gK (gV c) ks'))):=by
 have hs:=(hl k hk).1
 have hcl:=hc.1
 obtain⟨hw1,hw2,hw3,hw4,hw5⟩:=hs
 obtain⟨ks1,hG1,e1⟩:=s1061 F d hc hL l k k (by omega) (by omega) (fun i hi=>hl i (by omega)) 1 (l.el k).blanket (by omega) (by omega) hF ks hG
 refine⟨ks1,hG1,?_⟩
 rw[E_hv,t1031]
 simp (disch:=omega) only[dT,decide_true,pT,tnC]
 simp only[e1,tkHv_h,tkAgg_a,tkTup_t,tkCons_c,tkInt_i,tkBool_b,tkNil_n,tkSCons_c,tkBox_b,Nat.beq_refl,Bool.and_self,beq_self_eq_true,pT,samM1,ks6,tkRow_r,tkMp_m,tkSNil_n,tkSame_s,decide_true]
 rfl
theorem l1041 {c:Cav} (hc:CavOk c) {L:List Stg} (hL:L.length≤1000) (l:Sl Stg) (k:Nat) (hk:k<l.len) (hn2:l.len≤300) (hl:∀ i,i<l.len→StgOk c.slices.len (l.el i)∧l.el i ∈ L) (hF:400<F) (es:List (V × V)):∀ j i fu ks,i+j=c.slices.len→j<fu→Gs L ks→∃ ks',Gs L ks' ∧
 L1041x0 (E F (d+15)) F c l k es fu i (encM gK (gV c) ks)=some (.ret (.tup [.int .i64 (wideR c l.el k j i).1,.bool (wideR c l.el k j i).2]),(PA c l k (encM gK (gV c) ks'))):=by
 have hcl:=hc.1
 intro j
 induction j with
 |zero =>
  intro i fu ks h hf hG
  obtain⟨fu,rfl⟩:=ex1 (n:=fu) (by omega)
  refine⟨ks,hG,?_⟩
  rw[L1041x0s,dF (by omega),pF]
  rfl
 |succ j ih =>
  intro i fu ks h hf hG
  obtain⟨fu,rfl⟩:=ex1 (n:=fu) (by omega)
  obtain⟨ks1,hG1,e1⟩:=s1061 F d hc hL l k (k+1) (by omega) (by omega) (fun i hi=>hl i (by omega)) 2 i (by omega) (by omega) hF ks hG
  obtain⟨ks2,hG2,e2⟩:=ih (i+1) fu ks1 (by omega) (by omega) hG1
  have hS:=wrS (i:=k) (by omega)
  have hS2:=wrS (i:=i) (by omega)
  by_cases hw:(boundS c l.el (meaS c 2 i) (k+1)).hi>(c.slices.el i).most
  ·refine⟨ks1,hG1,?_⟩
   rw[L1041x0s]
   simp (disch:=omega) only[dT,decide_true,pT,tnC,hS,hS2]
   simp only[e1,tkHv_h,tkAgg_a,tkTup_t,tkCons_c,tkInt_i,tkBool_b,tkNil_n,tkSCons_c,tkBox_b,Nat.beq_refl,Bool.and_self,beq_self_eq_true,pT,samM1,ks6,tkRow_r,tkMp_m,tkSNil_n,tkSame_s,decide_true]
   rw[dT hw,pT]
   simp only[wideR,dT hw,cond_true]
  ·refine⟨ks2,hG2,?_⟩
   rw[L1041x0s]
   simp (disch:=omega) only[dT,decide_true,pT,tnC,hS,hS2]
   simp only[e1,tkHv_h,tkAgg_a,tkTup_t,tkCons_c,tkInt_i,tkBool_b,tkNil_n,tkSCons_c,tkBox_b,Nat.beq_refl,Bool.and_self,beq_self_eq_true,pT,samM1,ks6,tkRow_r,tkMp_m,tkSNil_n,tkSame_s,decide_true]
   rw[dF hw,pF]
   simp only[wideR,dF hw,cond_false]
   exact e2
theorem s1041 {c:Cav} (hc:CavOk c) {L:List Stg} (hL:L.length≤1000) (l:Sl Stg) (k:Nat) (hk:k<l.len) (hn2:l.len≤300) (hl:∀ i,i<l.len→StgOk c.slices.len (l.el i)∧l.el i ∈ L) (hF:400<F) (ks:List GKey) (hG:Gs L ks):∃ ks',Gs L ks' ∧
 (E F (d+16)).hv 70 [.optr 0 0 0] (PA c l k (encM gK (gV c) ks))=some (.ret (.tup [.int .i64 (wideR c l.el k c.slices.len 0).1,.bool (wideR c l.el k c.slices.len 0).2]),(PA c l k (encM gK (gV c) ks'))):=by
 have hcl:=hc.1
 obtain⟨ks',hG',e⟩:=l1041 F d hc hL l k hk hn2 hl hF (encM gK (gV c) ks) c.slices.len 0 F ks (by omega) (by omega) hG
 refine⟨ks',hG',?_⟩
 rw[E_hv,t1041]
 exact e
theorem l731 {c:Cav} (hc:CavOk c) {L:List Stg} (hL:L.length≤1000) (l:Sl Stg) (hn2:l.len≤300) (hl:∀ i,i<l.len→StgOk c.slices.len (l.el i)∧l.el i ∈ L) (hF:400<F) (p:Int) (n:Int) (es:List (V × V)):∀ j k fu ks,k+j=l.len→j<fu→Gs L ks→∃ (p':Int) (ks':List GKey),Gs L ks' ∧
 L731x0 (E F (d+16)) F c l p es n fu k (encM gK (gV c) ks)=some (.ret (.tup [.int .i64 (faultR c l.el j k).1,.int .i64 (faultR c l.el j k).2.1,.int .i64 (faultR c l.el j k).2.2]),(PA c l p' (encM gK (gV c) ks'))):=by
 intro j
 induction j with
 |zero =>
  intro k fu ks h hf hG
  obtain⟨fu,rfl⟩:=ex1 (n:=fu) (by omega)
  refine⟨k,ks,hG,?_⟩
  rw[L731x0s,dF (by omega),pF]
  rfl
 |succ j ih =>
  intro k fu ks h hf hG
  obtain⟨fu,rfl⟩:=ex1 (n:=fu) (by omega)
  have e1:=s1011 F (d+15) c l k (by omega) (encM gK (gV c) ks)
  obtain⟨ks2,hG2,e2⟩:=s1021 F d hc hL l k (by omega) hn2 hl hF ks hG
  obtain⟨ks3,hG3,e3⟩:=s1031 F d hc hL l k (by omega) hn2 hl hF ks2 hG2
  obtain⟨ks4,hG4,e4⟩:=s1041 F d hc hL l k (by omega) hn2 hl hF ks3 hG3
  obtain⟨p',ks5,hG5,e5⟩:=ih (k+1) fu ks4 (by omega) (by omega) hG4
  have hS:=wrS (i:=k) (by omega)
  have w0:IntKind.i64.wrap (2+0)=2:=by rw[wr (by omega)];rfl
  have w1:IntKind.i64.wrap (0+1)=1:=by rw[wr (by omega)];rfl
  have w2:IntKind.i64.wrap (2+1)=3:=by rw[wr (by omega)];rfl
  have w3:IntKind.i64.wrap (1+1)=2:=by rw[wr (by omega)];rfl
  have w4:IntKind.i64.wrap (2+2)=4:=by rw[wr (by omega)];rfl
  have w5:IntKind.i64.wrap (2+3)=5:=by rw[wr (by omega)];rfl
  have hlt:decide ((k:Int)<(l.len:Nat))=true:=dT (by omega)
  by_cases h1:topOf (l.el k)≥(l.el k).blanket
  ·refine⟨k,ks,hG,?_⟩
   rw[L731x0s,hlt,pT]
   simp only[e1,tkHv_h,tkAgg_a,tkTup_t,tkCons_c,tkInt_i,tkBool_b,tkNil_n,tkSCons_c,tkBox_b,Nat.beq_refl,Bool.and_self,beq_self_eq_true,pT,samM1,ks6,tkRow_r,tkMp_m,tkSNil_n,tkSame_s,decide_true]
   rw[dT h1,pT,w0]
   simp only[faultR,dT h1,cond_true]
  ·cases h2:buriedB c l.el k with
   |true =>
    refine⟨k,ks2,hG2,?_⟩
    rw[L731x0s,hlt,pT]
    simp only[e1,tkHv_h,tkAgg_a,tkTup_t,tkCons_c,tkInt_i,tkBool_b,tkNil_n,tkSCons_c,tkBox_b,Nat.beq_refl,Bool.and_self,beq_self_eq_true,pT,samM1,ks6,tkRow_r,tkMp_m,tkSNil_n,tkSame_s,decide_true]
    rw[dF h1,pF]
    simp only[e2,tkHv_h,tkAgg_a,tkTup_t,tkCons_c,tkInt_i,tkBool_b,tkNil_n,tkSCons_c,tkBox_b,Nat.beq_refl,Bool.and_self,beq_self_eq_true,pT,samM1,ks6,tkRow_r,tkMp_m,tkSNil_n,tkSame_s,decide_true]
    rw[h2,pT,w1,w2]
    simp only[faultR,dF h1,cond_false,h2,cond_true]
   |false =>
    cases h3:oiledB c l.el k with
    |true =>
     refine⟨k,ks3,hG3,?_⟩
     rw[L731x0s,hlt,pT]
     simp only[e1,tkHv_h,tkAgg_a,tkTup_t,tkCons_c,tkInt_i,tkBool_b,tkNil_n,tkSCons_c,tkBox_b,Nat.beq_refl,Bool.and_self,beq_self_eq_true,pT,samM1,ks6,tkRow_r,tkMp_m,tkSNil_n,tkSame_s,decide_true]
     rw[dF h1,pF]
     simp only[e2,tkHv_h,tkAgg_a,tkTup_t,tkCons_c,tkInt_i,tkBool_b,tkNil_n,tkSCons_c,tkBox_b,Nat.beq_refl,Bool.and_self,beq_self_eq_true,pT,samM1,ks6,tkRow_r,tkMp_m,tkSNil_n,tkSame_s,decide_true]
     rw[h2,pF]
     simp only[e3,tkHv_h,tkAgg_a,tkTup_t,tkCons_c,tkInt_i,tkBool_b,tkNil_n,tkSCons_c,tkBox_b,Nat.beq_refl,Bool.and_self,beq_self_eq_true,pT,samM1,ks6,tkRow_r,tkMp_m,tkSNil_n,tkSame_s,decide_true]
     rw[h3,pT,w1,w3,w4]
     simp only[faultR,dF h1,cond_false,h2,h3,cond_true]
    |false =>
     cases h4:(wideR c l.el k c.slices.len 0).2 with
     |true =>
      refine⟨k,ks4,hG4,?_⟩
      rw[L731x0s,hlt,pT]
      simp only[e1,tkHv_h,tkAgg_a,tkTup_t,tkCons_c,tkInt_i,tkBool_b,tkNil_n,tkSCons_c,tkBox_b,Nat.beq_refl,Bool.and_self,beq_self_eq_true,pT,samM1,ks6,tkRow_r,tkMp_m,tkSNil_n,tkSame_s,decide_true]
      rw[dF h1,pF]
      simp only[e2,tkHv_h,tkAgg_a,tkTup_t,tkCons_c,tkInt_i,tkBool_b,tkNil_n,tkSCons_c,tkBox_b,Nat.beq_refl,Bool.and_self,beq_self_eq_true,pT,samM1,ks6,tkRow_r,tkMp_m,tkSNil_n,tkSame_s,decide_true]
      rw[h2,pF]
      simp only[e3,tkHv_h,tkAgg_a,tkTup_t,tkCons_c,tkInt_i,tkBool_b,tkNil_n,tkSCons_c,tkBox_b,Nat.beq_refl,Bool.and_self,beq_self_eq_true,pT,samM1,ks6,tkRow_r,tkMp_m,tkSNil_n,tkSame_s,decide_true]
      rw[h3,pF]
      simp only[e4,tkHv_h,tkAgg_a,tkTup_t,tkCons_c,tkInt_i,tkBool_b,tkNil_n,tkSCons_c,tkBox_b,Nat.beq_refl,Bool.and_self,beq_self_eq_true,pT,samM1,ks6,tkRow_r,tkMp_m,tkSNil_n,tkSame_s,decide_true]
      rw[h4,pT,w1,w3,wr (n:=2+1) (by omega)]
      rw[show (2:Int)+1=3 from rfl,w5]
      simp only[faultR,dF h1,cond_false,h2,h3,h4,cond_true]
     |false =>
      refine⟨p',ks5,hG5,?_⟩
      rw[L731x0s,hlt,pT]
      simp only[e1,tkHv_h,tkAgg_a,tkTup_t,tkCons_c,tkInt_i,tkBool_b,tkNil_n,tkSCons_c,tkBox_b,Nat.beq_refl,Bool.and_self,beq_self_eq_true,pT,samM1,ks6,tkRow_r,tkMp_m,tkSNil_n,tkSame_s,decide_true]
      rw[dF h1,pF]
      simp only[e2,tkHv_h,tkAgg_a,tkTup_t,tkCons_c,tkInt_i,tkBool_b,tkNil_n,tkSCons_c,tkBox_b,Nat.beq_refl,Bool.and_self,beq_self_eq_true,pT,samM1,ks6,tkRow_r,tkMp_m,tkSNil_n,tkSame_s,decide_true]
      rw[h2,pF]
      simp only[e3,tkHv_h,tkAgg_a,tkTup_t,tkCons_c,tkInt_i,tkBool_b,tkNil_n,tkSCons_c,tkBox_b,Nat.beq_refl,Bool.and_self,beq_self_eq_true,pT,samM1,ks6,tkRow_r,tkMp_m,tkSNil_n,tkSame_s,decide_true]
      rw[h3,pF]
      simp only[e4,tkHv_h,tkAgg_a,tkTup_t,tkCons_c,tkInt_i,tkBool_b,tkNil_n,tkSCons_c,tkBox_b,Nat.beq_refl,Bool.and_self,beq_self_eq_true,pT,samM1,ks6,tkRow_r,tkMp_m,tkSNil_n,tkSame_s,decide_true]
      rw[h4,pF,hS]
      simp only[faultR,dF h1,cond_false,h2,h3,h4]
      exact e5
theorem s731 {c:Cav} (hc:CavOk c) {L:List Stg} (hL:L.length≤1000) (l:Sl Stg) (hn2:l.len≤300) (hl:∀ i,i<l.len→StgOk c.slices.len (l.el i)∧l.el i ∈ L) (hF:400<F) (p:Int) (n:Nat) (hn:n≤l.len) (ks:List GKey) (hG:Gs L ks):∃ (p':Int) (ks':List GKey),Gs L ks' ∧
 (E F (d+17)).hv 47 [.optr 0 0 0,.int .i64 n] (PA c l p (encM gK (gV c) ks))=some (.ret (.tup [.int .i64 (faultR c l.el (l.len - n) n).1,.int .i64 (faultR c l.el (l.len - n) n).2.1,.int .i64 (faultR c l.el (l.len - n) n).2.2]),(PA c l p' (encM gK (gV c) ks'))):=by
 obtain⟨p',ks',hG',e⟩:=l731 F d hc hL l hn2 hl hF p n (encM gK (gV c) ks) (l.len - n) n F ks (by omega) (by omega) hG
 refine⟨p',ks',hG',?_⟩
 rw[E_hv,t731]
 exact e
theorem s1012 (c:Cav) (k0:Nat) (h0:Nat→Stg) (k:Nat) (hk:k<k0) (es:List (V × V)):(E F (d+1)).hv 67 [.optr 0 0 0] (PB c k0 h0 k es)=some (.ret (.tup [.int .i64 (topOf (h0 k)),.bool (decide (topOf (h0 k)≥(h0 k).blanket))]),(PB c k0 h0 k es)):=by
 rw[E_hv,t1012]
 simp (disch:=omega) only[dT,decide_true,pT,tnC,mxE,topOf]
 rfl
theorem s1022 {c:Cav} (hc:CavOk c) {L:List Stg} (hL:L.length≤1000) (k0:Nat) (h0:Nat→Stg) (k:Nat) (hk:k<k0) (hn2:k0≤300) (hl:∀ i,i<k0→StgOk c.slices.len (h0 i)∧h0 i ∈ L) (hF:400<F) (ks:List GKey) (hG:Gs L ks):∃ ks',Gs L ks' ∧
 (E F (d+16)).hv 68 [.optr 0 0 0] (PB c k0 h0 k (encM gK (gV c) ks))=some (.ret (.tup [.int .i64 (lowOf (h0 k)),.bool (buriedB c h0 k)]),(PB c k0 h0 k (encM gK (gV c) ks'))):=by
 have hs:=(hl k hk).1
 have hcl:=hc.1
 obtain⟨hw1,hw2,hw3,hw4,hw5⟩:=hs
 obtain⟨ks1,hG1,e1⟩:=s1062 F d hc hL k0 h0 k k (by omega) (by omega) (fun i hi=>hl i (by omega)) 0 (min (h0 k).into (h0 k).out) (by omega) (by omega) hF ks hG
 obtain⟨ks2,hG2,e2⟩:=s1062 F d hc hL k0 h0 k (k+1) (by omega) (by omega) (fun i hi=>hl i (by omega)) 0 (min (h0 k).into (h0 k).out) (by omega) (by omega) hF ks1 hG1
 refine⟨ks2,hG2,?_⟩
 have hS:=wrS (i:=k) (by omega)
 rw[E_hv,t1022]
 simp (disch:=omega) only[dT,decide_true,pT,tnC,mnE,hS]
 simp only[e1,tkHv_h,tkAgg_a,tkTup_t,tkCons_c,tkInt_i,tkBool_b,tkNil_n,tkSCons_c,tkBox_b,Nat.beq_refl,Bool.and_self,beq_self_eq_true,pT,samM2,samO1,tkArr_a,ks6,tkRow_r,tkMp_m,tkSNil_n,tkSame_s,decide_true]
 simp only[e2,tkHv_h,tkAgg_a,tkTup_t,tkCons_c,tkInt_i,tkBool_b,tkNil_n,tkSCons_c,tkBox_b,Nat.beq_refl,Bool.and_self,beq_self_eq_true,pT,samM2,samO1,tkArr_a,ks6,tkRow_r,tkMp_m,tkSNil_n,tkSame_s,decide_true]
 simp only[mxE,lowOf,buriedB]
theorem s1032 {c:Cav} (hc:CavOk c) {L:List Stg} (hL:L.length≤1000) (k0:Nat) (h0:Nat→Stg) (k:Nat) (hk:k<k0) (hn2:k0≤300) (hl:∀ i,i<k0→StgOk c.slices.len (h0 i)∧h0 i ∈ L) (hF:400<F) (ks:List GKey) (hG:Gs L ks):∃ ks',Gs L ks' ∧
 (E F (d+16)).hv 69 [.optr 0 0 0] (PB c k0 h0 k (encM gK (gV c) ks))=some (.ret (.tup [.int .i64 (h0 k).blanket,.bool (oiledB c h0 k)]),(PB c k0 h0 k (encM gK (gV c) ks'))):=by
 have hs:=(hl k hk).1
 have hcl:=hc.1
 obtain⟨hw1,hw2,hw3,hw4,hw5⟩:=hs
 obtain⟨ks1,hG1,e1⟩:=s1062 F d hc hL k0 h0 k k (by omega) (by omega) (fun i hi=>hl i (by omega)) 1 (h0 k).blanket (by omega) (by omega) hF ks hG
 refine⟨ks1,hG1,?_⟩
 rw[E_hv,t1032]
 simp (disch:=omega) only[dT,decide_true,pT,tnC]
 simp only[e1,tkHv_h,tkAgg_a,tkTup_t,tkCons_c,tkInt_i,tkBool_b,tkNil_n,tkSCons_c,tkBox_b,Nat.beq_refl,Bool.and_self,beq_self_eq_true,pT,samM2,samO1,tkArr_a,ks6,tkRow_r,tkMp_m,tkSNil_n,tkSame_s,decide_true]
 rfl
theorem l1042 {c:Cav} (hc:CavOk c) {L:List Stg} (hL:L.length≤1000) (k0:Nat) (h0:Nat→Stg) (k:Nat) (hk:k<k0) (hn2:k0≤300) (hl:∀ i,i<k0→StgOk c.slices.len (h0 i)∧h0 i ∈ L) (hF:400<F) (es:List (V × V)):∀ j i fu ks,i+j=c.slices.len→j<fu→Gs L ks→∃ ks',Gs L ks' ∧
 L1042x0 (E F (d+15)) F c k0 h0 k es fu i (fun i=>eStg (h0 i)) (encM gK (gV c) ks)=some (.ret (.tup [.int .i64 (wideR c h0 k j i).1,.bool (wideR c h0 k j i).2]),(PB c k0 h0 k (encM gK (gV c) ks'))):=by
 have hcl:=hc.1
 intro j
 induction j with
 |zero =>
  intro i fu ks h hf hG
  obtain⟨fu,rfl⟩:=ex1 (n:=fu) (by omega)
  refine⟨ks,hG,?_⟩
  rw[L1042x0s,dF (by omega),pF]
  rfl
 |succ j ih =>
  intro i fu ks h hf hG
  obtain⟨fu,rfl⟩:=ex1 (n:=fu) (by omega)
  obtain⟨ks1,hG1,e1⟩:=s1062 F d hc hL k0 h0 k (k+1) (by omega) (by omega) (fun i hi=>hl i (by omega)) 2 i (by omega) (by omega) hF ks hG
  obtain⟨ks2,hG2,e2⟩:=ih (i+1) fu ks1 (by omega) (by omega) hG1
  have hS:=wrS (i:=k) (by omega)
  have hS2:=wrS (i:=i) (by omega)
  by_cases hw:(boundS c h0 (meaS c 2 i) (k+1)).hi>(c.slices.el i).most
  ·refine⟨ks1,hG1,?_⟩
   rw[L1042x0s]
   simp (disch:=omega) only[dT,decide_true,pT,tnC,hS,hS2]
   simp only[e1,tkHv_h,tkAgg_a,tkTup_t,tkCons_c,tkInt_i,tkBool_b,tkNil_n,tkSCons_c,tkBox_b,Nat.beq_refl,Bool.and_self,beq_self_eq_true,pT,samM2,samO1,tkArr_a,ks6,tkRow_r,tkMp_m,tkSNil_n,tkSame_s,decide_true]
   rw[dT hw,pT]
   simp only[wideR,dT hw,cond_true]
  ·refine⟨ks2,hG2,?_⟩
   rw[L1042x0s]
   simp (disch:=omega) only[dT,decide_true,pT,tnC,hS,hS2]
   simp only[e1,tkHv_h,tkAgg_a,tkTup_t,tkCons_c,tkInt_i,tkBool_b,tkNil_n,tkSCons_c,tkBox_b,Nat.beq_refl,Bool.and_self,beq_self_eq_true,pT,samM2,samO1,tkArr_a,ks6,tkRow_r,tkMp_m,tkSNil_n,tkSame_s,decide_true]
   rw[dF hw,pF]
   simp only[wideR,dF hw,cond_false]
   exact e2
theorem s1042 {c:Cav} (hc:CavOk c) {L:List Stg} (hL:L.length≤1000) (k0:Nat) (h0:Nat→Stg) (k:Nat) (hk:k<k0) (hn2:k0≤300) (hl:∀ i,i<k0→StgOk c.slices.len (h0 i)∧h0 i ∈ L) (hF:400<F) (ks:List GKey) (hG:Gs L ks):∃ ks',Gs L ks' ∧
 (E F (d+16)).hv 70 [.optr 0 0 0] (PB c k0 h0 k (encM gK (gV c) ks))=some (.ret (.tup [.int .i64 (wideR c h0 k c.slices.len 0).1,.bool (wideR c h0 k c.slices.len 0).2]),(PB c k0 h0 k (encM gK (gV c) ks'))):=by
 have hcl:=hc.1
 obtain⟨ks',hG',e⟩:=l1042 F d hc hL k0 h0 k hk hn2 hl hF (encM gK (gV c) ks) c.slices.len 0 F ks (by omega) (by omega) hG
 refine⟨ks',hG',?_⟩
 rw[E_hv,t1042]
 exact e
theorem l732 {c:Cav} (hc:CavOk c) {L:List Stg} (hL:L.length≤1000) (k0:Nat) (h0:Nat→Stg) (hn2:k0≤300) (hl:∀ i,i<k0→StgOk c.slices.len (h0 i)∧h0 i ∈ L) (hF:400<F) (p:Int) (n:Int) (es:List (V × V)):∀ j k fu ks,k+j=k0→j<fu→Gs L ks→∃ (p':Int) (ks':List GKey),Gs L ks' ∧
 L732x0 (E F (d+16)) F c k0 h0 p es n fu k (fun i=>eStg (h0 i)) (encM gK (gV c) ks)=some (.ret (.tup [.int .i64 (faultR c h0 j k).1,.int .i64 (faultR c h0 j k).2.1,.int .i64 (faultR c h0 j k).2.2]),(PB c k0 h0 p' (encM gK (gV c) ks'))):=by
 intro j
 induction j with
 |zero =>
  intro k fu ks h hf hG
  obtain⟨fu,rfl⟩:=ex1 (n:=fu) (by omega)
  refine⟨k,ks,hG,?_⟩
  rw[L732x0s,dF (by omega),pF]
  rfl
 |succ j ih =>
  intro k fu ks h hf hG
  obtain⟨fu,rfl⟩:=ex1 (n:=fu) (by omega)
  have e1:=s1012 F (d+15) c k0 h0 k (by omega) (encM gK (gV c) ks)
  obtain⟨ks2,hG2,e2⟩:=s1022 F d hc hL k0 h0 k (by omega) hn2 hl hF ks hG
  obtain⟨ks3,hG3,e3⟩:=s1032 F d hc hL k0 h0 k (by omega) hn2 hl hF ks2 hG2
  obtain⟨ks4,hG4,e4⟩:=s1042 F d hc hL k0 h0 k (by omega) hn2 hl hF ks3 hG3
  obtain⟨p',ks5,hG5,e5⟩:=ih (k+1) fu ks4 (by omega) (by omega) hG4
  have hS:=wrS (i:=k) (by omega)
  have w0:IntKind.i64.wrap (2+0)=2:=by rw[wr (by omega)];rfl
  have w1:IntKind.i64.wrap (0+1)=1:=by rw[wr (by omega)];rfl
  have w2:IntKind.i64.wrap (2+1)=3:=by rw[wr (by omega)];rfl
  have w3:IntKind.i64.wrap (1+1)=2:=by rw[wr (by omega)];rfl
  have w4:IntKind.i64.wrap (2+2)=4:=by rw[wr (by omega)];rfl
  have w5:IntKind.i64.wrap (2+3)=5:=by rw[wr (by omega)];rfl
  have hlt:decide ((k:Int)<(k0:Nat))=true:=dT (by omega)
  by_cases h1:topOf (h0 k)≥(h0 k).blanket
  ·refine⟨k,ks,hG,?_⟩
   rw[L732x0s,hlt,pT]
   simp only[e1,tkHv_h,tkAgg_a,tkTup_t,tkCons_c,tkInt_i,tkBool_b,tkNil_n,tkSCons_c,tkBox_b,Nat.beq_refl,Bool.and_self,beq_self_eq_true,pT,samM2,samO1,tkArr_a,ks6,tkRow_r,tkMp_m,tkSNil_n,tkSame_s,decide_true]
   rw[dT h1,pT,w0]
   simp only[faultR,dT h1,cond_true]
  ·cases h2:buriedB c h0 k with
   |true =>
    refine⟨k,ks2,hG2,?_⟩
    rw[L732x0s,hlt,pT]
    simp only[e1,tkHv_h,tkAgg_a,tkTup_t,tkCons_c,tkInt_i,tkBool_b,tkNil_n,tkSCons_c,tkBox_b,Nat.beq_refl,Bool.and_self,beq_self_eq_true,pT,samM2,samO1,tkArr_a,ks6,tkRow_r,tkMp_m,tkSNil_n,tkSame_s,decide_true]
    rw[dF h1,pF]
    simp only[e2,tkHv_h,tkAgg_a,tkTup_t,tkCons_c,tkInt_i,tkBool_b,tkNil_n,tkSCons_c,tkBox_b,Nat.beq_refl,Bool.and_self,beq_self_eq_true,pT,samM2,samO1,tkArr_a,ks6,tkRow_r,tkMp_m,tkSNil_n,tkSame_s,decide_true]
    rw[h2,pT,w1,w2]
    simp only[faultR,dF h1,cond_false,h2,cond_true]
   |false =>
    cases h3:oiledB c h0 k with
    |true =>
     refine⟨k,ks3,hG3,?_⟩
     rw[L732x0s,hlt,pT]
     simp only[e1,tkHv_h,tkAgg_a,tkTup_t,tkCons_c,tkInt_i,tkBool_b,tkNil_n,tkSCons_c,tkBox_b,Nat.beq_refl,Bool.and_self,beq_self_eq_true,pT,samM2,samO1,tkArr_a,ks6,tkRow_r,tkMp_m,tkSNil_n,tkSame_s,decide_true]
     rw[dF h1,pF]
     simp only[e2,tkHv_h,tkAgg_a,tkTup_t,tkCons_c,tkInt_i,tkBool_b,tkNil_n,tkSCons_c,tkBox_b,Nat.beq_refl,Bool.and_self,beq_self_eq_true,pT,samM2,samO1,tkArr_a,ks6,tkRow_r,tkMp_m,tkSNil_n,tkSame_s,decide_true]
     rw[h2,pF]
     simp only[e3,tkHv_h,tkAgg_a,tkTup_t,tkCons_c,tkInt_i,tkBool_b,tkNil_n,tkSCons_c,tkBox_b,Nat.beq_refl,Bool.and_self,beq_self_eq_true,pT,samM2,samO1,tkArr_a,ks6,tkRow_r,tkMp_m,tkSNil_n,tkSame_s,decide_true]
     rw[h3,pT,w1,w3,w4]
     simp only[faultR,dF h1,cond_false,h2,h3,cond_true]
    |false =>
     cases h4:(wideR c h0 k c.slices.len 0).2 with
     |true =>
      refine⟨k,ks4,hG4,?_⟩
      rw[L732x0s,hlt,pT]
      simp only[e1,tkHv_h,tkAgg_a,tkTup_t,tkCons_c,tkInt_i,tkBool_b,tkNil_n,tkSCons_c,tkBox_b,Nat.beq_refl,Bool.and_self,beq_self_eq_true,pT,samM2,samO1,tkArr_a,ks6,tkRow_r,tkMp_m,tkSNil_n,tkSame_s,decide_true]
      rw[dF h1,pF]
      simp only[e2,tkHv_h,tkAgg_a,tkTup_t,tkCons_c,tkInt_i,tkBool_b,tkNil_n,tkSCons_c,tkBox_b,Nat.beq_refl,Bool.and_self,beq_self_eq_true,pT,samM2,samO1,tkArr_a,ks6,tkRow_r,tkMp_m,tkSNil_n,tkSame_s,decide_true]
      rw[h2,pF]
      simp only[e3,tkHv_h,tkAgg_a,tkTup_t,tkCons_c,tkInt_i,tkBool_b,tkNil_n,tkSCons_c,tkBox_b,Nat.beq_refl,Bool.and_self,beq_self_eq_true,pT,samM2,samO1,tkArr_a,ks6,tkRow_r,tkMp_m,tkSNil_n,tkSame_s,decide_true]
      rw[h3,pF]
      simp only[e4,tkHv_h,tkAgg_a,tkTup_t,tkCons_c,tkInt_i,tkBool_b,tkNil_n,tkSCons_c,tkBox_b,Nat.beq_refl,Bool.and_self,beq_self_eq_true,pT,samM2,samO1,tkArr_a,ks6,tkRow_r,tkMp_m,tkSNil_n,tkSame_s,decide_true]
      rw[h4,pT,w1,w3,wr (n:=2+1) (by omega)]
      rw[show (2:Int)+1=3 from rfl,w5]
      simp only[faultR,dF h1,cond_false,h2,h3,h4,cond_true]
     |false =>
      refine⟨p',ks5,hG5,?_⟩
      rw[L732x0s,hlt,pT]
      simp only[e1,tkHv_h,tkAgg_a,tkTup_t,tkCons_c,tkInt_i,tkBool_b,tkNil_n,tkSCons_c,tkBox_b,Nat.beq_refl,Bool.and_self,beq_self_eq_true,pT,samM2,samO1,tkArr_a,ks6,tkRow_r,tkMp_m,tkSNil_n,tkSame_s,decide_true]
      rw[dF h1,pF]
      simp only[e2,tkHv_h,tkAgg_a,tkTup_t,tkCons_c,tkInt_i,tkBool_b,tkNil_n,tkSCons_c,tkBox_b,Nat.beq_refl,Bool.and_self,beq_self_eq_true,pT,samM2,samO1,tkArr_a,ks6,tkRow_r,tkMp_m,tkSNil_n,tkSame_s,decide_true]
      rw[h2,pF]
      simp only[e3,tkHv_h,tkAgg_a,tkTup_t,tkCons_c,tkInt_i,tkBool_b,tkNil_n,tkSCons_c,tkBox_b,Nat.beq_refl,Bool.and_self,beq_self_eq_true,pT,samM2,samO1,tkArr_a,ks6,tkRow_r,tkMp_m,tkSNil_n,tkSame_s,decide_true]
      rw[h3,pF]
      simp only[e4,tkHv_h,tkAgg_a,tkTup_t,tkCons_c,tkInt_i,tkBool_b,tkNil_n,tkSCons_c,tkBox_b,Nat.beq_refl,Bool.and_self,beq_self_eq_true,pT,samM2,samO1,tkArr_a,ks6,tkRow_r,tkMp_m,tkSNil_n,tkSame_s,decide_true]
      rw[h4,pF,hS]
      simp only[faultR,dF h1,cond_false,h2,h3,h4]
      exact e5
theorem s732 {c:Cav} (hc:CavOk c) {L:List Stg} (hL:L.length≤1000) (k0:Nat) (h0:Nat→Stg) (hn2:k0≤300) (hl:∀ i,i<k0→StgOk c.slices.len (h0 i)∧h0 i ∈ L) (hF:400<F) (p:Int) (n:Nat) (hn:n≤k0) (ks:List GKey) (hG:Gs L ks):∃ (p':Int) (ks':List GKey),Gs L ks' ∧
 (E F (d+17)).hv 47 [.optr 0 0 0,.int .i64 n] (PB c k0 h0 p (encM gK (gV c) ks))=some (.ret (.tup [.int .i64 (faultR c h0 (k0 - n) n).1,.int .i64 (faultR c h0 (k0 - n) n).2.1,.int .i64 (faultR c h0 (k0 - n) n).2.2]),(PB c k0 h0 p' (encM gK (gV c) ks'))):=by
 obtain⟨p',ks',hG',e⟩:=l732 F d hc hL k0 h0 hn2 hl hF p n (encM gK (gV c) ks) (k0 - n) n F ks (by omega) (by omega) hG
 refine⟨p',ks',hG',?_⟩
 rw[E_hv,t732]
 exact e
theorem l782 {c:Cav} (hc:CavOk c) {L:List Stg} (hL:L.length≤1000) (k0:Nat) (h0:Nat→Stg) (hn2:k0≤300) (hl:∀ i,i<k0→StgOk c.slices.len (h0 i)∧h0 i ∈ L) (hF:400<F) (p:Int) (w:Sl Int) (hw:w.len≤c.slices.len) (es:List (V × V)):∀ j i fu ks,i+j=w.len→j<fu→Gs L ks→∃ ks',Gs L ks' ∧
 L782x0 (E F (d+15)) F c k0 h0 p es w fu i (fun i=>eStg (h0 i)) (encM gK (gV c) ks)=some (.ret (.bool (allF (fun i=>decide (w.el i≤(boundS c h0 (meaS c 2 i) k0).lo)) j i)),(PB c k0 h0 p (encM gK (gV c) ks'))):=by
 have hcl:=hc.1
 intro j
 induction j with
 |zero =>
  intro i fu ks h hf hG
  obtain⟨fu,rfl⟩:=ex1 (n:=fu) (by omega)
  refine⟨ks,hG,?_⟩
  rw[L782x0s,dF (by omega),pF]
  rfl
 |succ j ih =>
  intro i fu ks h hf hG
  obtain⟨fu,rfl⟩:=ex1 (n:=fu) (by omega)
  obtain⟨ks1,hG1,e1⟩:=s1062 F d hc hL k0 h0 p k0 (by omega) (by omega) hl 2 i (by omega) (by omega) hF ks hG
  obtain⟨ks2,hG2,e2⟩:=ih (i+1) fu ks1 (by omega) (by omega) hG1
  have hS2:=wrS (i:=i) (by omega)
  by_cases hw:(boundS c h0 (meaS c 2 i) k0).lo<w.el i
  ·refine⟨ks1,hG1,?_⟩
   rw[L782x0s]
   simp (disch:=omega) only[dT,decide_true,pT,tnC,hS2]
   simp only[e1,tkHv_h,tkAgg_a,tkTup_t,tkCons_c,tkInt_i,tkBool_b,tkNil_n,tkSCons_c,tkBox_b,Nat.beq_refl,Bool.and_self,beq_self_eq_true,pT,samM2,samO1,tkArr_a,ks6,tkRow_r,tkMp_m,tkSNil_n,tkSame_s,decide_true]
   rw[dT hw,pT]
   simp only[allF,dF (show ¬ w.el i≤_ from Int.not_le.2 hw),Bool.false_and]
  ·refine⟨ks2,hG2,?_⟩
   rw[L782x0s]
   simp (disch:=omega) only[dT,decide_true,pT,tnC,hS2]
   simp only[e1,tkHv_h,tkAgg_a,tkTup_t,tkCons_c,tkInt_i,tkBool_b,tkNil_n,tkSCons_c,tkBox_b,Nat.beq_refl,Bool.and_self,beq_self_eq_true,pT,samM2,samO1,tkArr_a,ks6,tkRow_r,tkMp_m,tkSNil_n,tkSame_s,decide_true]
   rw[dF hw,pF]
   simp only[allF,dT (Int.not_lt.1 hw),Bool.true_and]
   exact e2
theorem s782 {c:Cav} (hc:CavOk c) {L:List Stg} (hL:L.length≤1000) (k0:Nat) (h0:Nat→Stg) (hn2:k0≤300) (hl:∀ i,i<k0→StgOk c.slices.len (h0 i)∧h0 i ∈ L) (hF:400<F) (p:Int) (w:Sl Int) (hw:w.len≤c.slices.len) (ks:List GKey) (hG:Gs L ks):∃ ks',Gs L ks' ∧
 (E F (d+16)).hv 49 [.optr 0 0 0,sl eInt 1 w] (PB c k0 h0 p (encM gK (gV c) ks))=some (.ret (.bool (allF (fun i=>decide (w.el i≤(boundS c h0 (meaS c 2 i) k0).lo)) w.len 0)),(PB c k0 h0 p (encM gK (gV c) ks'))):=by
 have hcl:=hc.1
 obtain⟨ks',hG',e⟩:=l782 F d hc hL k0 h0 hn2 hl hF p w hw (encM gK (gV c) ks) w.len 0 F ks (by omega) (by omega) hG
 refine⟨ks',hG',?_⟩
 rw[E_hv,t782]
 exact e
end Go.Sim.Le

namespace Go.Sim.Le
open Go.Proofs
variable (F d:Nat)
theorem errP_0 {c:Cav} {l:Sl Stg} {b:Bool}:errP c l b=0↔l.len≤8∧CavOk c∧(∀ i,i<l.len→StgOk c.slices.len (l.el i))∧b=true:=by
 unfold errP
 split
 ·constructor
  ·intro h;omega
  ·intro h;omega
 ·split
  ·rename_i h1 h2
   exact⟨fun _=>⟨by omega,h2⟩,fun _=>rfl⟩
  ·rename_i h1 h2
   exact⟨fun h=>by omega,fun h=>(h2 h.2).elim⟩
def lst (l:Nat→Stg) (n:Nat):List Stg:=(List.range n).map l
theorem lst_mem (l:Nat→Stg) {n i:Nat} (h:i<n):l i ∈ lst l n:=List.mem_map.2 ⟨i,List.mem_range.2 h,rfl⟩
theorem lst_len (l:Nat→Stg) (n:Nat):(lst l n).length=n:=by simp[lst]
theorem s30 (c:Cav) (l:Sl Stg) (hC:c.slices.len<Big) (hCF:c.slices.len<F) (hB:l.len<Big) (hLF:l.len<F) (hF:400<F) :
 (E F (d+18)).pf 20 [.agg (eCav c),sl eStg 4 l]=some (.ret (.tup (if errP c l true=0 then [.int .i64 (faultR c l.el l.len 0).1,.int .i64 (faultR c l.el l.len 0).2.1,.int .i64 (faultR c l.el l.len 0).2.2,.int .i64 0] else [.int .i64 0,.int .i64 0,.int .i64 0,.int .i64 (errP c l true)]))):=by
 rw[E_pf,t30]
 simp only[s57e F (d+10) c l hC hCF hB hLF,tkOut_ret,tkInt_i,decide_true,pT]
 by_cases h0:errP c l true=0
 ·rw[h0,show ((0:Int) != 0)=false from rfl,pF]
  obtain⟨h8,hc,hl,_⟩:=errP_0.1 h0
  obtain⟨p',ks',_,e⟩:=s731 F d hc (L:=lst l.el l.len) (by rw[lst_len];omega) l (by omega) (fun i hi=>⟨hl i hi,lst_mem _ hi⟩) hF 0 0 (by omega) [] ⟨List.nodup_nil,by simp⟩
  simp only[PA,encM,List.map,Int.natCast_zero,Nat.sub_zero] at e
  simp only[e,tkHv_h,tkTup_t,tkCons_c,tkInt_i,tkNil_n,tkSCons_c,tkBox_b,Nat.beq_refl,Bool.and_self,beq_self_eq_true,pT,samM1,ks6,tkRow_r,tkMp_m,tkSNil_n]
  rw[if_pos trivial]
 ·have e1:(errP c l true != 0)=true:=by simpa using h0
  rw[e1,pT,if_neg h0]
end Go.Sim.Le

namespace Go.Sim.Le
open Go.Proofs
def z0:Stg:=⟨0,0,0,0⟩
def stgF (ms:List Stg):Nat→Stg:=fun j=>ms.getD j (ms.getLastD z0)
theorem glS (ms:List Stg):gl eStg z0 ms=fun i=>eStg (stgF ms i):=rfl
def msOf (l:Nat→Stg) (r:List Int):List Stg:=r.map fun i=>l i.toNat
theorem msOf_snoc (l:Nat→Stg) (r:List Int) (i:Int):msOf l (r ++ [i])=msOf l r ++ [l i.toNat]:=by simp[msOf]
theorem msOf_len (l:Nat→Stg) (r:List Int):(msOf l r).length=r.length:=by simp[msOf]
def rb (r:List Int):Bool:=match r with | []=>true | _=>false
def rwd (r:List Int):Nat:=match r with | []=>0 | _=>1
def rg (r:List Int):Nat→List V:=match r with | []=>fun _=>[] | _=>gl eInt 0 r
theorem rb_own {r:List Int} (h:r ≠ []):rb r=false:=by cases r with | nil=>exact (h rfl).elim | cons=>rfl
theorem rw_own {r:List Int} (h:r ≠ []):rwd r=1:=by cases r with | nil=>exact (h rfl).elim | cons=>rfl
theorem rg_own {r:List Int} (h:r ≠ []):rg r=gl eInt 0 r:=by cases r with | nil=>exact (h rfl).elim | cons=>rfl
def rowE (r:List Int):List V:=[.row (rb r) r.length (rwd r) (rg r)]
def rowG (PL:List (List Int)):Nat→List V:=gl rowE [] PL
theorem rowG_at {PL pre rest:List (List Int)} {r:List Int} (h:PL=pre ++ r :: rest):rowG PL pre.length=rowE r:=by
 subst h
 unfold rowG gl
 rw[List.getD_eq_getElem?_getD,List.getElem?_append_right (Nat.le_refl _),Nat.sub_self];rfl
theorem gl_int {r:List Int} {k:Nat} (h:k<r.length):gl eInt 0 r k=[.int .i64 (r.getD k 0)]:=by
 unfold gl
 rw[List.getD_eq_getElem?_getD,List.getElem?_eq_getElem h,List.getD_eq_getElem?_getD,List.getElem?_eq_getElem h];rfl
abbrev RowOk (l:Sl Stg) (n:Nat) (r:List Int):Prop:=r.length=n∧∀ i ∈ r,0≤i∧i<l.len
theorem rowOk_at {l:Sl Stg} {n:Nat} {r:List Int} (h:RowOk l n r) {k:Nat} (hk:k<r.length):0≤r.getD k 0∧r.getD k 0<l.len:=by
 rw[List.getD_eq_getElem?_getD,List.getElem?_eq_getElem hk]
 exact h.2 _ (List.getElem_mem hk)
theorem stgF_ok {c:Cav} {l:Sl Stg} (hl:∀ i,i<l.len→StgOk c.slices.len (l.el i)) {r:List Int} (h:∀ i ∈ r,0≤i∧i<(l.len:Int)) {i:Nat} (hi:i<r.length):StgOk c.slices.len (stgF (msOf l.el r) i)∧stgF (msOf l.el r) i ∈ lst l.el l.len:=by
 have h1:stgF (msOf l.el r) i=l.el (r.getD i 0).toNat:=by
  unfold stgF msOf
  rw[List.getD_eq_getElem?_getD,List.getElem?_map,List.getElem?_eq_getElem hi,List.getD_eq_getElem?_getD,List.getElem?_eq_getElem hi];rfl
 have h2:0≤r.getD i 0∧r.getD i 0<l.len:=by
  rw[List.getD_eq_getElem?_getD,List.getElem?_eq_getElem hi]
  exact h _ (List.getElem_mem hi)
 rw[h1]
 exact⟨hl _ (by omega),lst_mem _ (by omega)⟩
def makesB (c:Cav) (l:Nat→Stg) (w:Sl Int) (r:List Int):Bool:=allF (fun i=>decide (w.el i≤(boundS c (stgF (msOf l r)) (meaS c 2 i) r.length).lo)) w.len 0
def fineB (c:Cav) (l:Nat→Stg) (n:Nat) (r:List Int):Bool:=decide ((faultR c (stgF (msOf l r)) (r.length - n) n).1<0)
def watS (l:Nat→Stg) (r:List Int):Int:=(r.map fun i=>(l i.toNat).water).sum
theorem watS_snoc (l:Nat→Stg) (r:List Int) (i:Int):watS l (r ++ [i])=watS l r+(l i.toNat).water:=by simp[watS]
theorem watS_in {c:Cav} {l:Sl Stg} (hl:∀ i,i<l.len→StgOk c.slices.len (l.el i)):∀ r:List Int,(∀ i ∈ r,0≤i∧i<(l.len:Int))→0≤watS l.el r∧watS l.el r≤1000000*r.length:=by
 intro r
 induction r with
 |nil=>intro _;simp[watS]
 |cons i r ih =>
  intro h
  have h1:=ih fun i hi=>h i (List.mem_cons_of_mem _ hi)
  have h2:=h i (List.mem_cons_self ..)
  have h3:=(hl i.toNat (by omega)).1
  have e:watS l.el (i :: r)=(l.el i.toNat).water+watS l.el r:=by simp[watS]
  rw[e,List.length_cons]
  omega
def bestA (c:Cav) (l:Nat→Stg) (w:Sl Int) (acc:Option (List Int × Int)) (r:List Int):Option (List Int × Int) :=
 bif makesB c l w r then (match acc with | none=>some (r,watS l r) | some (b,a)=>bif decide (watS l r<a) then some (r,watS l r) else some (b,a)) else acc
def aR (acc:Option (List Int × Int)):List Int:=match acc with | none=>[] | some (b,_)=>b
def aL (acc:Option (List Int × Int)):Int:=match acc with | none=>-1 | some (_,a)=>a
def planOut:Option (List Int)→Out
 |none=>.ret (.tup [.row true 0 0 (fun _=>[]),.int .i64 5])
 |some r=>.ret (.tup [.row (rb r) r.length (rwd r) (rg r),.int .i64 0])
variable (F d:Nat)
theorem s78p {c:Cav} (hc:CavOk c) {l:Sl Stg} (hL:l.len≤300) (hl:∀ i,i<l.len→StgOk c.slices.len (l.el i)) (hF:400<F) (p:Int) (w:Sl Int) (hw:w.len≤c.slices.len) (r:List Int) (hn:r.length≤300) (hr:∀ i ∈ r,0≤i∧i<(l.len:Int)) (ks:List GKey) (hG:Gs (lst l.el l.len) ks):∃ ks',Gs (lst l.el l.len) ks' ∧
 (E F (d+17)).hv 49 [.optr 0 0 0,sl eInt 1 w] (PB c r.length (stgF (msOf l.el r)) p (encM gK (gV c) ks))=some (.ret (.bool (makesB c l.el w r)),(PB c r.length (stgF (msOf l.el r)) p (encM gK (gV c) ks'))) :=
 s782 F (d+1) hc (by rw[lst_len];omega) r.length (stgF (msOf l.el r)) hn (fun i hi=>stgF_ok hl hr hi) hF p w hw ks hG
theorem s73p {c:Cav} (hc:CavOk c) {l:Sl Stg} (hL:l.len≤300) (hl:∀ i,i<l.len→StgOk c.slices.len (l.el i)) (hF:400<F) (p:Int) (n:Nat) (r:List Int) (hn1:n≤r.length) (hn:r.length≤300) (hr:∀ i ∈ r,0≤i∧i<(l.len:Int)) (ks:List GKey) (hG:Gs (lst l.el l.len) ks):∃ (p':Int) (ks':List GKey) (x y z:Int),Gs (lst l.el l.len) ks'∧fineB c l.el n r=decide (x<0) ∧
 (E F (d+17)).hv 47 [.optr 0 0 0,.int .i64 n] (PB c r.length (stgF (msOf l.el r)) p (encM gK (gV c) ks))=some (.ret (.tup [.int .i64 x,.int .i64 y,.int .i64 z]),(PB c r.length (stgF (msOf l.el r)) p' (encM gK (gV c) ks'))):=by
 obtain⟨p',ks',hG',e⟩:=s732 F d hc (L:=lst l.el l.len) (by rw[lst_len];omega) r.length (stgF (msOf l.el r)) hn (fun i hi=>stgF_ok hl hr hi) hF p n hn1 ks hG
 exact⟨p',ks',_,_,_,hG',rfl,e⟩
theorem s79n:(E F (d+17)).hv 50 [.row true 0 0 (fun _=>[])] []=some (.ret (.row true 0 0 fun _=>[]),[]):=by
 rw[show d+17=(d+16)+1 from rfl,E_hv]
 kernel_rfl
theorem s79o (r:List Int) (h:r ≠ []) (hl:r.length≤300):(E F (d+17)).hv 50 [.row false r.length 1 (gl eInt 0 r)] []=some (.ret (.osl 0 0 r.length),[.arr 3 1 r.length (gl eInt 0 r) true]):=by
 have hr:0<r.length:=List.length_pos_iff.2 h
 rw[show d+17=(d+16)+1 from rfl,E_hv]
 refine (t79 _ _ ⟨false,r.length,fun j=>r.getD j (r.getLastD 0)⟩).trans ?_
 simp only[Nat.zero_add,pF]
 rw[show (r.length==0)=false by rw[beq_eq_false_iff_ne];omega,pF,dT (by omega),pT]
 rfl
section
variable {c:Cav} (hc:CavOk c) {l:Sl Stg} (hL:l.len≤300) (hl:∀ i,i<l.len→StgOk c.slices.len (l.el i)) (hF:100000<F) (w:Sl Int) (hw:w.len≤c.slices.len)
include hc hL hl hF hw
theorem l33x20 (m0 m1 n:Nat) (hn:1≤n∧n≤100) (PLn:Nat) (PG:Nat→List V) (acc:Option (List Int × Int)) (r:List Int) (hr:RowOk l n r) (ix:Nat) (hix:ix<100000) (p:Int) (R:Option Out)
 (K:∀ (p:Int) (ks:List GKey),Gs (lst l.el l.len) ks→L33x17 (E F (d+17)) F c l w m0 m1 PLn n (rb (aR (bestA c l.el w acc r))) (aR (bestA c l.el w acc r)).length (rwd (aR (bestA c l.el w acc r))) (rg (aR (bestA c l.el w acc r))) (aL (bestA c l.el w acc r)) PLn PLn ((ix+1:Nat):Int) c.slices.nl c.slices.len 7 (fun u=>eSlc (c.slices.el u)) .i64 c.hold .i64 c.oil r.length .i64 p PLn PG r.length (fun i=>eStg (stgF (msOf l.el r) i)) (encM gK (gV c) ks)=R) (hacc:∀ b a,acc=some (b,a)→0≤a) :
 ∀ j i fu ks,i+j=n→1≤i→j<fu→Gs (lst l.el l.len) ks →
 L33x20 (E F (d+17)) F c l w m0 m1 fu PLn n (rb (aR acc)) (aR acc).length (rwd (aR acc)) (rg (aR acc)) (aL acc) false n 1 (gl eInt 0 r) (watS l.el (r.take i)) PLn PLn ix false n 1 (gl eInt 0 r) n i c.slices.nl c.slices.len 7 (fun u=>eSlc (c.slices.el u)) .i64 c.hold .i64 c.oil i .i64 p PLn PG i (gl eStg z0 (msOf l.el (r.take i))) (encM gK (gV c) ks)=R:=by
 intro j
 induction j with
 |zero =>
  intro i fu ks h h1 hf hG
  obtain⟨fu,rfl⟩:=ex1 (n:=fu) (by omega)
  have hi:i=n:=by omega
  subst hi
  have hne:r ≠ []:=fun e=>by rw[e] at hr;have:=hr.1;simp at this;omega
  obtain⟨ks',hG',e⟩:=s78p F d hc hL hl (by omega) p w hw r (by rw[hr.1];omega) hr.2 ks hG
  have k1:=K p ks' hG'
  have hS2:=wrS (i:=ix) (by omega)
  rw[hr.1] at e k1
  rw[show r.take i=r by rw[← hr.1,List.take_length],L33x20s,dF (by omega),pF,glS]
  simp only[e,tkHv_h,tkBool_b,tkCons_c,tkInt_i,tkNil_n,tkSCons_c,tkBox_b,Nat.beq_refl,Bool.and_self,beq_self_eq_true,pT,samM2,samO1,tkArr_a,ks6,tkRow_r,tkMp_m,tkSNil_n,tkSame_s,hS2]
  cases hmk:makesB c l.el w r with
  |false =>
   have hb:bestA c l.el w acc r=acc:=by unfold bestA;rw[hmk,cond_false]
   rw[hb] at k1
   rw[Bool.not_false,pT]
   exact k1
  |true =>
   rw[Bool.not_true,pF]
   have hro:∀ a,bestA c l.el w acc r=some (r,a)→rb (aR (bestA c l.el w acc r))=false∧(aR (bestA c l.el w acc r)).length=i∧rwd (aR (bestA c l.el w acc r))=1∧rg (aR (bestA c l.el w acc r))=gl eInt 0 r∧aL (bestA c l.el w acc r)=a:=by
    intro a ha
    rw[ha]
    exact⟨rb_own hne,hr.1,rw_own hne,rg_own hne,rfl⟩
   cases hac:acc with
   |none =>
    have hb:bestA c l.el w acc r=some (r,watS l.el r):=by unfold bestA;rw[hmk,cond_true,hac]
    obtain⟨q1,q2,q3,q4,q5⟩:=hro _ hb
    rw[q1,q2,q3,q4,q5] at k1
    rw[show aL none = -1 from rfl,dT (by omega),pT]
    exact k1
   |some ba =>
    obtain⟨b,a⟩:=ba
    have ha:=hacc b a hac
    rw[show aL (some (b,a))=a from rfl,dF (by omega),pF]
    by_cases hlt:watS l.el r<a
    ·have hb:bestA c l.el w acc r=some (r,watS l.el r):=by unfold bestA;rw[hmk,cond_true,hac];show (bif _ then _ else _)=_;rw[dT hlt,cond_true]
     obtain⟨q1,q2,q3,q4,q5⟩:=hro _ hb
     rw[q1,q2,q3,q4,q5] at k1
     rw[dT hlt,pT]
     exact k1
    ·have hb:bestA c l.el w acc r=acc:=by unfold bestA;rw[hmk,cond_true,hac];show (bif _ then _ else _)=_;rw[dF hlt,cond_false]
     rw[hb,hac] at k1
     rw[dF hlt,pF]
     exact k1
 |succ j ih =>
  intro i fu ks h h1 hf hG
  obtain⟨fu,rfl⟩:=ex1 (n:=fu) (by omega)
  have hir:i<r.length:=by rw[hr.1];omega
  have hi2:=rowOk_at hr hir
  have hwt:=watS_in hl (r.take i) fun x hx=>hr.2 x (List.mem_of_mem_take hx)
  have hwl:(r.take i).length=i:=by rw[List.length_take];omega
  have hws:=(hl (r.getD i 0).toNat (by omega)).1
  have hS2:=wrS (i:=i) (by omega)
  have htk:r.take (i+1)=r.take i ++ [r.getD i 0]:=by
   rw[List.take_add_one,List.getElem?_eq_getElem hir,List.getD_eq_getElem?_getD,List.getElem?_eq_getElem hir];rfl
  have e:=ih (i+1) fu ks (by omega) (by omega) (by omega) hG
  rw[htk,watS_snoc,msOf_snoc] at e
  rw[hwl] at hwt
  rw[L33x20s]
  simp (disch:=omega) only[dT,decide_true,pT,tnC,show ((1:Nat)==1)=true from rfl,gl_int hir,tkCons_c,tkInt_i,hS2,wr]
  rw[← gl_snoc (e:=eStg) (z:=z0) (m:=l.el (r.getD i 0).toNat) (ms:=msOf l.el (r.take i)) (k:=i) (by rw[msOf_len,hwl]) rfl] at e
  exact e
end
end Go.Sim.Le

namespace Go.Sim.Le
open Go.Proofs
variable (F d:Nat)
def nxtE (c:Cav) (l:Nat→Stg) (n:Nat) (r:List Int):Nat→Nat→List (List Int)
 |0,_=>[]
 |j+1,i=>(bif fineB c l n (r ++ [(i:Int)]) then [r ++ [(i:Int)]] else []) ++ nxtE c l n r j (i+1)
def nextP (c:Cav) (l:Sl Stg) (n:Nat) (PL:List (List Int)):List (List Int):=PL.flatMap fun r=>nxtE c l.el n r l.len 0
def planF (c:Cav) (l:Sl Stg) (w:Sl Int):Nat→Nat→List (List Int)→Option (List Int)
 |0,_,PL=>(match PL.foldl (bestA c l.el w) none with | some (b,_)=>some b | none=>none)
 |t+1,n,PL=>(match PL.foldl (bestA c l.el w) none with | some (b,_)=>some b | none=>planF c l w t (n+1) (nextP c l n PL))
theorem nxtE_len (c:Cav) (l:Nat→Stg) (n:Nat) (r:List Int):∀ j i,(nxtE c l n r j i).length≤j:=by
 intro j
 induction j with
 |zero=>intro i;simp[nxtE]
 |succ j ih =>
  intro i
  have:=ih (i+1)
  simp only[nxtE,List.length_append]
  cases fineB c l n (r ++ [(i:Int)])<;>simp<;>omega
theorem nxtE_ok {c:Cav} {l:Sl Stg} {n:Nat} {r:List Int} (hr:RowOk l n r):∀ j i,i+j=l.len→∀ q ∈ nxtE c l.el n r j i,RowOk l (n+1) q:=by
 intro j
 induction j with
 |zero=>intro i _ q hq;simp[nxtE] at hq
 |succ j ih =>
  intro i h q hq
  simp only[nxtE,List.mem_append] at hq
  rcases hq with hq | hq
  ·cases hf:fineB c l.el n (r ++ [(i:Int)]) with
   |false=>rw[hf] at hq;simp at hq
   |true =>
    rw[hf] at hq
    simp at hq
    subst hq
    refine⟨by simp[hr.1],fun x hx=>?_⟩
    rcases List.mem_append.1 hx with hx | hx
    ·exact hr.2 x hx
    ·rw[List.mem_singleton] at hx;omega
  ·exact ih (i+1) (by omega) q hq
theorem nextP_ok {c:Cav} {l:Sl Stg} {n:Nat} {PL:List (List Int)} (h:∀ r ∈ PL,RowOk l n r):∀ q ∈ nextP c l n PL,RowOk l (n+1) q:=by
 intro q hq
 obtain⟨r,h1,h2⟩:=List.mem_flatMap.1 hq
 exact nxtE_ok (h r h1) _ _ (by omega) q h2
theorem nextP_len (c:Cav) (l:Sl Stg) (n:Nat):∀ PL:List (List Int),(nextP c l n PL).length≤PL.length*l.len:=by
 intro PL
 induction PL with
 |nil=>simp[nextP]
 |cons r PL ih =>
  have h1:=nxtE_len c l.el n r l.len 0
  have e:nextP c l n (r :: PL)=nxtE c l.el n r l.len 0 ++ nextP c l n PL:=rfl
  rw[e,List.length_append,List.length_cons,Nat.add_mul]
  omega
noncomputable def EL (env:Env) (F:Nat) (c:Cav) (l:Sl Stg) (w:Sl Int) (m0 m1 fu n:Nat) (r:List Int) (PLn:Nat) (PG:Nat→List V) (ix mi:Nat) (NP:List (List Int)) (sk sa:Nat) (sg:Nat→List V) (p:Int) (es:List (V × V)):Option Out :=
 match NP with
 |[]=>L33x9 env F c l w m0 m1 fu n (rb r) r.length (rwd r) (rg r) PLn PLn ix mi c.slices.nl c.slices.len 7 (fun u=>eSlc (c.slices.el u)) .i64 c.hold .i64 c.oil sk .i64 p PLn PG sa sg es
 |_=>L33x8 env F c l w m0 m1 fu n NP.length (rb r) r.length (rwd r) (rg r) PLn PLn ix mi c.slices.nl c.slices.len 7 (fun u=>eSlc (c.slices.el u)) .i64 c.hold .i64 c.oil sk .i64 p NP.length (rowG NP) PLn PG sa sg es
noncomputable def DL (env:Env) (F:Nat) (c:Cav) (l:Sl Stg) (w:Sl Int) (m0 fu n PLn:Nat) (PG:Nat→List V) (ix:Nat) (NP:List (List Int)) (sk sa:Nat) (sg:Nat→List V) (p:Int) (es:List (V × V)):Option Out :=
 match NP with
 |[]=>L33x13 env F c l w m0 fu n PLn PLn ix c.slices.nl c.slices.len 7 (fun u=>eSlc (c.slices.el u)) .i64 c.hold .i64 c.oil sk .i64 p PLn PG sa sg es
 |_=>L33x12 env F c l w m0 fu n NP.length PLn PLn ix c.slices.nl c.slices.len 7 (fun u=>eSlc (c.slices.el u)) .i64 c.hold .i64 c.oil sk .i64 p NP.length (rowG NP) PLn PG sa sg es
noncomputable def AL (env:Env) (F:Nat) (c:Cav) (l:Sl Stg) (w:Sl Int) (fu n:Nat) (NP:List (List Int)) (sk sa:Nat) (sg:Nat→List V) (p:Int) (es:List (V × V)):Option Out :=
 match NP with
 |[]=>L33x16 env F c l w fu n c.slices.nl c.slices.len 7 (fun u=>eSlc (c.slices.el u)) .i64 c.hold .i64 c.oil sk .i64 p sa sg es
 |_=>L33x15 env F c l w fu NP.length n c.slices.nl c.slices.len 7 (fun u=>eSlc (c.slices.el u)) .i64 c.hold .i64 c.oil sk .i64 p NP.length (rowG NP) sa sg es
theorem EL_own {env:Env} {F:Nat} {c:Cav} {l:Sl Stg} {w:Sl Int} {m0 m1 fu n:Nat} {r:List Int} {PLn:Nat} {PG:Nat→List V} {ix mi:Nat} {NP:List (List Int)} {sk sa:Nat} {sg:Nat→List V} {p:Int} {es:List (V × V)} (h:NP ≠ []) :
 EL env F c l w m0 m1 fu n r PLn PG ix mi NP sk sa sg p es=L33x8 env F c l w m0 m1 fu n NP.length (rb r) r.length (rwd r) (rg r) PLn PLn ix mi c.slices.nl c.slices.len 7 (fun u=>eSlc (c.slices.el u)) .i64 c.hold .i64 c.oil sk .i64 p NP.length (rowG NP) PLn PG sa sg es:=by
 cases NP with | nil=>exact (h rfl).elim | cons=>rfl
theorem DL_own {env:Env} {F:Nat} {c:Cav} {l:Sl Stg} {w:Sl Int} {m0 fu n PLn:Nat} {PG:Nat→List V} {ix:Nat} {NP:List (List Int)} {sk sa:Nat} {sg:Nat→List V} {p:Int} {es:List (V × V)} (h:NP ≠ []) :
 DL env F c l w m0 fu n PLn PG ix NP sk sa sg p es=L33x12 env F c l w m0 fu n NP.length PLn PLn ix c.slices.nl c.slices.len 7 (fun u=>eSlc (c.slices.el u)) .i64 c.hold .i64 c.oil sk .i64 p NP.length (rowG NP) PLn PG sa sg es:=by
 cases NP with | nil=>exact (h rfl).elim | cons=>rfl
theorem AL_own {env:Env} {F:Nat} {c:Cav} {l:Sl Stg} {w:Sl Int} {fu n:Nat} {NP:List (List Int)} {sk sa:Nat} {sg:Nat→List V} {p:Int} {es:List (V × V)} (h:NP ≠ []) :
 AL env F c l w fu n NP sk sa sg p es=L33x15 env F c l w fu NP.length n c.slices.nl c.slices.len 7 (fun u=>eSlc (c.slices.el u)) .i64 c.hold .i64 c.oil sk .i64 p NP.length (rowG NP) sa sg es:=by
 cases NP with | nil=>exact (h rfl).elim | cons=>rfl
theorem take1 {q:List Int} (h:0<q.length):q.take 1=[q.getD 0 0]:=by
 cases q with
 |nil=>simp at h
 |cons a q=>rfl
theorem rowG_one (r:List Int) (h:r ≠ []):(fun _:Nat=>[V.row false r.length 1 (gl eInt 0 r)])=rowG [r]:=by
 refine gl_one ?_
 unfold rowE
 rw[rb_own h,rw_own h,rg_own h]
theorem rowG_snoc (NP:List (List Int)) (r:List Int) (h:r ≠ []):appGet NP.length (rowG NP) (fun _=>[V.row false r.length 1 (gl eInt 0 r)])=rowG (NP ++ [r]):=by
 refine gl_snoc (m:=r) (e:=rowE) rfl ?_
 unfold rowE
 rw[rb_own h,rw_own h,rg_own h]
section
variable {c:Cav} (hc:CavOk c) {l:Sl Stg} (hL:l.len≤6) (hl:∀ i,i<l.len→StgOk c.slices.len (l.el i)) (hF:100000<F) (w:Sl Int) (hw:w.len≤c.slices.len)
include hc hL hl hF hw
theorem l33x6 (m0 m1 m2 n:Nat) (hn:n≤100) (r:List Int) (PLn:Nat) (PG:Nat→List V) (ix mi:Nat) (hmi:mi<100000) (q:List Int) (hq:RowOk l (n+1) q) (R:Option Out)
 (K:∀ (sk sa:Nat) (sg:Nat→List V) (p:Int) (ks:List GKey),Gs (lst l.el l.len) ks→EL (E F (d+17)) F c l w m0 m1 m2 n r PLn PG ix (mi+1) ([] ++ (bif fineB c l.el n q then [q] else [])) sk sa sg p (encM gK (gV c) ks)=R) (p:Int) :
 ∀ j i fu ks,i+j=q.length→1≤i→j<fu→Gs (lst l.el l.len) ks→L33x6 (E F (d+17)) F c l w m0 m1 m2 fu n (rb r) r.length (rwd r) (rg r) q.length PLn PLn ix mi q.length q.length i c.slices.nl c.slices.len 7 (fun u=>eSlc (c.slices.el u)) .i64 c.hold .i64 c.oil i .i64 p q.length (gl eInt 0 q) PLn PG i (gl eStg z0 (msOf l.el (q.take i))) (encM gK (gV c) ks)=R:=by
 intro j
 induction j with
 |zero =>
  intro i fu ks h h1 hf hG
  obtain⟨fu,rfl⟩:=ex1 (n:=fu) (by omega)
  have hi:i=q.length:=by omega
  subst hi
  have hq1:=hq.1
  have hne:q ≠ []:=fun e=>by rw[e] at hq1;simp at hq1
  obtain⟨p',ks',x,y,z,hG',hx,e⟩:=s73p F d hc (by omega) hl (by omega) p n q (by omega) (by omega) hq.2 ks hG
  have k1:=K q.length q.length (fun i=>eStg (stgF (msOf l.el q) i)) p' ks' hG'
  have hS2:=wrS (i:=mi) (by omega)
  rw[show q.take q.length=q from List.take_length,L33x6s,dF (by omega),pF,glS]
  simp only[e,tkHv_h,tkTup_t,tkCons_c,tkInt_i,tkNil_n,tkSCons_c,tkBox_b,Nat.beq_refl,Bool.and_self,beq_self_eq_true,pT,samM2,samO1,tkArr_a,ks6,tkRow_r,tkMp_m,tkSNil_n,decide_true,hS2]
  cases hfn:fineB c l.el n q with
  |true =>
   rw[hfn] at k1 hx
   rw[← hx,pT]
   rw[cond_true] at k1
   rw[EL_own (by simp),List.nil_append,List.length_singleton,← rowG_one q hne] at k1
   exact k1
  |false =>
   rw[hfn] at k1 hx
   rw[← hx,pF]
   rw[cond_false] at k1
   exact k1
 |succ j ih =>
  intro i fu ks h h1 hf hG
  obtain⟨fu,rfl⟩:=ex1 (n:=fu) (by omega)
  have hq1:=hq.1
  have hir:i<q.length:=by omega
  have hi2:=rowOk_at hq hir
  have hwl:(q.take i).length=i:=by rw[List.length_take];omega
  have hS2:=wrS (i:=i) (by omega)
  have htk:q.take (i+1)=q.take i ++ [q.getD i 0]:=by
   rw[List.take_add_one,List.getElem?_eq_getElem hir,List.getD_eq_getElem?_getD,List.getElem?_eq_getElem hir];rfl
  have e:=ih (i+1) fu ks (by omega) (by omega) (by omega) hG
  rw[htk,msOf_snoc,← gl_snoc (e:=eStg) (z:=z0) (m:=l.el (q.getD i 0).toNat) (ms:=msOf l.el (q.take i)) (k:=i) (by rw[msOf_len,hwl]) rfl] at e
  rw[L33x6s]
  simp (disch:=omega) only[dT,decide_true,pT,tnC,gl_int hir,tkCons_c,tkInt_i,hS2]
  exact e
theorem l33x5 (m0 m1 m2 n:Nat) (hn:n≤100) (r:List Int) (PLn:Nat) (PG:Nat→List V) (ix mi:Nat) (hmi:mi<100000) (q:List Int) (hq:RowOk l (n+1) q) (R:Option Out)
 (K:∀ (sk sa:Nat) (sg:Nat→List V) (p:Int) (ks:List GKey),Gs (lst l.el l.len) ks→EL (E F (d+17)) F c l w m0 m1 m2 n r PLn PG ix (mi+1) ([] ++ (bif fineB c l.el n q then [q] else [])) sk sa sg p (encM gK (gV c) ks)=R) (p:Int) :
 ∀ fu ks,q.length<fu→Gs (lst l.el l.len) ks→L33x5 (E F (d+17)) F c l w m0 m1 m2 fu n (rb r) r.length (rwd r) (rg r) q.length PLn PLn ix mi q.length q.length c.slices.nl c.slices.len 7 (fun u=>eSlc (c.slices.el u)) .i64 c.hold .i64 c.oil .i64 p q.length (gl eInt 0 q) PLn PG (encM gK (gV c) ks)=R:=by
 intro fu ks hf hG
 obtain⟨fu,rfl⟩:=ex1 (n:=fu) (by omega)
 have hq1:=hq.1
 have hi2:=rowOk_at hq (k:=0) (by omega)
 have e:=l33x6 F d hc hL hl hF w hw m0 m1 m2 n hn r PLn PG ix mi hmi q hq R K p (q.length - 1) 1 fu ks (by omega) (by omega) (by omega) hG
 rw[take1 (show 0<q.length by omega),show msOf l.el [q.getD 0 0]=[l.el (q.getD 0 0).toNat] from rfl,← gl_one rfl] at e
 rw[L33x5s]
 simp (disch:=omega) only[dT,decide_true,pT,gl_int (show 0<q.length by omega),tkCons_c,tkInt_i,wr (n:=0+1),Int.zero_add]
 exact e
theorem l33x14 (m0 m1 m2 n:Nat) (hn:n≤100) (r:List Int) (PLn:Nat) (PG:Nat→List V) (ix mi:Nat) (hmi:mi<100000) (NP:List (List Int)) (hNP:NP ≠ []) (hNPl:NP.length≤1000000) (q:List Int) (hq:RowOk l (n+1) q) (R:Option Out)
 (K:∀ (sk sa:Nat) (sg:Nat→List V) (p:Int) (ks:List GKey),Gs (lst l.el l.len) ks→EL (E F (d+17)) F c l w m0 m1 m2 n r PLn PG ix (mi+1) (NP ++ (bif fineB c l.el n q then [q] else [])) sk sa sg p (encM gK (gV c) ks)=R) (p:Int) :
 ∀ j i fu ks,i+j=q.length→1≤i→j<fu→Gs (lst l.el l.len) ks→L33x14 (E F (d+17)) F c l w m0 m1 m2 fu n NP.length (rb r) r.length (rwd r) (rg r) q.length PLn PLn ix mi q.length q.length i c.slices.nl c.slices.len 7 (fun u=>eSlc (c.slices.el u)) .i64 c.hold .i64 c.oil i .i64 p NP.length (rowG NP) q.length (gl eInt 0 q) PLn PG i (gl eStg z0 (msOf l.el (q.take i))) (encM gK (gV c) ks)=R:=by
 intro j
 induction j with
 |zero =>
  intro i fu ks h h1 hf hG
  obtain⟨fu,rfl⟩:=ex1 (n:=fu) (by omega)
  have hi:i=q.length:=by omega
  subst hi
  have hq1:=hq.1
  have hne:q ≠ []:=fun e=>by rw[e] at hq1;simp at hq1
  obtain⟨p',ks',x,y,z,hG',hx,e⟩:=s73p F d hc (by omega) hl (by omega) p n q (by omega) (by omega) hq.2 ks hG
  have k1:=K q.length q.length (fun i=>eStg (stgF (msOf l.el q) i)) p' ks' hG'
  have hS2:=wrS (i:=mi) (by omega)
  rw[show q.take q.length=q from List.take_length,L33x14s,dF (by omega),pF,glS]
  simp only[e,tkHv_h,tkTup_t,tkCons_c,tkInt_i,tkNil_n,tkSCons_c,tkBox_b,Nat.beq_refl,Bool.and_self,beq_self_eq_true,pT,samM2,samO1,tkArr_a,ks6,tkRow_r,tkMp_m,tkSNil_n,decide_true,hS2]
  cases hfn:fineB c l.el n q with
  |true =>
   rw[hfn] at k1 hx
   rw[← hx,pT]
   rw[cond_true] at k1
   rw[EL_own (by simp)] at k1
   have e3:=rowG_snoc NP q hne
   rw[List.length_append,List.length_singleton] at k1
   rw[← e3] at k1
   rw[dT (show (NP.length+1)*24≤140737488355328 by omega),pT]
   exact k1
  |false =>
   rw[hfn] at k1 hx
   rw[← hx,pF]
   rw[cond_false] at k1
   rw[EL_own (by simpa using hNP),List.append_nil] at k1
   exact k1
 |succ j ih =>
  intro i fu ks h h1 hf hG
  obtain⟨fu,rfl⟩:=ex1 (n:=fu) (by omega)
  have hq1:=hq.1
  have hir:i<q.length:=by omega
  have hi2:=rowOk_at hq hir
  have hwl:(q.take i).length=i:=by rw[List.length_take];omega
  have hS2:=wrS (i:=i) (by omega)
  have htk:q.take (i+1)=q.take i ++ [q.getD i 0]:=by
   rw[List.take_add_one,List.getElem?_eq_getElem hir,List.getD_eq_getElem?_getD,List.getElem?_eq_getElem hir];rfl
  have e:=ih (i+1) fu ks (by omega) (by omega) (by omega) hG
  rw[htk,msOf_snoc,← gl_snoc (e:=eStg) (z:=z0) (m:=l.el (q.getD i 0).toNat) (ms:=msOf l.el (q.take i)) (k:=i) (by rw[msOf_len,hwl]) rfl] at e
  rw[L33x14s]
  simp (disch:=omega) only[dT,decide_true,pT,tnC,gl_int hir,tkCons_c,tkInt_i,hS2]
  exact e
theorem l33x10 (m0 m1 m2 n:Nat) (hn:n≤100) (r:List Int) (PLn:Nat) (PG:Nat→List V) (ix mi:Nat) (hmi:mi<100000) (NP:List (List Int)) (hNP:NP ≠ []) (hNPl:NP.length≤1000000) (q:List Int) (hq:RowOk l (n+1) q) (R:Option Out)
 (K:∀ (sk sa:Nat) (sg:Nat→List V) (p:Int) (ks:List GKey),Gs (lst l.el l.len) ks→EL (E F (d+17)) F c l w m0 m1 m2 n r PLn PG ix (mi+1) (NP ++ (bif fineB c l.el n q then [q] else [])) sk sa sg p (encM gK (gV c) ks)=R) (p:Int) :
 ∀ fu ks,q.length<fu→Gs (lst l.el l.len) ks→L33x10 (E F (d+17)) F c l w m0 m1 m2 fu n NP.length (rb r) r.length (rwd r) (rg r) q.length PLn PLn ix mi q.length q.length c.slices.nl c.slices.len 7 (fun u=>eSlc (c.slices.el u)) .i64 c.hold .i64 c.oil .i64 p NP.length (rowG NP) q.length (gl eInt 0 q) PLn PG (encM gK (gV c) ks)=R:=by
 intro fu ks hf hG
 obtain⟨fu,rfl⟩:=ex1 (n:=fu) (by omega)
 have hq1:=hq.1
 have hi2:=rowOk_at hq (k:=0) (by omega)
 have e:=l33x14 F d hc hL hl hF w hw m0 m1 m2 n hn r PLn PG ix mi hmi NP hNP hNPl q hq R K p (q.length - 1) 1 fu ks (by omega) (by omega) (by omega) hG
 rw[take1 (show 0<q.length by omega),show msOf l.el [q.getD 0 0]=[l.el (q.getD 0 0).toNat] from rfl,← gl_one rfl] at e
 rw[L33x10s]
 simp (disch:=omega) only[dT,decide_true,pT,gl_int (show 0<q.length by omega),tkCons_c,tkInt_i,wr (n:=0+1),Int.zero_add]
 exact e
theorem l33xE (m0 m1 n:Nat) (hn:n≤10) (r:List Int) (hr:RowOk l n r) (PLn:Nat) (PG:Nat→List V) (ix:Nat) (hix:ix<100000) (R:Option Out) :
 ∀ j mi fu NP sk sa sg p ks,mi+j=l.len→j<fu→NP.length+j≤1000000→Gs (lst l.el l.len) ks →
 (∀ (sk sa:Nat) (sg:Nat→List V) (p:Int) (ks:List GKey),Gs (lst l.el l.len) ks→DL (E F (d+17)) F c l w m0 m1 n PLn PG (ix+1) (NP ++ nxtE c l.el n r j mi) sk sa sg p (encM gK (gV c) ks)=R) →
 EL (E F (d+17)) F c l w m0 m1 fu n r PLn PG ix mi NP sk sa sg p (encM gK (gV c) ks)=R:=by
 intro j
 induction j with
 |zero =>
  intro mi fu NP sk sa sg p ks h hf hNPl hG K
  obtain⟨fu,rfl⟩:=ex1 (n:=fu) (by omega)
  have k1:=K sk sa sg p ks hG
  have hS2:=wrS (i:=ix) (by omega)
  simp only[nxtE,List.append_nil] at k1
  cases NP with
  |nil =>
   show L33x9 (E F (d+17)) F c l w m0 m1 (fu+1) n (rb r) r.length (rwd r) (rg r) PLn PLn ix mi c.slices.nl c.slices.len 7 (fun u=>eSlc (c.slices.el u)) .i64 c.hold .i64 c.oil sk .i64 p PLn PG sa sg (encM gK (gV c) ks)=R
   rw[L33x9s,dF (by omega),pF,hS2]
   exact k1
  |cons a NP =>
   rw[EL_own (by simp),L33x8s,dF (by omega),pF,hS2]
   rw[DL_own (by simp)] at k1
   exact k1
 |succ j ih =>
  intro mi fu NP sk sa sg p ks h hf hNPl hG K
  obtain⟨fu,rfl⟩:=ex1 (n:=fu) (by omega)
  have hq:RowOk l (n+1) (r ++ [(mi:Int)]):=⟨by simp[hr.1],fun x hx=>by
   rcases List.mem_append.1 hx with hx | hx
   ·exact hr.2 x hx
   ·rw[List.mem_singleton] at hx;omega⟩
  have K5:∀ (sk sa:Nat) (sg:Nat→List V) (p:Int) (ks:List GKey),Gs (lst l.el l.len) ks→EL (E F (d+17)) F c l w m0 m1 fu n r PLn PG ix (mi+1) (NP ++ (bif fineB c l.el n (r ++ [(mi:Int)]) then [r ++ [(mi:Int)]] else [])) sk sa sg p (encM gK (gV c) ks)=R:=by
   intro sk sa sg p ks hG
   refine ih (mi+1) fu _ sk sa sg p ks (by omega) (by omega) ?_ hG ?_
   ·rw[List.length_append]
    cases fineB c l.el n (r ++ [(mi:Int)])<;>simp<;>omega
   ·intro sk sa sg p ks hG
    have:=K sk sa sg p ks hG
    rw[nxtE,← List.append_assoc] at this
    exact this
  cases NP with
   |nil =>
    show L33x9 (E F (d+17)) F c l w m0 m1 (fu+1) n (rb r) r.length (rwd r) (rg r) PLn PLn ix mi c.slices.nl c.slices.len 7 (fun u=>eSlc (c.slices.el u)) .i64 c.hold .i64 c.oil sk .i64 p PLn PG sa sg (encM gK (gV c) ks)=R
    rw[L33x9s,dT (by omega),pT]
    have e5:=l33x5 F d hc hL hl hF w hw m0 m1 fu n (by omega) r PLn PG ix mi (by omega) (r ++ [(mi:Int)]) hq R K5 p F ks (by rw[hq.1];omega) hG
    cases hr0:r with
    |nil =>
     rw[hr0] at e5
     simp only[s79n,rb,rwd,rg,List.length_nil,tkHv_h,tkSl_r,Nat.beq_refl,Bool.and_self,pT,tkSNil_n]
     rw[show gl eInt 0 ([] ++ [(mi:Int)])=fun _=>[V.int .i64 (mi:Int)] from (gl_one rfl).symm] at e5
     exact e5
    |cons b r0 =>
     have hne:r ≠ []:=by rw[hr0];simp
     rw[← hr0,rb_own hne,rw_own hne,rg_own hne]
     rw[rb_own hne,rw_own hne,rg_own hne,← gl_snoc (e:=eInt) (z:=0) (m:=(mi:Int)) (ms:=r) (k:=r.length) rfl rfl,List.length_append,List.length_singleton] at e5
     simp only[s79o F d r hne (by rw[hr.1];omega),tkHv_h,tkSl_o,Nat.beq_refl,Bool.and_self,beq_self_eq_true,pT,tkSCons_c,tkSNil_n,tkArr_a]
     rw[dT (show (r.length+1)*8≤140737488355328 by rw[hr.1];omega),pT]
     exact e5
   |cons a NP0 =>
    generalize hN:a :: NP0=NP at *
    have hNP:NP ≠ []:=by rw[← hN];simp
    rw[EL_own hNP,L33x8s,dT (by omega),pT]
    have e5:=l33x10 F d hc hL hl hF w hw m0 m1 fu n (by omega) r PLn PG ix mi (by omega) NP hNP (by omega) (r ++ [(mi:Int)]) hq R K5 p F ks (by rw[hq.1];omega) hG
    cases hr0:r with
    |nil =>
     rw[hr0] at e5
     simp only[s79n,rb,rwd,rg,List.length_nil,tkHv_h,tkSl_r,Nat.beq_refl,Bool.and_self,pT,tkSNil_n]
     rw[show gl eInt 0 ([] ++ [(mi:Int)])=fun _=>[V.int .i64 (mi:Int)] from (gl_one rfl).symm] at e5
     exact e5
    |cons b r0 =>
     have hne:r ≠ []:=by rw[hr0];simp
     rw[← hr0,rb_own hne,rw_own hne,rg_own hne]
     rw[rb_own hne,rw_own hne,rg_own hne,← gl_snoc (e:=eInt) (z:=0) (m:=(mi:Int)) (ms:=r) (k:=r.length) rfl rfl,List.length_append,List.length_singleton] at e5
     simp only[s79o F d r hne (by rw[hr.1];omega),tkHv_h,tkSl_o,Nat.beq_refl,Bool.and_self,beq_self_eq_true,pT,tkSCons_c,tkSNil_n,tkArr_a]
     rw[dT (show (r.length+1)*8≤140737488355328 by rw[hr.1];omega),pT]
     exact e5
theorem l33xD (m0 n:Nat) (hn:n≤10) (PL:List (List Int)) (hPL:∀ r ∈ PL,RowOk l n r) (hPLl:PL.length≤10000) (R:Option Out) :
 ∀ rest pre fu NP sk sa sg p ks,PL=pre ++ rest→rest.length<fu→NP.length+rest.length*6≤1000000→Gs (lst l.el l.len) ks →
 (∀ (sk sa:Nat) (sg:Nat→List V) (p:Int) (ks:List GKey),Gs (lst l.el l.len) ks→AL (E F (d+17)) F c l w m0 (n+1) (NP ++ nextP c l n rest) sk sa sg p (encM gK (gV c) ks)=R) →
 DL (E F (d+17)) F c l w m0 fu n PL.length (rowG PL) pre.length NP sk sa sg p (encM gK (gV c) ks)=R:=by
 intro rest
 induction rest with
 |nil =>
  intro pre fu NP sk sa sg p ks h hf hNPl hG K
  obtain⟨fu,rfl⟩:=ex1 (n:=fu) (by omega)
  have k1:=K sk sa sg p ks hG
  have hS2:=wrS (i:=n) (by omega)
  rw[List.append_nil] at h
  subst h
  simp only[nextP,List.flatMap_nil,List.append_nil] at k1
  cases NP with
  |nil =>
   show L33x13 (E F (d+17)) F c l w m0 (fu+1) n PL.length PL.length PL.length c.slices.nl c.slices.len 7 (fun u=>eSlc (c.slices.el u)) .i64 c.hold .i64 c.oil sk .i64 p PL.length (rowG PL) sa sg (encM gK (gV c) ks)=R
   rw[L33x13s,dF (by omega),pF,hS2]
   exact k1
  |cons a NP =>
   rw[DL_own (by simp),L33x12s,dF (by omega),pF,hS2]
   rw[AL_own (by simp)] at k1
   exact k1
 |cons r rest ih =>
  intro pre fu NP sk sa sg p ks h hf hNPl hG K
  obtain⟨fu,rfl⟩:=ex1 (n:=fu) (by omega)
  have hrow:=rowG_at h
  have hr:RowOk l n r:=hPL r (by rw[h];simp)
  have hplen:PL.length=pre.length+(rest.length+1):=by rw[h];simp
  have k1:EL (E F (d+17)) F c l w m0 fu F n r PL.length (rowG PL) pre.length 0 NP sk sa sg p (encM gK (gV c) ks)=R:=by
   refine l33xE F d hc hL hl hF w hw m0 fu n hn r hr PL.length (rowG PL) pre.length (by omega) R l.len 0 F NP sk sa sg p ks (by omega) (by omega) (by simp at hNPl;omega) hG ?_
   intro sk sa sg p ks hG
   have e:=ih (pre ++ [r]) fu (NP ++ nxtE c l.el n r l.len 0) sk sa sg p ks (by rw[h];simp) (by simpa using hf) ?_ hG ?_
   ·rw[List.length_append,List.length_singleton] at e
    exact e
   ·have:=nxtE_len c l.el n r l.len 0
    rw[List.length_append]
    simp at hNPl
    omega
   ·intro sk sa sg p ks hG
    have:=K sk sa sg p ks hG
    rw[show nextP c l n (r :: rest)=nxtE c l.el n r l.len 0 ++ nextP c l n rest from rfl,← List.append_assoc] at this
    exact this
  cases NP with
  |nil =>
   show L33x13 (E F (d+17)) F c l w m0 (fu+1) n PL.length PL.length pre.length c.slices.nl c.slices.len 7 (fun u=>eSlc (c.slices.el u)) .i64 c.hold .i64 c.oil sk .i64 p PL.length (rowG PL) sa sg (encM gK (gV c) ks)=R
   rw[L33x13s]
   simp (disch:=omega) only[dT,decide_true,pT,tnC,hrow,rowE,tkCons_c,tkRow_r]
   exact k1
  |cons a NP =>
   rw[EL_own (by simp)] at k1
   rw[DL_own (by simp),L33x12s]
   simp (disch:=omega) only[dT,decide_true,pT,tnC,hrow,rowE,tkCons_c,tkRow_r]
   exact k1
end
end Go.Sim.Le

namespace Go.Sim.Le
open Go.Proofs
variable (F d:Nat)
abbrev PN (c:Cav) (p:Int) (es:List (V × V)):List Slot:=[.box 108 [sl eSlc 7 c.slices,.int .i64 c.hold,.int .i64 c.oil,.row true 0 0 (fun _=>[]),.int .i64 p,.mapr 1] true,.mp true K6 es true]
theorem s1063 {c:Cav} (hc:CavOk c) (p:Int) (es:List (V × V)) (x y:Int) (hx:0≤x∧x≤2) (hF:400<F) :
 (E F (d+15)).hv 72 [.optr 0 0 0,.int .i64 ((0:Nat):Int),.agg [.int .i64 x,.int .i64 y]] (PN c p es)=some (.ret (.agg (eSpan (firstS c (meaS c x y) c.slices.len))),PN c p es):=by
 have hcl:=hc.1
 obtain⟨F,rfl⟩:=ex1 (n:=F) (by omega)
 have e7:=s113 (F+1) (d+13) c (by omega) x y hx hF
 have e8:=s92 (F+1) (d+12) c hc (meaS c x y) (meaOk c x y) (by omega)
 simp only[eMea] at e7 e8
 rw[E_hv,t1063]
 simp (disch:=omega) only[e7,e8,tkOut_ret,tkAgg_a,tkCons_c,tkInt_i,tkRow_r,tkNil_n,pT,dT,decide_true,tnC]
 rw[L1063x0s,dF (by simp),pF]
theorem l783 {c:Cav} (hc:CavOk c) (l:Nat→Stg) (p:Int) (w:Sl Int) (hw:w.len≤c.slices.len) (hF:400<F) (es0:List (V × V)) (es:List (V × V)):∀ j i fu,i+j=w.len→j<fu →
 L783x0 (E F (d+15)) F c p es0 w fu i es=some (.ret (.bool (allF (fun i=>decide (w.el i≤(boundS c l (meaS c 2 i) 0).lo)) j i)),PN c p es):=by
 have hcl:=hc.1
 intro j
 induction j with
 |zero =>
  intro i fu h hf
  obtain⟨fu,rfl⟩:=ex1 (n:=fu) (by omega)
  rw[L783x0s,dF (by omega),pF]
  rfl
 |succ j ih =>
  intro i fu h hf
  obtain⟨fu,rfl⟩:=ex1 (n:=fu) (by omega)
  have e1:=s1063 F d hc p es 2 i (by omega) hF
  have e2:=ih (i+1) fu (by omega) (by omega)
  have hS2:=wrS (i:=i) (by omega)
  rw[L783x0s]
  simp (disch:=omega) only[dT,decide_true,pT,tnC,hS2]
  simp only[e1,tkHv_h,tkAgg_a,tkTup_t,tkCons_c,tkInt_i,tkBool_b,tkNil_n,tkSCons_c,tkBox_b,Nat.beq_refl,Bool.and_self,beq_self_eq_true,pT,samM1,ks6,tkRow_r,tkMp_m,tkSNil_n,tkSame_s,decide_true]
  by_cases hw:(boundS c l (meaS c 2 i) 0).lo<w.el i
  ·rw[dT (show (firstS c (meaS c 2 i) c.slices.len).lo<w.el i from hw),pT]
   simp only[allF,dF (show ¬ w.el i≤_ from Int.not_le.2 hw),Bool.false_and]
  ·rw[dF (show ¬ (firstS c (meaS c 2 i) c.slices.len).lo<w.el i from hw),pF]
   simp only[allF,dT (Int.not_lt.1 hw),Bool.true_and]
   exact e2
theorem s783 {c:Cav} (hc:CavOk c) (l:Nat→Stg) (p:Int) (w:Sl Int) (hw:w.len≤c.slices.len) (hF:400<F) (es:List (V × V)) :
 (E F (d+17)).hv 49 [.optr 0 0 0,sl eInt 1 w] (PN c p es)=some (.ret (.bool (makesB c l w [])),PN c p es):=by
 have hcl:=hc.1
 have e:=l783 F (d+1) hc (stgF (msOf l [])) p w hw hF es es w.len 0 F (by omega) (by omega)
 rw[show d+17=(d+16)+1 from rfl,E_hv,t783]
 exact e
section
variable {c:Cav} (hc:CavOk c) {l:Sl Stg} (hL:l.len≤6) (hl:∀ i,i<l.len→StgOk c.slices.len (l.el i)) (hF:100000<F) (w:Sl Int) (hw:w.len≤c.slices.len)
include hc hL hl hF hw
theorem l33x17 (n:Nat) (hn:1≤n∧n≤5) (PL:List (List Int)) (hPL:∀ r ∈ PL,RowOk l n r) (hPLl:PL.length≤10000) (m0:Nat) (Rn:Out) (h5:n=5→Rn=planOut none) :
 ∀ rest pre acc fu sk sa sg p ks,PL=pre ++ rest→rest.length<fu→Gs (lst l.el l.len) ks→(∀ b a,acc=some (b,a)→0≤a) →
 (rest.foldl (bestA c l.el w) acc=none→n ≠ 5→∀ (sk sa:Nat) (sg:Nat→List V) (p:Int) (ks:List GKey),Gs (lst l.el l.len) ks→L33x13 (E F (d+17)) F c l w m0 F n PL.length PL.length 0 c.slices.nl c.slices.len 7 (fun u=>eSlc (c.slices.el u)) .i64 c.hold .i64 c.oil sk .i64 p PL.length (rowG PL) sa sg (encM gK (gV c) ks)=some Rn) →
 L33x17 (E F (d+17)) F c l w m0 fu PL.length n (rb (aR acc)) (aR acc).length (rwd (aR acc)) (rg (aR acc)) (aL acc) PL.length PL.length pre.length c.slices.nl c.slices.len 7 (fun u=>eSlc (c.slices.el u)) .i64 c.hold .i64 c.oil sk .i64 p PL.length (rowG PL) sa sg (encM gK (gV c) ks)
  = some (match rest.foldl (bestA c l.el w) acc with | some (b,_)=>planOut (some b) | none=>Rn):=by
 intro rest
 induction rest with
 |nil =>
  intro pre acc fu sk sa sg p ks h hf hG hacc K
  obtain⟨fu,rfl⟩:=ex1 (n:=fu) (by omega)
  rw[List.append_nil] at h
  subst h
  rw[L33x17s,dF (by omega),pF]
  cases hac:acc with
  |some ba =>
   obtain⟨b,a⟩:=ba
   rw[show aL (some (b,a))=a from rfl,dT (hacc b a hac),pT]
   rfl
  |none =>
   rw[show aL none = -1 from rfl,dF (by omega),pF]
   by_cases hn5:n=5
   ·rw[show ((n:Int)==5)=true by rw[beq_iff_eq];omega,pT]
    show _=some Rn
    rw[h5 hn5];rfl
   ·rw[show ((n:Int)==5)=false by rw[beq_eq_false_iff_ne];omega,pF]
    exact K (by rw[hac];rfl) hn5 sk sa sg p ks hG
 |cons r rest ih =>
  intro pre acc fu sk sa sg p ks h hf hG hacc K
  obtain⟨fu,rfl⟩:=ex1 (n:=fu) (by omega)
  have hrow:=rowG_at h
  have hr:RowOk l n r:=hPL r (by rw[h];simp)
  have hplen:PL.length=pre.length+(rest.length+1):=by rw[h];simp
  have hr1:=hr.1
  have hne:r ≠ []:=fun e=>by rw[e] at hr1;simp at hr1;omega
  have hir:0<r.length:=by omega
  have hi2:=rowOk_at hr hir
  have hws:=(hl (r.getD 0 0).toNat (by omega)).1
  have hacc':∀ b a,bestA c l.el w acc r=some (b,a)→0≤a:=by
   intro b a hb
   have hwt:=(watS_in hl r hr.2).1
   unfold bestA at hb
   cases hmk:makesB c l.el w r with
   |false=>rw[hmk,cond_false] at hb;exact hacc b a hb
   |true =>
    rw[hmk,cond_true] at hb
    cases hac:acc with
    |none=>rw[hac] at hb;injection hb with hb;injection hb with _ hb;omega
    |some ba =>
     obtain⟨b',a'⟩:=ba
     rw[hac] at hb
     have hb':(bif decide (watS l.el r<a') then some (r,watS l.el r) else some (b',a'))=some (b,a):=hb
     cases hd:decide (watS l.el r<a') with
     |true=>rw[hd,cond_true] at hb';injection hb' with hb';injection hb' with _ hb';omega
     |false=>rw[hd,cond_false] at hb';injection hb' with hb';injection hb' with _ hb';have:=hacc b' a' hac;omega
  obtain⟨F,rfl⟩:=ex1 (n:=F) (by omega)
  have e:=l33x20 (F+1) d hc (by omega) hl hF w hw m0 fu n (by omega) PL.length (rowG PL) acc r hr pre.length (by omega) p (some (match (r :: rest).foldl (bestA c l.el w) acc with | some (b,_)=>planOut (some b) | none=>Rn)) (fun p ks hG=>by
   have:=ih (pre ++ [r]) (bestA c l.el w acc r) fu r.length r.length (fun i=>eStg (stgF (msOf l.el r) i)) p ks (by rw[h];simp) (by simpa using hf) hG hacc' K
   rw[List.length_append,List.length_singleton] at this
   exact this) hacc (n - 1) 1 F ks (by omega) (by omega) (by omega) hG
  rw[take1 hir,show msOf l.el [r.getD 0 0]=[l.el (r.getD 0 0).toNat] from rfl,← gl_one rfl,show watS l.el [r.getD 0 0]=(l.el (r.getD 0 0).toNat).water by simp[watS]] at e
  rw[L33x17s]
  simp (disch:=omega) only[dT,decide_true,pT,tnC,hrow,rowE,tkCons_c,tkRow_r]
  rw[rb_own hne,rw_own hne,rg_own hne,L33x2s]
  simp (disch:=omega) only[dT,decide_true,pT,tnC,show ((1:Nat)==1)=true from rfl,gl_int hir,tkCons_c,tkInt_i,Int.zero_add,wr]
  rw[hr1]
  exact e
theorem nextP_pow {n:Nat} {PL:List (List Int)} (h:PL.length≤6 ^ n):(nextP c l n PL).length≤6 ^ (n+1):=by
 have h1:=nextP_len c l n PL
 have h2:PL.length*l.len≤6 ^ n*6:=Nat.mul_le_mul h hL
 rw[Nat.pow_succ]
 omega
theorem l33xA:∀ t n fu NP sk sa sg p ks,n+t=5→1≤n→t<fu→NP.length≤6 ^ n→(∀ r ∈ NP,RowOk l n r)→Gs (lst l.el l.len) ks →
 AL (E F (d+17)) F c l w fu n NP sk sa sg p (encM gK (gV c) ks)=some (planOut (planF c l w t n NP)):=by
 intro t
 induction t with
 |zero =>
  intro n fu NP sk sa sg p ks h h1 hf hlen hPL hG
  obtain⟨fu,rfl⟩:=ex1 (n:=fu) (by omega)
  have hn:n=5:=by omega
  subst hn
  cases NP with
  |nil =>
   show L33x16 (E F (d+17)) F c l w (fu+1) (5:Nat) c.slices.nl c.slices.len 7 (fun u=>eSlc (c.slices.el u)) .i64 c.hold .i64 c.oil sk .i64 p sa sg (encM gK (gV c) ks)=_
   obtain⟨F,rfl⟩:=ex1 (n:=F) (by omega)
   rw[L33x16s,L33x18s]
   rfl
  |cons a NP =>
   rw[AL_own (by simp),L33x15s]
   generalize a :: NP=PL at *
   have e:=l33x17 F d hc hL hl hF w hw 5 (by omega) PL hPL (by omega) fu (planOut none) (fun _=>rfl) PL [] none F sk sa sg p ks rfl (by omega) hG (fun _ _ h=>by cases h) (fun _ h=>(h rfl).elim)
   refine Eq.trans e ?_
   unfold planF
   cases PL.foldl (bestA c l.el w) none with
   |none=>rfl
   |some ba=>rfl
 |succ t ih =>
  intro n fu NP sk sa sg p ks h h1 hf hlen hPL hG
  obtain⟨fu,rfl⟩:=ex1 (n:=fu) (by omega)
  have hpow:6 ^ n≤6 ^ 4:=Nat.pow_le_pow_right (by omega) (by omega)
  have hpow':(6:Nat) ^ 4=1296:=rfl
  cases hNP:NP with
  |nil =>
   show L33x16 (E F (d+17)) F c l w (fu+1) n c.slices.nl c.slices.len 7 (fun u=>eSlc (c.slices.el u)) .i64 c.hold .i64 c.oil sk .i64 p sa sg (encM gK (gV c) ks)=_
   have e:=ih (n+1) fu [] sk sa sg p ks (by omega) (by omega) (by omega) (by simp) (by simp) hG
   have hS2:=wrS (i:=n) (by omega)
   obtain⟨F,rfl⟩:=ex1 (n:=F) (by omega)
   rw[L33x16s,L33x18s,show ((n:Int)==5)=false by rw[beq_eq_false_iff_ne];omega,pF,L33x19s,hS2]
   exact e
  |cons a NP0 =>
   rw[AL_own (by simp),L33x15s]
   rw[← hNP]
   have e:=l33x17 F d hc hL hl hF w hw n (by omega) NP hPL (by omega) fu (planOut (planF c l w t (n+1) (nextP c l n NP))) (fun h=>by omega) NP [] none F sk sa sg p ks rfl (by omega) hG (fun _ _ h=>by cases h) (fun _ _ sk sa sg p ks hG=>by
    have eD:=l33xD F d hc hL hl hF w hw fu n (by omega) NP hPL (by omega) (some (planOut (planF c l w t (n+1) (nextP c l n NP)))) NP [] F [] sk sa sg p ks rfl (by omega) (by simp;omega) hG (fun sk sa sg p ks hG=>by
     rw[List.nil_append]
     exact ih (n+1) fu (nextP c l n NP) sk sa sg p ks (by omega) (by omega) (by omega) (nextP_pow F hc hL hl hF w hw hlen) (nextP_ok hPL) hG)
    exact eD)
   refine Eq.trans e ?_
   rw[show planF c l w (t+1) n NP=(match NP.foldl (bestA c l.el w) none with | some (b,_)=>some b | none=>planF c l w t (n+1) (nextP c l n NP)) from rfl]
   cases NP.foldl (bestA c l.el w) none with
   |none=>rfl
   |some ba=>rfl
def planX (c:Cav) (l:Sl Stg) (w:Sl Int):Option (List Int):=planF c l w 5 0 [[]]
theorem l33x0 (hl0:1≤l.len):L33x0 (E F (d+17)) F c l w F 1 0 c.slices.nl c.slices.len 7 (fun u=>eSlc (c.slices.el u)) .i64 c.hold .i64 c.oil true 0 0 (fun _=>[]) .i64 0 1 (fun _=>[.row true 0 0 (fun _=>[])]) []=some (planOut (planX c l w)):=by
 obtain⟨F,rfl⟩:=ex1 (n:=F) (by omega)
 have hG0:Gs (lst l.el l.len) []:=⟨List.nodup_nil,by simp⟩
 have e78:=s783 (F+1) d hc l.el 0 w hw (by omega) []
 have hfold:[[]].foldl (bestA c l.el w) none=bif makesB c l.el w [] then some ([],0) else none:=by
  show bestA c l.el w none []=_
  unfold bestA
  cases makesB c l.el w []<;>rfl
 have hplan:planX c l w=bif makesB c l.el w [] then some [] else planF c l w 4 1 (nextP c l 0 [[]]):=by
  show (match [[]].foldl (bestA c l.el w) none with | some (b,_)=>some b | none=>planF c l w 4 1 (nextP c l 0 [[]]))=_
  rw[hfold]
  cases makesB c l.el w []<;>rfl
 rw[hplan]
 obtain⟨F,rfl⟩:=ex1 (n:=F) (by omega)
 rw[L33x0s,L33x1s]
 simp (disch:=omega) only[dT,decide_true,pT,tkCons_c,tkRow_r]
 rw[L33x2s,dF (by omega),pF]
 simp only[PN] at e78
 simp only[e78,tkHv_h,tkAgg_a,tkTup_t,tkCons_c,tkInt_i,tkBool_b,tkNil_n,tkSCons_c,tkBox_b,Nat.beq_refl,Bool.and_self,beq_self_eq_true,pT,samM1,ks6,tkRow_r,tkMp_m,tkSNil_n,tkSame_s,decide_true,samM1]
 cases hmk:makesB c l.el w [] with
 |true =>
  rw[Bool.not_true,pF,dT (by omega),pT,L33x1s,dF (by rw[wr (by omega)];omega),pF,dT (by omega),pT]
  rfl
 |false =>
  rw[Bool.not_false,pT,L33x1s,dF (by rw[wr (by omega)];omega),pF,dF (by omega),pF,show ((0:Int)==5)=false from rfl,pF,L33x3s]
  simp (disch:=omega) only[dT,decide_true,pT,tkCons_c,tkRow_r]
  rw[L33x4s,dT (by omega),pT]
  simp only[s79n,tkHv_h,tkSl_r,Nat.beq_refl,Bool.and_self,pT,tkSNil_n]
  have hq:RowOk l (0+1) ([(0:Int)]):=⟨rfl,fun x hx=>by rw[List.mem_singleton] at hx;omega⟩
  have hr0:RowOk l 0 []:=⟨rfl,by simp⟩
  have hPL0:∀ r ∈ ([[]]:List (List Int)),RowOk l 0 r:=fun r hr=>by rw[List.mem_singleton] at hr;rw[hr];exact hr0
  have e5:=l33x5 (F+1+1) d hc hL hl hF w hw (F+1) (F+1) (F+1) 0 (by omega) [] 1 (rowG [[]]) 0 0 (by omega) [(0:Int)] hq (some (planOut (planF c l w 4 1 (nextP c l 0 [[]])))) (fun sk sa sg p ks hG=>by
   refine l33xE (F+1+1) d hc hL hl hF w hw (F+1) (F+1) 0 (by omega) [] hr0 1 (rowG [[]]) 0 (by omega) _ (l.len - 1) 1 (F+1) _ sk sa sg p ks (by omega) (by omega) ?_ hG ?_
   ·cases fineB c l.el 0 [(0:Int)]<;>simp<;>omega
   ·intro sk sa sg p ks hG
    have hnx:([] ++ (bif fineB c l.el 0 [(0:Int)] then [[(0:Int)]] else [])) ++ nxtE c l.el 0 [] (l.len - 1) 1=nextP c l 0 [[]]:=by
     obtain⟨m,hm⟩:∃ m,l.len=m+1:=⟨l.len - 1,by omega⟩
     unfold nextP
     rw[List.flatMap_cons,List.flatMap_nil,List.append_nil,hm]
     rfl
    have eD:=l33xD (F+1+1) d hc hL hl hF w hw (F+1) 0 (by omega) [[]] hPL0 (by simp) (some (planOut (planF c l w 4 1 (nextP c l 0 [[]])))) [] [[]] (F+1) (nextP c l 0 [[]]) sk sa sg p ks rfl (by simp) ?_ hG (fun sk sa sg p ks hG=>by
     rw[show nextP c l 0 []=[] from rfl,List.append_nil]
     refine l33xA (F+1+1) d hc hL hl hF w hw 4 1 (F+1) (nextP c l 0 [[]]) sk sa sg p ks (by omega) (by omega) (by omega) ?_ (nextP_ok hPL0) hG
     have:=nextP_len c l 0 [[]]
     simp at this
     simp
     omega)
    ·rw[hnx]
     exact eD
    ·have:=nextP_len c l 0 [[]]
     simp at this
     simp
     omega) 0 (F+1+1) [] (by simp) hG0
  simp only[rb,rwd,rg,List.length_nil,List.length_singleton,encM,List.map,show gl eInt 0 [(0:Int)]=fun _=>[V.int .i64 (0:Int)] from (gl_one rfl).symm,show rowG [[]]=fun _=>[V.row true 0 0 fun _=>[]] from (gl_one rfl).symm] at e5
  exact e5
end
theorem errM_0 {c:Cav} {l:Sl Stg} {w:Sl Int}:errM c l w=0↔l.len≤6∧CavOk c∧1≤l.len∧(∀ i,i<l.len→StgOk c.slices.len (l.el i))∧WantOk c w:=by
 unfold errM
 split
 ·exact⟨fun h=>by omega,fun h=>by omega⟩
 ·split
  ·rename_i h1 h2
   exact⟨fun _=>⟨by omega,h2.1,by omega,h2.2.2.1,h2.2.2.2⟩,fun _=>rfl⟩
  ·rename_i h1 h2
   exact⟨fun h=>by omega,fun h=>(h2 ⟨h.2.1,by omega,h.2.2.2.1,h.2.2.2.2⟩).elim⟩
theorem s33 (c:Cav) (l:Sl Stg) (w:Sl Int) (hC:c.slices.len<Big) (hCF:c.slices.len<F) (hB:l.len<Big) (hLF:l.len<F) (hW:w.len<Big) (hWF:w.len<F) (hF:100000<F) :
 (E F (d+18)).pf 21 [.agg (eCav c),sl eStg 4 l,sl eInt 1 w]=some (if errM c l w=0 then planOut (planX c l w) else .ret (.tup [.row true 0 0 (fun _=>[]),.int .i64 (errM c l w)])):=by
 rw[E_pf,t33]
 simp only[s77 F (d+10) c l w hC hCF hB hLF hW hWF,tkOut_ret,tkInt_i,decide_true,pT]
 by_cases h0:errM c l w=0
 ·rw[h0,show ((0:Int) != 0)=false from rfl,pF]
  obtain⟨h6,hc,h1,hl,hw⟩:=errM_0.1 h0
  rw[if_pos rfl]
  exact l33x0 F d hc h6 hl hF w (by rw[hw.2];exact Nat.le_refl _) h1
 ·have e1:(errM c l w != 0)=true:=by simpa using h0
  rw[e1,pT,if_neg h0]
end Go.Sim.Le

namespace Go.Sim.Le
open Go.Proofs
def gcdI (a b:Int):Int:=((Nat.gcd a.toNat b.toNat:Nat):Int)
theorem gcdI_zero {a:Int} (h:0≤a):gcdI a 0=a:=by
 unfold gcdI
 rw[Int.toNat_zero,Nat.gcd_zero_right]
 omega
theorem gcdI_comm (a b:Int):gcdI a b=gcdI b a:=by unfold gcdI;rw[Nat.gcd_comm]
theorem gcdI_mod {a b:Int} (ha:0≤a) (hb:0≤b):gcdI a b=gcdI b (a % b):=by
 unfold gcdI
 rw[Int.toNat_emod ha hb,Nat.gcd_comm,Nat.gcd_rec,Nat.gcd_comm]
theorem gcdI_pos {a b:Int} (h:0<b):0<gcdI a b:=by
 unfold gcdI
 have:=Nat.gcd_pos_of_pos_right a.toNat (n:=b.toNat) (by omega)
 omega
theorem gcdI_dvd {a b:Int} (ha:0≤a) (hb:0≤b):gcdI a b ∣ a∧gcdI a b ∣ b:=by
 unfold gcdI
 have h1:=Int.ofNat_dvd.2 (Nat.gcd_dvd_left a.toNat b.toNat)
 have h2:=Int.ofNat_dvd.2 (Nat.gcd_dvd_right a.toNat b.toNat)
 rw[Int.toNat_of_nonneg ha] at h1
 rw[Int.toNat_of_nonneg hb] at h2
 exact⟨h1,h2⟩
theorem gcdI_mul {w a b:Int} (hw:0≤w) (ha:0≤a) (hb:0≤b):gcdI (w*a) (w*b)=w*gcdI a b:=by
 unfold gcdI
 rw[Int.toNat_mul hw ha,Int.toNat_mul hw hb,Nat.gcd_mul_left]
 rw[Int.natCast_mul,Int.toNat_of_nonneg hw]
def fracF (x y:Int):Int × Int:=(x / gcdI x y,y / gcdI x y)
theorem fracF_mul {w a b:Int} (hw:0<w) (ha:0≤a) (hb:0<b):fracF (w*a) (w*b)=fracF a b:=by
 unfold fracF
 rw[gcdI_mul (by omega) ha (by omega),Int.mul_ediv_mul_of_pos _ _ hw,Int.mul_ediv_mul_of_pos _ _ hw]
theorem div_in {x g:Int} (hx:0≤x) (hg:0<g):0≤x / g∧x / g≤x:=⟨Int.ediv_nonneg hx (by omega),Int.ediv_le_self g hx⟩
theorem fracF_eq {a b x y:Int} (ha:0≤a) (hb:0<b) (hx:0≤x) (hy:0<y) (h:a*y=x*b):fracF a b=fracF x y:=by
 rw[← fracF_mul hy ha hb,← fracF_mul hb hx hy,Int.mul_comm y a,h,Int.mul_comm y b,Int.mul_comm b x]
theorem fracF_le {a b x y:Int} (ha:0≤a) (hb:0<b) (hx:0≤x) (hy:0<y):(fracF a b).1*(fracF x y).2≤(fracF x y).1*(fracF a b).2↔a*y≤x*b:=by
 obtain⟨⟨a',e1⟩,b',e2⟩:=gcdI_dvd ha (by omega:0≤b)
 obtain⟨⟨x',e3⟩,y',e4⟩:=gcdI_dvd hx (by omega:0≤y)
 have g1:=gcdI_pos (a:=a) hb
 have g2:=gcdI_pos (a:=x) hy
 unfold fracF
 generalize gcdI a b=g at *
 generalize gcdI x y=k at *
 simp only
 have f1:a / g=a':=by rw[e1];exact Int.mul_ediv_cancel_left _ (by omega)
 have f2:b / g=b':=by rw[e2];exact Int.mul_ediv_cancel_left _ (by omega)
 have f3:x / k=x':=by rw[e3];exact Int.mul_ediv_cancel_left _ (by omega)
 have f4:y / k=y':=by rw[e4];exact Int.mul_ediv_cancel_left _ (by omega)
 rw[f1,f2,f3,f4]
 have e5:a*y=(g*k)*(a'*y'):=by rw[e1,e4,Int.mul_assoc,Int.mul_assoc,Int.mul_left_comm a' k y']
 have e6:x*b=(g*k)*(x'*b'):=by rw[e2,e3,Int.mul_comm g k,Int.mul_assoc,Int.mul_assoc,Int.mul_left_comm x' g b']
 rw[e5,e6]
 exact (Int.mul_le_mul_left (Int.mul_pos g1 g2)).symm
variable (F d:Nat)
theorem l69 (x y:Int) (hx:0≤x) (hy:0<y) (hx2:x≤9223372036854775807) (hy2:y≤9223372036854775807):∀ (fu:Nat) (a b:Int),0≤a→0≤b→b<fu→gcdI a b=gcdI x y →
 L69x0 (E F d) F x y fu a b=some (.ret (.agg [.int .i64 (fracF x y).1,.int .i64 (fracF x y).2])):=by
 intro fu
 induction fu with
 |zero=>intro a b ha hb h;omega
 |succ fu ih =>
  intro a b ha hb h hg
  rw[L69x0s]
  by_cases hb0:b=0
  ·subst hb0
   rw[gcdI_zero ha] at hg
   have hgp:=gcdI_pos (a:=x) hy
   have h1:=div_in hx hgp
   have h2:=div_in (Int.le_of_lt hy) hgp
   rw[show ((0:Int) != 0)=false from rfl,pF,dF (by omega),pF,pF,Int.tdiv_eq_ediv_of_nonneg hx,Int.tdiv_eq_ediv_of_nonneg (by omega),hg,wr (by omega),wr (by omega)]
   rfl
  ·have hr0:0≤a % b:=Int.emod_nonneg a hb0
   have hr1:a % b<b:=Int.emod_lt_of_pos a (by omega)
   rw[show (b != 0)=true by simpa using hb0,pT,dF hb0,pF,Int.tmod_eq_emod_of_nonneg ha]
   exact ih b (a % b) hb hr0 (by omega) (by rw[← gcdI_mod ha hb];exact hg)
theorem s69 (d:Nat) (x y:Int) (hx:0≤x) (hy:0<y) (hF:x<F) (hx2:x≤9223372036854775807) (hy2:y≤9223372036854775807):(E F (d+1)).pf 46 [.int .i64 x,.int .i64 y]=some (.ret (.agg [.int .i64 (fracF x y).1,.int .i64 (fracF x y).2])):=by
 rw[E_pf,t69]
 exact l69 F d x y hx hy hx2 hy2 F y x (by omega) hx hF (gcdI_comm _ _)
end Go.Sim.Le

namespace Go.Sim.Le
open Go.Proofs
def oAt (c:Cav) (s:Stg) (k:Nat):Int:=(slAt c s k).opn - (slAt c s k).fall
inductive Reach (c:Cav) (s:Stg):Nat→Int→Int→Prop where
 |zero:Reach c s 0 0 0
 |step {k h r n}:Reach c s k h r→min (slAt c s k).rate.lo (c.hold - h)≤n→n≤min (slAt c s k).rate.hi (c.hold - h)→Reach c s (k+1) (h+n) (r+n*oAt c s k)
def lowT (c:Cav) (s:Stg):Nat→Int × Int
 |0=>(0,0)
 |k+1=>((lowT c s k).1+min (slAt c s k).rate.lo (c.hold - (lowT c s k).1),(lowT c s k).2+min (slAt c s k).rate.lo (c.hold - (lowT c s k).1)*oAt c s k)
def highT (c:Cav) (s:Stg):Nat→Int × Int
 |0=>(0,0)
 |k+1=>((highT c s k).1+min (slAt c s k).rate.hi (c.hold - (highT c s k).1),(highT c s k).2+min (slAt c s k).rate.hi (c.hold - (highT c s k).1)*oAt c s k)
def numOf (c:Cav) (h r:Int):Int:=1000000*h - c.hold*r
def denOf (r:Int):Int:=1000000 - r
section
variable {c:Cav} (hc:CavOk c) {s:Stg} (hs:StgOk c.slices.len s)
include hc hs
theorem rate_at {k:Nat} (h:k<pathN s):0≤(slAt c s k).rate.lo∧(slAt c s k).rate.lo≤(slAt c s k).rate.hi∧(slAt c s k).rate.hi≤300∧1≤oAt c s k∧oAt c s k≤3000:=by
 obtain⟨_,h1,h2,h3,_⟩:=slcOk_at hc hs h
 unfold SpanIn at h3
 unfold oAt
 omega
theorem mulo {k:Nat} (h:k<pathN s) {n:Int} (hn:0≤n):n≤n*oAt c s k∧n*oAt c s k≤3000*n:=by
 have ho:=rate_at hc hs h
 have h1:=Int.mul_le_mul_of_nonneg_left ho.2.2.2.1 hn
 have h2:=Int.mul_le_mul_of_nonneg_left ho.2.2.2.2 hn
 omega
theorem reach_in {k:Nat} {h r:Int} (H:Reach c s k h r):k≤pathN s→0≤h∧h≤c.hold∧0≤r∧r≤3000*h:=by
 induction H with
 |zero=>intro _;have:=hc.2.1;omega
 |@step k h r n H h1 h2 ih =>
  intro hk
  have i:=ih (by omega)
  have ho:=rate_at hc hs (k:=k) (by omega)
  have hm:=mulo hc hs (k:=k) (by omega) (n:=n) (by omega)
  omega
theorem low_reach:∀ k,k≤pathN s→Reach c s k (lowT c s k).1 (lowT c s k).2:=by
 intro k
 induction k with
 |zero=>intro _;exact .zero
 |succ k ih =>
  intro h
  have i:=ih (by omega)
  have ho:=rate_at hc hs (k:=k) (by omega)
  exact .step i (by omega) (by omega)
theorem high_reach:∀ k,k≤pathN s→Reach c s k (highT c s k).1 (highT c s k).2:=by
 intro k
 induction k with
 |zero=>intro _;exact .zero
 |succ k ih =>
  intro h
  have i:=ih (by omega)
  have ho:=rate_at hc hs (k:=k) (by omega)
  exact .step i (by omega) (by omega)
theorem low_least {k:Nat} {h r:Int} (H:Reach c s k h r):k≤pathN s→h<c.hold→(lowT c s k).1≤h∧(lowT c s k).2≤r∧r - (lowT c s k).2≤3000*(h - (lowT c s k).1):=by
 induction H with
 |zero=>intro _ _;simp[lowT]
 |@step k h r n H h1 h2 ih =>
  intro hk hlt
  have hin:=reach_in hc hs H (by omega)
  have hL:=reach_in hc hs (low_reach hc hs k (by omega)) (by omega)
  have ho:=rate_at hc hs (k:=k) (by omega)
  have i:=ih (by omega) (by omega)
  have hm:=mulo hc hs (k:=k) (by omega) (n:=n - min (slAt c s k).rate.lo (c.hold - (lowT c s k).1)) (by omega)
  rw[Int.sub_mul] at hm
  simp only[lowT]
  omega
theorem high_most {k:Nat} {h r:Int} (H:Reach c s k h r):k≤pathN s→(highT c s k).1<c.hold→h≤(highT c s k).1∧r≤(highT c s k).2∧(highT c s k).2 - r≤3000*((highT c s k).1 - h):=by
 induction H with
 |zero=>intro _ _;simp[highT]
 |@step k h r n H h1 h2 ih =>
  intro hk hlt
  simp only[highT] at hlt
  have hin:=reach_in hc hs H (by omega)
  have hL:=reach_in hc hs (high_reach hc hs k (by omega)) (by omega)
  have ho:=rate_at hc hs (k:=k) (by omega)
  have i:=ih (by omega) (by omega)
  have hm:=mulo hc hs (k:=k) (by omega) (n:=min (slAt c s k).rate.hi (c.hold - (highT c s k).1) - n) (by omega)
  rw[Int.sub_mul] at hm
  simp only[highT]
  omega
omit hs in
theorem more_strong {h r h' r':Int} (h1:h≤h') (h2:h'≤c.hold) (h3:r' - r≤3000*(h' - h)) (h5:r'≤3000*h'):(c.hold - h')*denOf r≤(c.hold - h)*denOf r':=by
 have hH:=hc.2.1
 unfold denOf
 have e1:(c.hold - h)*(1000000 - r') - (c.hold - h')*(1000000 - r)=(h' - h)*(1000000 - r') - (c.hold - h')*(r' - r):=by
  simp only[Int.sub_mul,Int.mul_sub];omega
 have e2:(c.hold - h')*(r' - r)≤(c.hold - h')*(3000*(h' - h)):=Int.mul_le_mul_of_nonneg_left h3 (by omega)
 have e3:(c.hold - h')*(3000*(h' - h))=(h' - h)*(3000*(c.hold - h')):=by simp only[Int.mul_comm,Int.mul_left_comm]
 have e4:(h' - h)*(3000*(c.hold - h'))≤(h' - h)*(1000000 - r'):=Int.mul_le_mul_of_nonneg_left (by omega) (by omega)
 omega
omit hs in
theorem num_le (h r h' r':Int):numOf c h r*denOf r'≤numOf c h' r'*denOf r↔(c.hold - h')*denOf r≤(c.hold - h)*denOf r':=by
 have e1:numOf c h r=c.hold*denOf r - 1000000*(c.hold - h):=by unfold numOf denOf;rw[Int.mul_sub];omega
 have e2:numOf c h' r'=c.hold*denOf r' - 1000000*(c.hold - h'):=by unfold numOf denOf;rw[Int.mul_sub];omega
 rw[e1,e2,Int.sub_mul,Int.sub_mul,Int.mul_right_comm c.hold (denOf r) (denOf r'),Int.mul_assoc 1000000,Int.mul_assoc 1000000]
 omega
theorem num_den {k:Nat} {h r:Int} (H:Reach c s k h r) (hk:k≤pathN s):0≤numOf c h r∧numOf c h r≤300000000∧100000≤denOf r∧denOf r≤1000000:=by
 have hi:=reach_in hc hs H hk
 have hH:=hc.2.1
 have h1:c.hold*r≤300*r:=Int.mul_le_mul_of_nonneg_right hH.2 hi.2.2.1
 have h2:0≤c.hold*r:=Int.mul_nonneg (by omega) hi.2.2.1
 unfold numOf denOf
 omega
theorem low_weak {h r:Int} (H:Reach c s (pathN s) h r):numOf c (lowT c s (pathN s)).1 (lowT c s (pathN s)).2*denOf r≤numOf c h r*denOf (lowT c s (pathN s)).2:=by
 rw[num_le hc]
 have hi:=reach_in hc hs H (Nat.le_refl _)
 have hL:=reach_in hc hs (low_reach hc hs (pathN s) (Nat.le_refl _)) (Nat.le_refl _)
 rcases Int.lt_or_eq_of_le hi.2.1 with hlt | heq
 ·obtain⟨h1,h2,h3⟩:=low_least hc hs H (Nat.le_refl _) hlt
  exact more_strong hc h1 hi.2.1 h3 hi.2.2.2
 ·rw[heq,Int.sub_self,Int.zero_mul]
  have hH:=hc.2.1
  exact Int.mul_nonneg (by omega) (by unfold denOf;omega)
theorem high_strong {h r:Int} (H:Reach c s (pathN s) h r):numOf c h r*denOf (highT c s (pathN s)).2≤numOf c (highT c s (pathN s)).1 (highT c s (pathN s)).2*denOf r:=by
 rw[num_le hc]
 have hi:=reach_in hc hs H (Nat.le_refl _)
 have hL:=reach_in hc hs (high_reach hc hs (pathN s) (Nat.le_refl _)) (Nat.le_refl _)
 rcases Int.lt_or_eq_of_le hL.2.1 with hlt | heq
 ·obtain⟨h1,h2,h3⟩:=high_most hc hs H (Nat.le_refl _) hlt
  exact more_strong hc h1 hL.2.1 h3 hL.2.2.2
 ·rw[heq,Int.sub_self,Int.zero_mul]
  have hH:=hc.2.1
  exact Int.mul_nonneg (by omega) (by unfold denOf;omega)
omit hs in
theorem room_weak {h r r':Int} (hh:h≤c.hold) (hr:r≤r'):numOf c h r'*denOf r≤numOf c h r*denOf r':=by
 rw[num_le hc]
 exact Int.mul_le_mul_of_nonneg_left (by unfold denOf;omega) (by omega)
end
end Go.Sim.Le

namespace Go.Sim.Le
open Go.Proofs
abbrev Rm:=List (Int × Span)
abbrev r0:Rm:=[(0,⟨0,0⟩)]
def encR (m:Rm):List (V × V):=m.map fun p=>(V.int .i64 p.1,V.agg (eSpan p.2))
def findR:Rm→Int→Option Span
 |[],_=>none
 |p :: m,x=>if p.1=x then some p.2 else findR m x
def putR:Rm→Int→Span→Rm
 |[],x,s=>[(x,s)]
 |p :: m,x,s=>if p.1=x then (p.1,s) :: m else p :: putR m x s
theorem mget_R (x:Int):∀ m,mget (encR m) (.int .i64 x)=(findR m x).map fun s=>V.agg (eSpan s)
 |[]=>rfl
 |p :: m=>by
  simp only[encR,List.map,mget,findR,keyEq,keyEq1,decide_true,Bool.true_and]
  by_cases h:p.1=x
  ·rw[if_pos h,show (p.1==x)=true by rw[beq_iff_eq];exact h,cond_true];rfl
  ·rw[if_neg h,show (p.1==x)=false by rw[beq_eq_false_iff_ne];exact h,cond_false]
   exact mget_R x m
theorem mput_R (x:Int) (s:Span):∀ m,mput (encR m) (.int .i64 x) (.agg (eSpan s))=encR (putR m x s)
 |[]=>rfl
 |p :: m=>by
  simp only[encR,List.map,mput,putR,keyEq,keyEq1,decide_true,Bool.true_and]
  by_cases h:p.1=x
  ·rw[if_pos h,show (p.1==x)=true by rw[beq_iff_eq];exact h,cond_true];rfl
  ·rw[if_neg h,show (p.1==x)=false by rw[beq_eq_false_iff_ne];exact h,cond_false]
   show _ :: mput (encR m) (.int .i64 x) (.agg (eSpan s))=_
   rw[mput_R x s m];rfl
theorem find_put (x:Int) (s:Span) (y:Int):∀ m,findR (putR m x s) y=if x=y then some s else findR m y
 |[]=>by simp[putR,findR]
 |p :: m=>by
  unfold putR
  by_cases h:p.1=x
  ·rw[if_pos h]
   unfold findR
   by_cases hy:x=y
   ·rw[if_pos (h.trans hy),if_pos hy]
   ·rw[if_neg (fun e=>hy (h.symm.trans e)),if_neg hy,if_neg (fun e=>hy (h.symm.trans e))]
  ·rw[if_neg h]
   unfold findR
   by_cases hp:p.1=y
   ·rw[if_pos hp,if_neg (fun e=>h (hp.trans e.symm)),if_pos hp]
   ·rw[if_neg hp,if_neg hp]
    exact find_put x s y m
theorem mem_put (x:Int) (s:Span) (q:Int × Span):∀ m,q ∈ putR m x s→q=(x,s)∨q ∈ m
 |[],h=>.inl (by simpa[putR] using h)
 |p :: m,h=>by
  unfold putR at h
  by_cases hp:p.1=x
  ·rw[if_pos hp] at h
   rcases List.mem_cons.1 h with h | h
   ·exact .inl (by rw[h,hp])
   ·exact .inr (List.mem_cons_of_mem _ h)
  ·rw[if_neg hp] at h
   rcases List.mem_cons.1 h with h | h
   ·exact .inr (by rw[h];exact List.mem_cons_self ..)
   ·rcases mem_put x s q m h with h | h
    ·exact .inl h
    ·exact .inr (List.mem_cons_of_mem _ h)
theorem keys_put (x:Int) (s:Span):∀ m:Rm,(m.map (·.1)).Nodup→((putR m x s).map (·.1)).Nodup
 |[],_=>by simp[putR]
 |p :: m,h=>by
  rw[List.map_cons,List.nodup_cons] at h
  unfold putR
  by_cases hp:p.1=x
  ·rw[if_pos hp,List.map_cons,List.nodup_cons];exact h
  ·rw[if_neg hp,List.map_cons,List.nodup_cons]
   refine⟨fun hm=>?_,keys_put x s m h.2⟩
   obtain⟨q,hq,e⟩:=List.mem_map.1 hm
   rcases mem_put x s q m hq with rfl | hq
   ·exact hp e.symm
   ·exact h.1 (List.mem_map.2 ⟨q,hq,e⟩)
theorem find_mem {x:Int} {s:Span}:∀ {m:Rm},findR m x=some s→∃ i:Nat,m[i]? = some (x,s)
 |[],h=>by cases h
 |p :: m,h=>by
  unfold findR at h
  by_cases hp:p.1=x
  ·rw[if_pos hp] at h
   injection h with h
   exact⟨0,by simp[← h,← hp]⟩
  ·rw[if_neg hp] at h
   obtain⟨i,hi⟩:=find_mem h
   exact⟨i+1,by simpa using hi⟩
def Cov (m:Rm) (x a b:Int):Prop:=∃ s,findR m x=some s∧s.lo≤a∧b≤s.hi
def Ge (m m':Rm):Prop:=∀ y s,findR m y=some s→∃ s',findR m' y=some s'∧s'.lo≤s.lo∧s.hi≤s'.hi
theorem Ge.refl (m:Rm):Ge m m:=fun _ s h=>⟨s,h,Int.le_refl _,Int.le_refl _⟩
theorem Ge.trans {a b e:Rm} (h:Ge a b) (k:Ge b e):Ge a e:=fun y s hs=>by
 obtain⟨s1,h1,h2,h3⟩:=h y s hs
 obtain⟨s2,k1,k2,k3⟩:=k y s1 h1
 exact⟨s2,k1,Int.le_trans k2 h2,Int.le_trans h3 k3⟩
theorem Cov.ge {m m':Rm} (h:Ge m m') {x a b:Int} (hc:Cov m x a b):Cov m' x a b:=by
 obtain⟨s,h1,h2,h3⟩:=hc
 obtain⟨s',k1,k2,k3⟩:=h x s h1
 exact⟨s',k1,Int.le_trans k2 h2,Int.le_trans h3 k3⟩
def Snd (c:Cav) (s:Stg) (k:Nat) (m:Rm):Prop:=(m.map (·.1)).Nodup∧∀ p ∈ m,Reach c s k p.1 p.2.lo∧Reach c s k p.1 p.2.hi
def Inv (c:Cav) (s:Stg) (k:Nat) (m:Rm):Prop:=Snd c s k m∧Cov m (lowT c s k).1 (lowT c s k).2 (lowT c s k).2∧Cov m (highT c s k).1 (highT c s k).2 (highT c s k).2
def addR (m:Rm) (x:Int) (nw:Span):Rm:=match findR m x with
 |none=>putR m x nw
 |some old=>putR m x ⟨min nw.lo old.lo,max nw.hi old.hi⟩
theorem addR_ge (m:Rm) (x:Int) (nw:Span):Ge m (addR m x nw)∧Cov (addR m x nw) x nw.lo nw.hi:=by
 unfold addR
 cases h:findR m x with
 |none =>
  refine⟨fun y s hs=>?_,⟨nw,?_,Int.le_refl _,Int.le_refl _⟩⟩
  ·refine⟨s,?_,Int.le_refl _,Int.le_refl _⟩
   show findR (putR m x nw) y=_
   rw[find_put,if_neg (fun e=>by rw[e,hs] at h;cases h)];exact hs
  ·show findR (putR m x nw) x=_
   rw[find_put,if_pos rfl]
 |some old =>
  refine⟨fun y s hs=>?_,⟨⟨min nw.lo old.lo,max nw.hi old.hi⟩,?_,?_,?_⟩⟩
  ·show ∃ s',findR (putR m x _) y=_∧_
   by_cases e:x=y
   ·rw[e,hs] at h
    injection h with h
    subst h
    refine⟨⟨min nw.lo s.lo,max nw.hi s.hi⟩,by rw[find_put,if_pos e],?_,?_⟩
    ·show min _ _≤_;omega
    ·show _≤max _ _;omega
   ·exact⟨s,by rw[find_put,if_neg e];exact hs,Int.le_refl _,Int.le_refl _⟩
  ·show findR (putR m x _) x=_
   rw[find_put,if_pos rfl]
  ·show min _ _≤_;omega
  ·show _≤max _ _;omega
theorem addR_snd {c:Cav} {s:Stg} {k:Nat} {m:Rm} {x:Int} {nw:Span} (h:Snd c s k m) (h1:Reach c s k x nw.lo) (h2:Reach c s k x nw.hi):Snd c s k (addR m x nw):=by
 unfold addR
 cases hf:findR m x with
 |none =>
  refine⟨keys_put _ _ _ h.1,fun p hp=>?_⟩
  rcases mem_put _ _ _ _ hp with rfl | hp
  ·exact⟨h1,h2⟩
  ·exact h.2 p hp
 |some old =>
  obtain⟨i,hi⟩:=find_mem hf
  have ho:=h.2 _ (List.mem_of_getElem? hi)
  refine⟨keys_put _ _ _ h.1,fun p hp=>?_⟩
  rcases mem_put _ _ _ _ hp with rfl | hp
  ·simp only
   constructor
   ·rcases Int.le_total nw.lo old.lo with e | e
    ·rw[Int.min_eq_left e];exact h1
    ·rw[Int.min_eq_right e];exact ho.1
   ·rcases Int.le_total nw.hi old.hi with e | e
    ·rw[Int.max_eq_right e];exact ho.2
    ·rw[Int.max_eq_left e];exact h2
  ·exact h.2 p hp
theorem snd_len {c:Cav} (hc:CavOk c) {s:Stg} (hs:StgOk c.slices.len s) {k:Nat} (hk:k≤pathN s) {m:Rm} (h:Snd c s k m):m.length≤301:=by
 have hH:=hc.2.1
 have h1:m.map (·.1) ⊆ (List.range 301).map fun j=>((j:Nat):Int):=by
  intro x hx
  obtain⟨p,hp,rfl⟩:=List.mem_map.1 hx
  have:=reach_in hc hs (h.2 p hp).1 hk
  exact List.mem_map.2 ⟨p.1.toNat,List.mem_range.2 (by omega),by omega⟩
 have h2:=h.1.length_le_of_subset h1
 simpa using h2
theorem encR_len (m:Rm):(encR m).length=m.length:=by simp[encR]
theorem encR_at (m:Rm) (i:Nat):(encR m)[i]? = (m[i]?).map fun p=>(V.int .i64 p.1,V.agg (eSpan p.2)):=by simp[encR]
theorem nextK_some {β:Type} {n:Nat} {seen:List Nat} {kend:Option β} {k:Nat→Option β} {r:β} (h1:(∀ i,i<n→i ∈ seen)→kend=some r) (h2:∀ i,i<n→i ∉ seen→k i=some r):nextK n seen kend k=some r:=by
 classical
 unfold nextK
 by_cases ha:∀ i,i<n→i ∈ seen
 ·rw[if_pos ha];exact h1 ha
 ·rw[if_neg ha]
  have hex:∃ r,∀ i,i<n→i ∉ seen→k i=some r:=⟨r,h2⟩
  rw[dif_pos hex]
  obtain⟨i,hi⟩:=Classical.not_forall.1 ha
  have hi1:i<n∧i ∉ seen:=by
   constructor
   ·exact Classical.byContradiction fun h=>hi fun h'=>(h h').elim
   ·exact fun h=>hi fun _=>h
  have e1:=hex.choose_spec i hi1.1 hi1.2
  rw[h2 i hi1.1 hi1.2] at e1
  exact e1.symm
def unseen (n:Nat) (seen:List Nat):Nat:=((List.range n).filter fun i=>!seen.contains i).length
theorem unseen_le (n:Nat) (seen:List Nat):unseen n seen≤n:=by
 have:=List.length_filter_le (fun i=>!seen.contains i) (List.range n)
 rw[List.length_range] at this
 exact this
theorem filter_lt {α:Type} {p q:α→Bool} {a:α}:∀ {l:List α},a ∈ l→p a=true→q a=false→(∀ x,q x=true→p x=true)→(l.filter q).length<(l.filter p).length
 |[],h,_,_,_=>by simp at h
 |b :: l,h,hp,hq,hi=>by
  have hle:∀ l:List α,(l.filter q).length≤(l.filter p).length:=by
   intro l
   induction l with
   |nil=>simp
   |cons x l ih =>
    cases hx:q x with
    |true=>rw[List.filter_cons_of_pos hx,List.filter_cons_of_pos (hi x hx),List.length_cons,List.length_cons];omega
    |false =>
     rw[List.filter_cons_of_neg (by simp[hx])]
     cases hy:p x with
     |true=>rw[List.filter_cons_of_pos hy,List.length_cons];omega
     |false=>rw[List.filter_cons_of_neg (by simp[hy])];exact ih
  rcases List.mem_cons.1 h with rfl | h
  ·rw[List.filter_cons_of_pos hp,List.filter_cons_of_neg (by simp[hq]),List.length_cons]
   have:=hle l;omega
  ·have ih:=filter_lt h hp hq hi
   cases hx:q b with
   |true=>rw[List.filter_cons_of_pos hx,List.filter_cons_of_pos (hi b hx),List.length_cons,List.length_cons];omega
   |false =>
    rw[List.filter_cons_of_neg (by simp[hx])]
    cases hy:p b with
    |true=>rw[List.filter_cons_of_pos hy,List.length_cons];omega
    |false=>rw[List.filter_cons_of_neg (by simp[hy])];exact ih
theorem unseen_step {n i:Nat} {seen:List Nat} (hi:i<n) (hs:i ∉ seen):unseen n (i :: seen)<unseen n seen:=by
 unfold unseen
 refine filter_lt (a:=i) (List.mem_range.2 hi) (by simpa using hs) (by simp) fun x hx=>?_
 simp at hx ⊢
 exact hx.2
variable (F d:Nat)
section
variable {c:Cav} (hc:CavOk c) {s:Stg} (hs:StgOk c.slices.len s) (hF:1000000000<F) (b0 b1 b2 b3 b4:Bool)
include hc hs hF
theorem l26x4 (m0 m1 k:Nat) (hk:k<pathN s) (had:Int) (sp:Span) (h1:Reach c s k had sp.lo) (h2:Reach c s k had sp.hi) (pos:Int) (seen:List Nat) (R:Option Out) :
 ∀ (j:Nat) (n:Int) (fu:Nat) (m:Rm),n+j=min (slAt c s k).rate.hi (c.hold - had)+1→min (slAt c s k).rate.lo (c.hold - had)≤n→j<fu→Snd c s (k+1) m →
 (∀ m',Snd c s (k+1) m'→Ge m m'→(∀ n',n≤n'→n'≤min (slAt c s k).rate.hi (c.hold - had)→Cov m' (had+n') (sp.lo+n'*oAt c s k) (sp.hi+n'*oAt c s k))→L26x1 (E F (d+3)) F c s m0 m1 (oAt c s k) (slAt c s k).rate.lo (slAt c s k).rate.hi (encR m') seen (fun _=>eStg s) (stepOf s) .i64 pos .i64 pos b0 b1 b2 b3 b4 (fun _=>eStg s)=R) →
 L26x4 (E F (d+3)) F c s m0 m1 fu (oAt c s k) .i64 had n (slAt c s k).rate.lo (slAt c s k).rate.hi (encR m) .i64 sp.lo .i64 sp.hi seen (fun _=>eStg s) (stepOf s) .i64 pos .i64 pos b0 b1 b2 b3 b4 (fun _=>eStg s)=R:=by
 have hH:=hc.2.1
 have hra:=rate_at hc hs hk
 have hi1:=reach_in hc hs h1 (by omega)
 have hi2:=reach_in hc hs h2 (by omega)
 intro j
 induction j with
 |zero =>
  intro n fu m h hn hf hS K
  obtain⟨fu,rfl⟩:=ex1 (n:=fu) (by omega)
  rw[L26x4s]
  simp only[decide_true,pT,mnE]
  rw[wr (n:=c.hold - had) (by omega),dF (by omega),pF]
  exact K m hS (Ge.refl m) fun n' h1 h2=>by omega
 |succ j ih =>
  intro n fu m h hn hf hS K
  obtain⟨fu,rfl⟩:=ex1 (n:=fu) (by omega)
  have hm:=mulo hc hs hk (n:=n) (by omega)
  have hlen:=snd_len hc hs (by omega) hS
  have hr1:Reach c s (k+1) (had+n) (sp.lo+n*oAt c s k):=.step h1 hn (by omega)
  have hr2:Reach c s (k+1) (had+n) (sp.hi+n*oAt c s k):=.step h2 hn (by omega)
  have hg:=addR_ge m (had+n) ⟨sp.lo+n*oAt c s k,sp.hi+n*oAt c s k⟩
  have e:=ih (n+1) fu (addR m (had+n) ⟨sp.lo+n*oAt c s k,sp.hi+n*oAt c s k⟩) (by omega) (by omega) (by omega) (addR_snd hS hr1 hr2) fun m' h3 h4 h5=>K m' h3 (hg.1.trans h4) fun n' h6 h7=>by
   rcases Int.lt_or_eq_of_le h6 with h8 | h8
   ·exact h5 n' (by omega) h7
   ·rw[← h8];exact (hg.2).ge h4
  rw[L26x4s]
  simp only[decide_true,pT,mnE]
  rw[wr (n:=c.hold - had) (by omega),dT (by omega),pT,wr (n:=had+n) (by omega),wr (n:=n*oAt c s k) (by omega),wr (n:=sp.lo+n*oAt c s k) (by omega),wr (n:=sp.hi+n*oAt c s k) (by omega),wr (n:=n+1) (by omega)]
  simp (disch:=omega) only[p63,dT,decide_true,Bool.and_self,pT,mget_R,encR_len,mxE]
  unfold addR at e
  cases hf:findR m (had+n) with
  |none =>
   rw[hf] at e
   simp only[Option.map,tkOpt]
   rw[show (V.agg [V.int .i64 (sp.lo+n*oAt c s k),V.int .i64 (sp.hi+n*oAt c s k)])=V.agg (eSpan ⟨sp.lo+n*oAt c s k,sp.hi+n*oAt c s k⟩) from rfl,mput_R]
   exact e
  |some old =>
   rw[hf] at e
   simp only[Option.map,tkOpt,tkAgg_a,tkCons_c,tkInt_i,tkNil_n]
   rw[show (V.agg [V.int .i64 (min (sp.lo+n*oAt c s k) old.lo),V.int .i64 (max (sp.hi+n*oAt c s k) old.hi)])=V.agg (eSpan ⟨min (sp.lo+n*oAt c s k) old.lo,max (sp.hi+n*oAt c s k) old.hi⟩) from rfl,mput_R]
   exact e
theorem l26x6 (m0 m1 k:Nat) (hk:k<pathN s) (had:Int) (sp:Span) (h1:Reach c s k had sp.lo) (h2:Reach c s k had sp.hi) (pos:Int) (rooms:Rm) (seen:List Nat) (R:Option Out) :
 ∀ (j:Nat) (n:Int) (fu:Nat) (m:Rm),n+j=min (slAt c s k).rate.hi (c.hold - had)+1→min (slAt c s k).rate.lo (c.hold - had)≤n→j<fu→Snd c s (k+1) m →
 (∀ m',Snd c s (k+1) m'→Ge m m'→(∀ n',n≤n'→n'≤min (slAt c s k).rate.hi (c.hold - had)→Cov m' (had+n') (sp.lo+n'*oAt c s k) (sp.hi+n'*oAt c s k))→L26x5 (E F (d+3)) F c s m0 m1 (oAt c s k) (slAt c s k).rate.lo (slAt c s k).rate.hi (encR m') rooms.length seen (encR rooms) (fun _=>eStg s) (stepOf s) .i64 pos .i64 pos b0 b1 b2 b3 b4 (fun _=>eStg s)=R) →
 L26x6 (E F (d+3)) F c s m0 m1 fu (oAt c s k) .i64 had n (slAt c s k).rate.lo (slAt c s k).rate.hi (encR m) .i64 sp.lo .i64 sp.hi rooms.length seen (encR rooms) (fun _=>eStg s) (stepOf s) .i64 pos .i64 pos b0 b1 b2 b3 b4 (fun _=>eStg s)=R:=by
 have hH:=hc.2.1
 have hra:=rate_at hc hs hk
 have hi1:=reach_in hc hs h1 (by omega)
 have hi2:=reach_in hc hs h2 (by omega)
 intro j
 induction j with
 |zero =>
  intro n fu m h hn hf hS K
  obtain⟨fu,rfl⟩:=ex1 (n:=fu) (by omega)
  rw[L26x6s]
  simp only[decide_true,pT,mnE]
  rw[wr (n:=c.hold - had) (by omega),dF (by omega),pF]
  exact K m hS (Ge.refl m) fun n' h1 h2=>by omega
 |succ j ih =>
  intro n fu m h hn hf hS K
  obtain⟨fu,rfl⟩:=ex1 (n:=fu) (by omega)
  have hm:=mulo hc hs hk (n:=n) (by omega)
  have hlen:=snd_len hc hs (by omega) hS
  have hr1:Reach c s (k+1) (had+n) (sp.lo+n*oAt c s k):=.step h1 hn (by omega)
  have hr2:Reach c s (k+1) (had+n) (sp.hi+n*oAt c s k):=.step h2 hn (by omega)
  have hg:=addR_ge m (had+n) ⟨sp.lo+n*oAt c s k,sp.hi+n*oAt c s k⟩
  have e:=ih (n+1) fu (addR m (had+n) ⟨sp.lo+n*oAt c s k,sp.hi+n*oAt c s k⟩) (by omega) (by omega) (by omega) (addR_snd hS hr1 hr2) fun m' h3 h4 h5=>K m' h3 (hg.1.trans h4) fun n' h6 h7=>by
   rcases Int.lt_or_eq_of_le h6 with h8 | h8
   ·exact h5 n' (by omega) h7
   ·rw[← h8];exact (hg.2).ge h4
  rw[L26x6s]
  simp only[decide_true,pT,mnE]
  rw[wr (n:=c.hold - had) (by omega),dT (by omega),pT,wr (n:=had+n) (by omega),wr (n:=n*oAt c s k) (by omega),wr (n:=sp.lo+n*oAt c s k) (by omega),wr (n:=sp.hi+n*oAt c s k) (by omega),wr (n:=n+1) (by omega)]
  simp (disch:=omega) only[p63,dT,decide_true,Bool.and_self,pT,mget_R,encR_len,mxE]
  unfold addR at e
  cases hf:findR m (had+n) with
  |none =>
   rw[hf] at e
   simp only[Option.map,tkOpt]
   rw[show (V.agg [V.int .i64 (sp.lo+n*oAt c s k),V.int .i64 (sp.hi+n*oAt c s k)])=V.agg (eSpan ⟨sp.lo+n*oAt c s k,sp.hi+n*oAt c s k⟩) from rfl,mput_R]
   exact e
  |some old =>
   rw[hf] at e
   simp only[Option.map,tkOpt,tkAgg_a,tkCons_c,tkInt_i,tkNil_n]
   rw[show (V.agg [V.int .i64 (min (sp.lo+n*oAt c s k) old.lo),V.int .i64 (max (sp.hi+n*oAt c s k) old.hi)])=V.agg (eSpan ⟨min (sp.lo+n*oAt c s k) old.lo,max (sp.hi+n*oAt c s k) old.hi⟩) from rfl,mput_R]
   exact e
theorem l26x1 (m0 k:Nat) (hk0:k=0) (hk:k<pathN s) (R:Out)
 (K:∀ m',Snd c s (k+1) m'→(∀ (i:Nat) p,r0[i]? = some p→∀ n',min (slAt c s k).rate.lo (c.hold - p.1)≤n'→n'≤min (slAt c s k).rate.hi (c.hold - p.1)→Cov m' (p.1+n') (p.2.lo+n'*oAt c s k) (p.2.hi+n'*oAt c s k)) →
  (bif pathAt s k != s.out then L26x2 (E F (d+3)) F c s m0 (fun _=>eStg s) (stepOf s) .i64 (IntKind.i64.wrap (pathAt s k+stepOf s)) (encR m') b0 b1 b2 b3 b4 (fun _=>eStg s) else L26x3 (E F (d+3)) F c s F .i64 0 .i64 0 .i64 0 .i64 0 m'.length [] (encR m'))=some R) :
 ∀ (j:Nat) (seen:List Nat) (fu:Nat) (m:Rm),unseen 1 seen≤j→j<fu→Snd c s (k+1) m →
 (∀ (i:Nat) p,i ∈ seen→r0[i]? = some p→∀ n',min (slAt c s k).rate.lo (c.hold - p.1)≤n'→n'≤min (slAt c s k).rate.hi (c.hold - p.1)→Cov m (p.1+n') (p.2.lo+n'*oAt c s k) (p.2.hi+n'*oAt c s k)) →
 L26x1 (E F (d+3)) F c s m0 fu (oAt c s k) (slAt c s k).rate.lo (slAt c s k).rate.hi (encR m) seen (fun _=>eStg s) (stepOf s) .i64 (pathAt s k) .i64 (pathAt s k) b0 b1 b2 b3 b4 (fun _=>eStg s)=some R:=by
 have hH:=hc.2.1
 have hra:=rate_at hc hs hk
 have hR:Snd c s k r0:=by
  subst hk0
  exact⟨by simp,fun p hp=>by rw[List.mem_singleton] at hp;subst hp;exact⟨.zero,.zero⟩⟩
 intro j
 induction j with
 |zero =>
  intro seen fu m h hf hS hC
  obtain⟨fu,rfl⟩:=ex1 (n:=fu) (by omega)
  rw[L26x1s]
  simp only[encR_len]
  refine nextK_some (fun ha=>?_) fun i hi hn=>?_
  ·simp only[List.drop,tkCons_c,tkInt_i,decide_true,pT]
   exact K m hS fun i p hp=>hC i p (ha i (by have:=(List.getElem?_eq_some_iff.1 hp).1;simpa using this)) hp
  ·have:=unseen_step hi hn
   omega
 |succ j ih =>
  intro seen fu m h hf hS hC
  obtain⟨fu,rfl⟩:=ex1 (n:=fu) (by omega)
  rw[L26x1s]
  simp only[encR_len]
  refine nextK_some (fun ha=>?_) fun i hi hn=>?_
  ·simp only[List.drop,tkCons_c,tkInt_i,decide_true,pT]
   exact K m hS fun i p hp=>hC i p (ha i (by have:=(List.getElem?_eq_some_iff.1 hp).1;simpa using this)) hp
  ·have hu:=unseen_step hi hn
   have hi0:i=0:=by omega
   subst hi0
   have hat:r0[0]? = some (0,⟨0,0⟩):=rfl
   generalize hpe:((0:Int),(⟨0,0⟩:Span))=pe at hat
   have hent:tkEnt [(V.int .i64 (0:Int),V.agg [V.int .i64 0,V.int .i64 0])] 0=tkEnt (R:=Option Out) [(V.int .i64 pe.1,V.agg (eSpan pe.2))] 0:=by rw[← hpe]
   rw[hent]
   simp only[tkEnt,List.getElem?_cons_zero,tkInt_i,tkAgg_a,tkCons_c,tkNil_n,decide_true,pT]
   have hpr:=hR.2 _ (List.mem_of_getElem? hat)
   have hin:=reach_in hc hs hpr.1 (by omega)
   rw[wr (n:=c.hold - pe.1) (by omega)]
   simp only[mnE]
   refine l26x4 F d hc hs hF b0 b1 b2 b3 b4 m0 fu k hk pe.1 pe.2 hpr.1 hpr.2 (pathAt s k) _ (some R) (min (slAt c s k).rate.hi (c.hold - pe.1)+1 - min (slAt c s k).rate.lo (c.hold - pe.1)).toNat _ F m (by omega) (Int.le_refl _) (by omega) hS fun m' h3 h4 h5=>?_
   refine ih _ fu m' (by omega) (by omega) h3 fun i' p hi' hp=>?_
   rcases List.mem_cons.1 hi' with rfl | hi'
   ·rw[hat] at hp
    injection hp with hp
    subst hp
    exact h5
   ·exact fun n' h6 h7=>(hC i' p hi' hp n' h6 h7).ge h4
theorem l26x5 (m0 k:Nat) (hk:k<pathN s) (rooms:Rm) (hR:Snd c s k rooms) (R:Out)
 (K:∀ m',Snd c s (k+1) m'→(∀ (i:Nat) p,rooms[i]? = some p→∀ n',min (slAt c s k).rate.lo (c.hold - p.1)≤n'→n'≤min (slAt c s k).rate.hi (c.hold - p.1)→Cov m' (p.1+n') (p.2.lo+n'*oAt c s k) (p.2.hi+n'*oAt c s k)) →
  (bif pathAt s k != s.out then L26x2 (E F (d+3)) F c s m0 (fun _=>eStg s) (stepOf s) .i64 (IntKind.i64.wrap (pathAt s k+stepOf s)) (encR m') b0 b1 b2 b3 b4 (fun _=>eStg s) else L26x3 (E F (d+3)) F c s F .i64 0 .i64 0 .i64 0 .i64 0 m'.length [] (encR m'))=some R) :
 ∀ (j:Nat) (seen:List Nat) (fu:Nat) (m:Rm),unseen rooms.length seen≤j→j<fu→Snd c s (k+1) m →
 (∀ (i:Nat) p,i ∈ seen→rooms[i]? = some p→∀ n',min (slAt c s k).rate.lo (c.hold - p.1)≤n'→n'≤min (slAt c s k).rate.hi (c.hold - p.1)→Cov m (p.1+n') (p.2.lo+n'*oAt c s k) (p.2.hi+n'*oAt c s k)) →
 L26x5 (E F (d+3)) F c s m0 fu (oAt c s k) (slAt c s k).rate.lo (slAt c s k).rate.hi (encR m) rooms.length seen (encR rooms) (fun _=>eStg s) (stepOf s) .i64 (pathAt s k) .i64 (pathAt s k) b0 b1 b2 b3 b4 (fun _=>eStg s)=some R:=by
 have hH:=hc.2.1
 have hra:=rate_at hc hs hk
 intro j
 induction j with
 |zero =>
  intro seen fu m h hf hS hC
  obtain⟨fu,rfl⟩:=ex1 (n:=fu) (by omega)
  rw[L26x5s]
  simp only[encR_len,beq_self_eq_true,pT]
  refine nextK_some (fun ha=>?_) fun i hi hn=>?_
  ·simp only[List.drop,tkCons_c,tkInt_i,decide_true,pT]
   exact K m hS fun i p hp=>hC i p (ha i (by have:=(List.getElem?_eq_some_iff.1 hp).1;simpa using this)) hp
  ·have:=unseen_step hi hn
   omega
 |succ j ih =>
  intro seen fu m h hf hS hC
  obtain⟨fu,rfl⟩:=ex1 (n:=fu) (by omega)
  rw[L26x5s]
  simp only[encR_len,beq_self_eq_true,pT]
  refine nextK_some (fun ha=>?_) fun i hi hn=>?_
  ·simp only[List.drop,tkCons_c,tkInt_i,decide_true,pT]
   exact K m hS fun i p hp=>hC i p (ha i (by have:=(List.getElem?_eq_some_iff.1 hp).1;simpa using this)) hp
  ·have hu:=unseen_step hi hn
   have hat:rooms[i]? = some rooms[i]:=List.getElem?_eq_getElem hi
   generalize rooms[i]=pe at hat
   simp only[tkEnt,encR_at,hat,Option.map,tkInt_i,tkAgg_a,tkCons_c,tkNil_n,decide_true,pT]
   have hpr:=hR.2 _ (List.mem_of_getElem? hat)
   have hin:=reach_in hc hs hpr.1 (by omega)
   rw[wr (n:=c.hold - pe.1) (by omega)]
   simp only[mnE]
   refine l26x6 F d hc hs hF b0 b1 b2 b3 b4 m0 fu k hk pe.1 pe.2 hpr.1 hpr.2 (pathAt s k) rooms _ (some R) (min (slAt c s k).rate.hi (c.hold - pe.1)+1 - min (slAt c s k).rate.lo (c.hold - pe.1)).toNat _ F m (by omega) (Int.le_refl _) (by omega) hS fun m' h3 h4 h5=>?_
   refine ih _ fu m' (by omega) (by omega) h3 fun i' p hi' hp=>?_
   rcases List.mem_cons.1 hi' with rfl | hi'
   ·rw[hat] at hp
    injection hp with hp
    subst hp
    exact h5
   ·exact fun n' h6 h7=>(hC i' p hi' hp n' h6 h7).ge h4
theorem inv_next {k:Nat} (hk:k<pathN s) {m m':Rm} (h:Inv c s k m) (hS:Snd c s (k+1) m') (hC:∀ (i:Nat) p,m[i]? = some p→∀ n',min (slAt c s k).rate.lo (c.hold - p.1)≤n'→n'≤min (slAt c s k).rate.hi (c.hold - p.1)→Cov m' (p.1+n') (p.2.lo+n'*oAt c s k) (p.2.hi+n'*oAt c s k)):Inv c s (k+1) m':=by
 have hra:=rate_at hc hs hk
 obtain⟨_,⟨s1,h1,h2,h3⟩,s2,k1,k2,k3⟩:=h
 obtain⟨i,hi⟩:=find_mem h1
 obtain⟨i',hi'⟩:=find_mem k1
 refine⟨hS,?_,?_⟩
 ·obtain⟨q,q1,q2,q3⟩:=hC i _ hi (min (slAt c s k).rate.lo (c.hold - (lowT c s k).1)) (Int.le_refl _) (by simp only;omega)
  refine⟨q,q1,?_,?_⟩
  ·simp only[lowT] at q2 ⊢;omega
  ·simp only[lowT] at q3 ⊢;omega
 ·obtain⟨q,q1,q2,q3⟩:=hC i' _ hi' (min (slAt c s k).rate.hi (c.hold - (highT c s k).1)) (by simp only;omega) (Int.le_refl _)
  refine⟨q,q1,?_,?_⟩
  ·simp only[highT] at q2 ⊢;omega
  ·simp only[highT] at q3 ⊢;omega
theorem l26x2 (R:Out) (KN:∀ m,Inv c s (pathN s) m→L26x3 (E F (d+3)) F c s F .i64 0 .i64 0 .i64 0 .i64 0 m.length [] (encR m)=some R):∀ j k fu m,k+1+j=pathN s→j<fu→Inv c s k m →
 L26x2 (E F (d+3)) F c s fu (fun _=>eStg s) (stepOf s) .i64 (pathAt s k) (encR m) b0 b1 b2 b3 b4 (fun _=>eStg s)=some R:=by
 have hp:=pathN_le hs
 have hl:=hc.1
 intro j
 induction j with
 |zero =>
  intro k fu m h hf hI
  obtain⟨fu,rfl⟩:=ex1 (n:=fu) (by omega)
  have hin:=pathAt_in hs (k:=k) (by omega)
  have hra:=rate_at hc hs (k:=k) (by omega)
  have hlen:=snd_len hc hs (by omega) hI.1
  have ho1:1000≤(c.slices.el (pathAt s k).toNat).opn∧(c.slices.el (pathAt s k).toNat).opn≤3000:=(slcOk_at hc hs (k:=k) (by omega)).2.1
  have ho2:0≤(c.slices.el (pathAt s k).toNat).fall∧(c.slices.el (pathAt s k).toNat).fall≤(c.slices.el (pathAt s k).toNat).opn - 1:=(slcOk_at hc hs (k:=k) (by omega)).2.2.1
  have hk':k=pathN s - 1:=by omega
  have e1:pathAt s k=s.out:=by rw[hk',pathAt_last]
  rw[L26x2s]
  simp (disch:=omega) only[dT,decide_true,pT,wr]
  simp only[encR_len]
  refine l26x5 F d hc hs hF b0 b1 b2 b3 b4 fu k (by omega) m hI.1 R (fun m' hS hC=>?_) m.length [] F [] (unseen_le _ _) (by omega) ⟨by simp,by simp⟩ (fun i p hi=>by simp at hi)
  rw[e1,bne_self_eq_false,cond_false]
  refine KN m' ?_
  have:=inv_next F hc hs hF (by omega) hI hS hC
  rwa [show k+1=pathN s by omega] at this
 |succ j ih =>
  intro k fu m h hf hI
  obtain⟨fu,rfl⟩:=ex1 (n:=fu) (by omega)
  have hin:=pathAt_in hs (k:=k) (by omega)
  have hin2:=pathAt_in hs (k:=k+1) (by omega)
  have hra:=rate_at hc hs (k:=k) (by omega)
  have hlen:=snd_len hc hs (by omega) hI.1
  have ho1:1000≤(c.slices.el (pathAt s k).toNat).opn∧(c.slices.el (pathAt s k).toNat).opn≤3000:=(slcOk_at hc hs (k:=k) (by omega)).2.1
  have ho2:0≤(c.slices.el (pathAt s k).toNat).fall∧(c.slices.el (pathAt s k).toNat).fall≤(c.slices.el (pathAt s k).toNat).opn - 1:=(slcOk_at hc hs (k:=k) (by omega)).2.2.1
  have hne:(pathAt s k != s.out)=true:=by
   have:=pathAt_ne s (k:=k) (by omega)
   simpa using this
  have hS:pathAt s k+stepOf s=pathAt s (k+1):=by rw[← pathAt_S]
  rw[L26x2s]
  simp (disch:=omega) only[dT,decide_true,pT,wr]
  simp only[encR_len]
  refine l26x5 F d hc hs hF b0 b1 b2 b3 b4 fu k (by omega) m hI.1 R (fun m' hS' hC=>?_) m.length [] F [] (unseen_le _ _) (by omega) ⟨by simp,by simp⟩ (fun i p hi=>by simp at hi)
  rw[hne,cond_true,hS,wr (by omega)]
  exact ih (k+1) fu m' (by omega) (by omega) (inv_next F hc hs hF (by omega) hI hS' hC)
theorem l26x0 (R:Out) (KN:∀ m,Inv c s (pathN s) m→L26x3 (E F (d+3)) F c s F .i64 0 .i64 0 .i64 0 .i64 0 m.length [] (encR m)=some R) :
 L26x0 (E F (d+3)) F c s F (fun _=>eStg s) (stepOf s) .i64 s.into b0 b1 b2 b3 b4 (fun _=>eStg s)=some R:=by
 have hp:=pathN_le hs
 have hl:=hc.1
 have hne2:2≤pathN s:=by
  have:=hs.2.2.2.1
  unfold pathN;split<;>omega
 have hin:=pathAt_in hs (k:=0) (by omega)
 have hin2:=pathAt_in hs (k:=0+1) (by omega)
 have hra:=rate_at hc hs (k:=0) (by omega)
 have ho1:1000≤(c.slices.el (pathAt s 0).toNat).opn∧(c.slices.el (pathAt s 0).toNat).opn≤3000:=(slcOk_at hc hs (k:=0) (by omega)).2.1
 have ho2:0≤(c.slices.el (pathAt s 0).toNat).fall∧(c.slices.el (pathAt s 0).toNat).fall≤(c.slices.el (pathAt s 0).toNat).opn - 1:=(slcOk_at hc hs (k:=0) (by omega)).2.2.1
 have hne:(pathAt s 0 != s.out)=true:=by
  have:=pathAt_ne s (k:=0) (by omega)
  simpa using this
 have hS:pathAt s 0+stepOf s=pathAt s (0+1):=by rw[← pathAt_S]
 have hI:Inv c s 0 r0:=⟨⟨by simp,fun p hp=>by rw[List.mem_singleton] at hp;subst hp;exact⟨.zero,.zero⟩⟩,⟨⟨0,0⟩,rfl,Int.le_refl _,Int.le_refl _⟩,⟨0,0⟩,rfl,Int.le_refl _,Int.le_refl _⟩
 rw[← pathAt_0 s]
 obtain⟨F,rfl⟩:=ex1 (n:=F) (by omega)
 rw[L26x0s]
 simp (disch:=omega) only[dT,decide_true,pT,wr]
 refine l26x1 (F+1) d hc hs hF b0 b1 b2 b3 b4 F 0 rfl (by omega) R (fun m' hS' hC=>?_) 1 [] (F+1) [] (unseen_le _ _) (by omega) ⟨by simp,by simp⟩ (fun i p hi=>by simp at hi)
 rw[hne,cond_true,hS,wr (by omega)]
 exact l26x2 (F+1) d hc hs hF b0 b1 b2 b3 b4 R KN (pathN s - 2) (0+1) F m' (by omega) (by omega) (inv_next (F+1) hc hs hF (by omega) hI hS' hC)
end
end Go.Sim.Le

namespace Go.Sim.Le
open Go.Proofs
theorem vle_trans {a b p q x y:Int} (hq:0<q) (hb:0≤b) (hy:0≤y) (h1:a*q≤p*b) (h2:p*y≤x*q):a*y≤x*b:=by
 refine Int.le_of_mul_le_mul_left ?_ hq
 have e1:a*q*y≤p*b*y:=Int.mul_le_mul_of_nonneg_right h1 hy
 have e2:p*y*b≤x*q*b:=Int.mul_le_mul_of_nonneg_right h2 hb
 have e3:q*(a*y)=a*q*y:=by rw[Int.mul_comm a q,Int.mul_assoc]
 have e4:p*b*y=p*y*b:=Int.mul_right_comm p b y
 have e5:x*q*b=q*(x*b):=by rw[Int.mul_comm x q,Int.mul_assoc]
 omega
theorem fracF_in {x y:Int} (hx:0≤x) (hy:0<y):(0≤(fracF x y).1∧(fracF x y).1≤x)∧0<(fracF x y).2∧(fracF x y).2≤y:=by
 have hg:=gcdI_pos (a:=x) hy
 have h1:=div_in hx hg
 have h2:=div_in (Int.le_of_lt hy) hg
 refine⟨h1,?_,h2.2⟩
 have hd:=(gcdI_dvd hx (Int.le_of_lt hy)).2
 have:gcdI x y≤y:=Int.le_of_dvd hy hd
 have h3:1≤y / gcdI x y:=Int.le_ediv_of_mul_le hg (by omega)
 show 0<y / gcdI x y
 omega
variable (F d:Nat)
def fh (c:Cav) (p:Int × Span):Int × Int:=fracF (numOf c p.1 p.2.hi) (denOf p.2.hi)
def fl (c:Cav) (p:Int × Span):Int × Int:=fracF (numOf c p.1 p.2.lo) (denOf p.2.lo)
def LeH (c:Cav) (p e:Int × Span):Prop:=numOf c p.1 p.2.hi*denOf e.2.hi≤numOf c e.1 e.2.hi*denOf p.2.hi
def LeL (c:Cav) (p e:Int × Span):Prop:=numOf c p.1 p.2.lo*denOf e.2.lo≤numOf c e.1 e.2.lo*denOf p.2.lo
abbrev Bst:=Option ((Int × Span) × (Int × Span))
def bl (c:Cav) (b:Bst):Int × Int:=match b with | none=>(0,0) | some (p,_)=>fh c p
def bh (c:Cav) (b:Bst):Int × Int:=match b with | none=>(0,0) | some (_,q)=>fl c q
def BOk (c:Cav) (m:Rm) (seen:List Nat) (b:Bst):Prop:=(b=none→seen=[])∧∀ p q,b=some (p,q)→p ∈ m∧q ∈ m∧∀ i,i ∈ seen→∀ e,m[i]? = some e→LeH c p e∧LeL c e q
def bNext (c:Cav) (b:Bst) (e:Int × Span):Bst:=match b with | none=>some (e,e) | some (p,q)=>some (bif decide ((fh c e).1*(fh c p).2<(fh c p).1*(fh c e).2) then e else p,bif decide ((fl c e).1*(fl c q).2>(fl c q).1*(fl c e).2) then e else q)
def lowF (c:Cav) (s:Stg):Int × Int:=fracF (numOf c (lowT c s (pathN s)).1 (lowT c s (pathN s)).2) (denOf (lowT c s (pathN s)).2)
def highF (c:Cav) (s:Stg):Int × Int:=fracF (numOf c (highT c s (pathN s)).1 (highT c s (pathN s)).2) (denOf (highT c s (pathN s)).2)
section
variable {c:Cav} (hc:CavOk c) {s:Stg} (hs:StgOk c.slices.len s)
include hc hs
theorem best_end {m:Rm} (hI:Inv c s (pathN s) m) {seen:List Nat} {b:Bst} (hB:BOk c m seen b) (ha:∀ i,i<m.length→i ∈ seen):bl c b=lowF c s∧bh c b=highF c s:=by
 obtain⟨hS,⟨s1,h1,h2,h3⟩,s2,k1,k2,k3⟩:=hI
 obtain⟨i,hi⟩:=find_mem h1
 obtain⟨i',hi'⟩:=find_mem k1
 have his:=ha i (List.getElem?_eq_some_iff.1 hi).1
 have his':=ha i' (List.getElem?_eq_some_iff.1 hi').1
 have hN:=Nat.le_refl (pathN s)
 cases hb:b with
 |none=>rw[hB.1 hb] at his;simp at his
 |some pq =>
  obtain⟨p,q⟩:=pq
  obtain⟨hp,hq,hall⟩:=hB.2 p q hb
  have hpr:=(hS.2 p hp).2
  have hqr:=(hS.2 q hq).1
  have hpn:=num_den hc hs hpr hN
  have hqn:=num_den hc hs hqr hN
  have hLr:=low_reach hc hs _ hN
  have hHr:=high_reach hc hs _ hN
  have hLn:=num_den hc hs hLr hN
  have hHn:=num_den hc hs hHr hN
  have hLi:=reach_in hc hs hLr hN
  have hHi:=reach_in hc hs hHr hN
  have he1:=(hS.2 _ (List.mem_of_getElem? hi)).2
  have he2:=(hS.2 _ (List.mem_of_getElem? hi')).1
  have hen1:=num_den hc hs he1 hN
  have hen2:=num_den hc hs he2 hN
  constructor
  ·refine fracF_eq hpn.1 (by omega) hLn.1 (by omega) ?_
   have a1:=low_weak hc hs hpr
   have a2:=(hall i his _ hi).1
   have a3:=room_weak (c:=c) hc (h:=(lowT c s (pathN s)).1) hLi.2.1 h3
   have a4:=vle_trans (a:=numOf c p.1 p.2.hi) (b:=denOf p.2.hi) (p:=numOf c (lowT c s (pathN s)).1 s1.hi) (q:=denOf s1.hi) (x:=numOf c (lowT c s (pathN s)).1 (lowT c s (pathN s)).2) (y:=denOf (lowT c s (pathN s)).2) (by simp only at hen1;omega) (by omega) (by omega) a2 a3
   omega
  ·refine fracF_eq hqn.1 (by omega) hHn.1 (by omega) ?_
   have a1:=high_strong hc hs hqr
   have a2:=(hall i' his' _ hi').2
   have a3:=room_weak (c:=c) hc (h:=(highT c s (pathN s)).1) hHi.2.1 k2
   have a4:=vle_trans (a:=numOf c (highT c s (pathN s)).1 (highT c s (pathN s)).2) (b:=denOf (highT c s (pathN s)).2) (p:=numOf c (highT c s (pathN s)).1 s2.lo) (q:=denOf s2.lo) (x:=numOf c q.1 q.2.lo) (y:=denOf q.2.lo) (by simp only at hen2;omega) (by omega) (by omega) a3 a2
   omega
theorem best_next {m:Rm} (hS:Snd c s (pathN s) m) {seen:List Nat} {b:Bst} (hB:BOk c m seen b) {ix:Nat} {e:Int × Span} (he:m[ix]? = some e) :
 BOk c m (ix :: seen) (bNext c b e):=by
 have hN:=Nat.le_refl (pathN s)
 have hem:=List.mem_of_getElem? he
 have hden:∀ p ∈ m,(0≤numOf c p.1 p.2.hi∧0<denOf p.2.hi)∧0≤numOf c p.1 p.2.lo∧0<denOf p.2.lo:=fun p hp=>by
  have a:=num_den hc hs (hS.2 p hp).1 hN
  have b:=num_den hc hs (hS.2 p hp).2 hN
  omega
 cases hb:b with
 |none =>
  have hse:=hB.1 hb
  subst hse
  refine⟨fun h=>(by cases h),fun p q h=>?_⟩
  injection h with h
  injection h with h1 h2
  subst h1 h2
  refine⟨hem,hem,fun i hi e' he'=>?_⟩
  rw[List.mem_singleton] at hi
  subst hi
  rw[he] at he'
  injection he' with he'
  subst he'
  exact⟨Int.le_refl _,Int.le_refl _⟩
 |some pq =>
  obtain⟨p,q⟩:=pq
  obtain⟨hp,hq,hall⟩:=hB.2 p q hb
  obtain⟨dp,_⟩:=hden p hp
  obtain⟨_,dq⟩:=hden q hq
  obtain⟨de1,de2⟩:=hden e hem
  refine⟨fun h=>(by cases h),fun p' q' h=>?_⟩
  injection h with h
  injection h with h1 h2
  have iff1:=fracF_le dp.1 dp.2 de1.1 de1.2
  have iff2:=fracF_le de2.1 de2.2 dq.1 dq.2
  have key1:p' ∈ m∧LeH c p' e∧∀ i,i ∈ seen→∀ e',m[i]? = some e'→LeH c p' e':=by
   by_cases hlt:(fh c e).1*(fh c p).2<(fh c p).1*(fh c e).2
   ·rw[dT hlt,cond_true] at h1
    subst h1
    refine⟨hem,Int.le_refl _,fun i hi e' he'=>?_⟩
    have hx:=(hall i hi e' he').1
    have hy:¬ (numOf c p.1 p.2.hi*denOf e.2.hi≤numOf c e.1 e.2.hi*denOf p.2.hi):=fun hh=>by
     have:=iff1.2 hh
     unfold fh at hlt
     omega
    have de':=(hden e' (List.mem_of_getElem? he')).1
    exact vle_trans (p:=numOf c p.1 p.2.hi) (q:=denOf p.2.hi) dp.2 (Int.le_of_lt de1.2) (Int.le_of_lt de'.2) (by omega) hx
   ·rw[dF hlt,cond_false] at h1
    subst h1
    refine⟨hp,iff1.1 (by unfold fh at hlt;omega),fun i hi e' he'=>(hall i hi e' he').1⟩
  have key2:q' ∈ m∧LeL c e q'∧∀ i,i ∈ seen→∀ e',m[i]? = some e'→LeL c e' q':=by
   by_cases hlt:(fl c e).1*(fl c q).2>(fl c q).1*(fl c e).2
   ·rw[dT hlt,cond_true] at h2
    subst h2
    refine⟨hem,Int.le_refl _,fun i hi e' he'=>?_⟩
    have hx:=(hall i hi e' he').2
    have hy:¬ (numOf c e.1 e.2.lo*denOf q.2.lo≤numOf c q.1 q.2.lo*denOf e.2.lo):=fun hh=>by
     have:=iff2.2 hh
     unfold fl at hlt
     omega
    have de':=(hden e' (List.mem_of_getElem? he')).2
    exact vle_trans (p:=numOf c q.1 q.2.lo) (q:=denOf q.2.lo) dq.2 (Int.le_of_lt de'.2) (Int.le_of_lt de2.2) hx (by omega)
   ·rw[dF hlt,cond_false] at h2
    subst h2
    refine⟨hq,iff2.1 (by unfold fl at hlt;omega),fun i hi e' he'=>(hall i hi e' he').2⟩
  refine⟨key1.1,key2.1,fun i hi e' he'=>?_⟩
  rcases List.mem_cons.1 hi with rfl | hi
  ·rw[he] at he'
   injection he' with he'
   subst he'
   exact⟨key1.2.1,key2.2.1⟩
  ·exact⟨key1.2.2 i hi e' he',key2.2.2 i hi e' he'⟩
theorem l26x3 (hF:1000000000<F) {m:Rm} (hI:Inv c s (pathN s) m):∀ j seen fu b,unseen m.length seen≤j→j<fu→BOk c m seen b →
 L26x3 (E F (d+3)) F c s fu .i64 (bl c b).1 .i64 (bl c b).2 .i64 (bh c b).1 .i64 (bh c b).2 m.length seen (encR m)=some (.ret (.tup [.agg [.int .i64 (lowF c s).1,.int .i64 (lowF c s).2],.agg [.int .i64 (highF c s).1,.int .i64 (highF c s).2],.int .i64 0])):=by
 have hN:=Nat.le_refl (pathN s)
 have hH:=hc.2.1
 intro j
 induction j with
 |zero =>
  intro seen fu b h hf hB
  obtain⟨fu,rfl⟩:=ex1 (n:=fu) (by omega)
  rw[L26x3s]
  simp only[encR_len,beq_self_eq_true,pT]
  refine nextK_some (fun ha=>?_) fun i hi hn=>?_
  ·obtain⟨e1,e2⟩:=best_end hc hs hI hB ha
   rw[e1,e2]
  ·have:=unseen_step hi hn
   omega
 |succ j ih =>
  intro seen fu b h hf hB
  obtain⟨fu,rfl⟩:=ex1 (n:=fu) (by omega)
  rw[L26x3s]
  simp only[encR_len,beq_self_eq_true,pT]
  refine nextK_some (fun ha=>?_) fun i hi hn=>?_
  ·obtain⟨e1,e2⟩:=best_end hc hs hI hB ha
   rw[e1,e2]
  ·have hu:=unseen_step hi hn
   have hat:m[i]? = some m[i]:=List.getElem?_eq_getElem hi
   generalize m[i]=pe at hat
   have hem:=List.mem_of_getElem? hat
   have hB':=best_next hc hs hI.1 hB hat
   have e:=ih (i :: seen) fu _ (by omega) (by omega) hB'
   have hr1:=(hI.1.2 pe hem).1
   have hr2:=(hI.1.2 pe hem).2
   have ri1:=reach_in hc hs hr1 hN
   have ri2:=reach_in hc hs hr2 hN
   have rn1:=num_den hc hs hr1 hN
   have rn2:=num_den hc hs hr2 hN
   have hm1:c.hold*pe.2.lo≤300*pe.2.lo:=Int.mul_le_mul_of_nonneg_right hH.2 ri1.2.2.1
   have hm2:c.hold*pe.2.hi≤300*pe.2.hi:=Int.mul_le_mul_of_nonneg_right hH.2 ri2.2.2.1
   have hm3:0≤c.hold*pe.2.lo:=Int.mul_nonneg (by omega) ri1.2.2.1
   have hm4:0≤c.hold*pe.2.hi:=Int.mul_nonneg (by omega) ri2.2.2.1
   have fi1:=fracF_in rn1.1 (show 0<denOf pe.2.lo by omega)
   have fi2:=fracF_in rn2.1 (show 0<denOf pe.2.hi by omega)
   have e69h:=s69 F (d+2) (numOf c pe.1 pe.2.hi) (denOf pe.2.hi) rn2.1 (by omega) (by omega) (by omega) (by omega)
   have e69l:=s69 F (d+2) (numOf c pe.1 pe.2.lo) (denOf pe.2.lo) rn1.1 (by omega) (by omega) (by omega) (by omega)
   unfold numOf denOf at e69h e69l
   simp (disch:=omega) only[tkEnt,encR_at,hat,Option.map,tkInt_i,tkAgg_a,tkCons_c,tkNil_n,decide_true,pT,wr,e69h,e69l,tkOut_ret]
   have eh:fracF (1000000*pe.1 - c.hold*pe.2.hi) (1000000 - pe.2.hi)=fh c pe:=rfl
   have el:fracF (1000000*pe.1 - c.hold*pe.2.lo) (1000000 - pe.2.lo)=fl c pe:=rfl
   rw[eh,el]
   cases hb:b with
   |none =>
    rw[hb] at e
    simp only[bl,bh,beq_self_eq_true,pT]
    exact e
   |some pq =>
    obtain⟨p,q⟩:=pq
    rw[hb] at e
    obtain⟨hp,hq,_⟩:=hB.2 p q hb
    have pn:=num_den hc hs (hI.1.2 p hp).2 hN
    have qn:=num_den hc hs (hI.1.2 q hq).1 hN
    have fi3:(0≤(fh c p).1∧(fh c p).1≤numOf c p.1 p.2.hi)∧0<(fh c p).2∧(fh c p).2≤denOf p.2.hi:=fracF_in pn.1 (by omega)
    have fi4:(0≤(fl c q).1∧(fl c q).1≤numOf c q.1 q.2.lo)∧0<(fl c q).2∧(fl c q).2≤denOf q.2.lo:=fracF_in qn.1 (by omega)
    have fi1':(0≤(fl c pe).1∧(fl c pe).1≤numOf c pe.1 pe.2.lo)∧0<(fl c pe).2∧(fl c pe).2≤denOf pe.2.lo:=fi1
    have fi2':(0≤(fh c pe).1∧(fh c pe).1≤numOf c pe.1 pe.2.hi)∧0<(fh c pe).2∧(fh c pe).2≤denOf pe.2.hi:=fi2
    have m1:=mul_in (a:=(fh c pe).1) (b:=(fh c p).2) (x:=300000000) (y:=1000000) (by omega) (by omega) (by omega) (by omega)
    have m2:=mul_in (a:=(fh c p).1) (b:=(fh c pe).2) (x:=300000000) (y:=1000000) (by omega) (by omega) (by omega) (by omega)
    have m3:=mul_in (a:=(fl c pe).1) (b:=(fl c q).2) (x:=300000000) (y:=1000000) (by omega) (by omega) (by omega) (by omega)
    have m4:=mul_in (a:=(fl c q).1) (b:=(fl c pe).2) (x:=300000000) (y:=1000000) (by omega) (by omega) (by omega) (by omega)
    rw[show bl c (some (p,q))=fh c p from rfl,show bh c (some (p,q))=fl c q from rfl]
    rw[show ((fh c p).2==0)=false by rw[beq_eq_false_iff_ne];omega,show ((fl c q).2==0)=false by rw[beq_eq_false_iff_ne];omega]
    simp only[pF]
    rw[wr (n:=(fh c pe).1*(fh c p).2) (by omega),wr (n:=(fh c p).1*(fh c pe).2) (by omega),wr (n:=(fl c pe).1*(fl c q).2) (by omega),wr (n:=(fl c q).1*(fl c pe).2) (by omega)]
    cases g1:decide ((fh c pe).1*(fh c p).2<(fh c p).1*(fh c pe).2)<;>cases g2:decide ((fl c pe).1*(fl c q).2>(fl c q).1*(fl c pe).2)
    all_goals
     simp only[bNext,bl,bh,g1,g2,cond_true,cond_false] at e
     simp only[pT,pF]
     exact e
end
end Go.Sim.Le

namespace Go.Sim.Le
open Go.Proofs
variable (F d:Nat)
end Go.Sim.Le

namespace Go.Sim.Le
open Go.Proofs
variable (F d:Nat)
theorem s26 (c:Cav) (s:Stg) (hB:c.slices.len<Big) (hCF:c.slices.len<F) (hF:1000000000<F):(E F (d+6)).pf 18 [.agg (eCav c),.agg (eStg s)] =
 some (.ret (.tup (if CavOk c∧StgOk c.slices.len s then [.agg [.int .i64 (lowF c s).1,.int .i64 (lowF c s).2],.agg [.int .i64 (highF c s).1,.int .i64 (highF c s).2],.int .i64 0] else [.agg [.int .i64 0,.int .i64 0],.agg [.int .i64 0,.int .i64 0],.int .i64 2]))):=by
 rw[E_pf,t26]
 simp only[s66 F d c hB hCF,tkOut_ret,tkBool_b]
 by_cases h1:CavOk c
 ·by_cases h2:StgOk c.slices.len s
  ·rw[if_pos ⟨h1,h2⟩]
   have hI:∀ m,Inv c s (pathN s) m→L26x3 (E F (d+5)) F c s F .i64 0 .i64 0 .i64 0 .i64 0 m.length [] (encR m)=some (.ret (.tup [.agg [.int .i64 (lowF c s).1,.int .i64 (lowF c s).2],.agg [.int .i64 (highF c s).1,.int .i64 (highF c s).2],.int .i64 0])):=fun m hm=>by
    have hlen:=snd_len h1 h2 (Nat.le_refl _) hm.1
    exact l26x3 F (d+2) h1 h2 hF hm m.length [] F none (unseen_le _ _) (by omega) ⟨fun _=>rfl,fun p q h=>by cases h⟩
   have e:=fun b0 b1 b2 b3 b4=>l26x0 F (d+2) h1 h2 hF b0 b1 b2 b3 b4 _ hI
   simp only[s67 F (d+3) c s hB,s68,tkOut_ret,tkBool_b,dT h1,dT h2,Bool.not_true,pF,tkFn_f,tkNil_n,tkCons_c,tkPtr_p,tkInt_i,Nat.beq_refl,Bool.and_self,pT,decide_true]
   unfold stepOf at e
   by_cases hd:s.out<s.into
   ·simp only[if_pos hd] at e
    rw[dT hd,pT];exact e _ _ _ _ _
   ·simp only[if_neg hd] at e
    rw[dF hd,pF];exact e _ _ _ _ _
  ·rw[if_neg (fun h=>h2 h.2)]
   simp only[s67 F (d+3) c s hB,tkOut_ret,tkBool_b,dT h1,dF h2,Bool.not_true,Bool.not_false,pF,pT]
 ·rw[if_neg (fun h=>h1 h.1)]
  simp only[dF h1,Bool.not_false,pT]
end Go.Sim.Le
