import Derived.Test.YtnhhcobpkblchaaGreatAg
import Derived.KernelRfl
import Derived.Test.YtnhhcobpkblchaaGreatRows
import Derived.IntWalk
set_option linter.unusedVariables false
set_option linter.unusedSimpArgs false
set_option linter.unusedSectionVars false
set_option maxRecDepth 100000
namespace Go.Sim.Le
open Go.RowKit Go.Proofs
open IntKind (wrap)
theorem t22 (a:Env) (f:Nat) (b:Cav) (d:Sl Stg) (c:Sl Int) (e:Int):(evFun Tryz.prog (cfg f) a 14 [.agg (eCav b),sl eStg 4 d,sl eInt 1 c,i64 e])=(tkOut (a.pf 42 [.agg (eCav b),sl eStg 4 d]) none (fun f=>tkInt f none fun f g=>bif decide (f = .i64) then bif g != 0 then some (.ret (.tup [.agg [i64 0,i64 0],.int f g])) else bif (c.len:Int) != (b.slices.len:Int) then some (.ret (.tup [.agg [i64 0,i64 0],i64 2])) else tkOut (a.pf 43 [i64 e]) none (fun f=>tkBool f none fun f=>bif !f then some (.ret (.tup [.agg [i64 0,i64 0],i64 2])) else tkOut (a.pf 45 [sl eInt 1 c,.fn (.func 46) [] [.rptr 1 1 (fun _=>[.fn (.func 43) [] []]) 0 0]]) none (fun f=>tkBool f none fun f=>bif f then some (.ret (.tup [.agg [i64 0,i64 0],i64 2])) else tkOut (a.pf 47 [.agg (eCav b),sl eStg 4 d,.agg [sl eInt 1 c,i64 e]]) none (fun a=>tkAgg a none fun a=>tkCons a none fun a b=>tkInt a none fun a c=>tkCons b none fun b d=>tkInt b none fun b e=>tkNil d none (some (.ret (.tup [.agg [.int a c,.int b e],i64 0])))) pK) pK) pK else none) pK):=by kernel_rfl
theorem t54 (a:Env) (b:Nat):(evFun Tryz.prog (cfg b) a 15 [])=some (.ret (.agg [.row false 3 7 (fun a=>List.take 7 (List.drop ((Min.min a 2)*7) [i64 900000,i64 1000000,i64 1200,i64 100,i64 20,i64 40,i64 1480000,i64 1000000,i64 1000000,i64 1100,i64 50,i64 30,i64 50,i64 3000000,i64 500000,i64 600000,i64 1000,i64 0,i64 40,i64 60,i64 3000000])),i64 100,i64 700000])):=by kernel_rfl
theorem t55 (a:Env) (b:Nat):(evFun Tryz.prog (cfg b) a 16 [])=some (.ret (.agg [i64 10,i64 2,i64 0,i64 3])):=by kernel_rfl
theorem t57 (a:Env) (d:Nat) (b:Cav) (c:Sl Stg):(evFun Tryz.prog (cfg d) a 42 [.agg (eCav b),sl eStg 4 c])=(bif decide ((c.len:Int)>8) then some (.ret (i64 3)) else tkOut (a.pf 98 [.agg (eCav b)]) none (fun d=>tkBool d none fun d=>bif !d then some (.ret (i64 2)) else tkOut (a.pf 99 [.agg (eCav b),sl eStg 4 c]) none (fun a=>tkBool a none fun a=>bif !a then some (.ret (i64 2)) else some (.ret (i64 0))) pK) pK):=by kernel_rfl
theorem t58 (a:Env) (c:Nat) (b:Int):(evFun Tryz.prog (cfg c) a 43 [i64 b])=(tkOut (a.pf 44 [i64 b,i64 (-1000),i64 1000]) none (fun a=>tkBool a none fun a=>some (.ret (.bool a))) pK):=by kernel_rfl
theorem t59 (d:Env) (e:Nat) (a b c:Int):(evFun Tryz.prog (cfg e) d 44 [i64 a,i64 b,i64 c])=(bif decide (a≥b) then some (.ret (.bool (decide (a≤c)))) else some (.ret (.bool false))):=by kernel_rfl
theorem t61 (a:Env) (c:Nat) (b:Int):(evFun Tryz.prog (cfg c) a 46 [i64 b,.rptr 1 1 (fun _=>[.fn (.func 43) [] []]) 0 0])=(tkOut (a.pf 43 [i64 b]) none (fun a=>tkBool a none fun a=>some (.ret (.bool (!a)))) pK):=by kernel_rfl
noncomputable def L62x0 (b:Env) (c:Nat) (d:Cav) (a:Sl Stg) (e:Mea) (f:Nat) (g:Int) (i:IntKind) (j:Int) (k:IntKind) (m:Int):Option Out:=atLoop Tryz.prog (cfg c) b 47 [.r,.r,.l,.r,.d] [] f { tm:=tmL 28 0 [(3,(.optr 0 0 0)),(5,(.optr 1 0 0)),(6,(.optr 2 0 0)),(7,(.optr 3 0 0)),(13,(sl eStg 4 a)),(14,(i64 (a.len:Int))),(15,(i64 g))],hp:=[.box 125 (eCav d) true,.box 130 (eMea e) true,.box 40 [i64 0,i64 0] true,.box 40 [.int i j,.int k m] true] }
theorem t62 (a:Env) (b:Nat) (c:Cav) (e:Sl Stg) (d:Mea):(evFun Tryz.prog (cfg b) a 47 [.agg (eCav c),sl eStg 4 e,.agg (eMea d)])=(tkOut (a.pf 101 [.agg (eCav c),.agg (eMea d)]) none (fun f=>tkAgg f none fun f=>tkCons f none fun f g=>tkInt f none fun f i=>tkCons g none fun g j=>tkInt g none fun g k=>tkNil j none (L62x0 a b c e d b (0:Int) f i g k)) pK):=by kernel_rfl
theorem L62x0s (c:Env) (k:Nat) (d:Cav) (b:Sl Stg) (e:Mea) (m:Nat) (a:Int) (f:IntKind) (g:Int) (i:IntKind) (j:Int):L62x0 c k d b e (m+1) a f g i j=(bif decide (a<(b.len:Int)) then bif decide (0≤a) then bif decide (a<(b.len:Int)) then tkOut (c.pf 103 [.agg (eCav d),.agg (eStg (b.el a.toNat)),.agg (eMea e)]) none (fun n=>tkAgg n none fun n=>tkCons n none fun n o=>tkInt n none fun n p=>tkCons o none fun o q=>tkInt o none fun o r=>tkNil q none (tkOut (c.pf 102 [.row false 2 2 (fun a=>List.take 2 (List.drop ((Min.min a 1)*2) [.int f g,.int i j,.int n p,.int o r]))]) none (fun f=>tkAgg f none fun f=>tkCons f none fun f g=>tkInt f none fun f i=>tkCons g none fun g j=>tkInt g none fun g n=>tkNil j none (L62x0 c k d b e m (wrap .i64 (a+1)) f i g n)) nK)) pK else none else none else some (.ret (.agg [.int f g,.int i j]))):=by kernel_rfl
theorem t66 (a:Env) (c:Nat) (b:Cav):(evFun Tryz.prog (cfg c) a 98 [.agg (eCav b)])=(tkOut (a.pf 44 [i64 (b.slices.len:Int),i64 1,i64 10]) none (fun c=>tkBool c none fun c=>bif c then tkOut (a.pf 44 [i64 b.hold,i64 1,i64 300]) none (fun c=>tkBool c none fun c=>bif c then tkOut (a.pf 44 [i64 b.oil,i64 0,i64 10000000000000]) none (fun c=>tkBool c none fun c=>bif c then tkOut (a.pf 153 [sl eSlc 7 b.slices,.fn (.func 154) [] []]) none (fun a=>tkBool a none fun a=>some (.ret (.bool (!a)))) pK else some (.ret (.bool false))) pK else some (.ret (.bool false))) pK else some (.ret (.bool false))) pK):=by kernel_rfl
theorem t68 (b:Env) (c:Nat) (a:Stg):(evFun Tryz.prog (cfg c) b 160 [.agg (eStg a)])=some (.ret (.fn (.func 185) [] [.rptr 1 4 (fun _=>eStg a) 0 0])):=by kernel_rfl
theorem t67 (b:Env) (d:Nat) (c:Cav) (a:Stg):(evFun Tryz.prog (cfg d) b 158 [.agg (eCav c),.agg (eStg a)])=(tkOut (b.pf 44 [i64 a.water,i64 1,i64 1000000]) none (fun d=>tkBool d none fun d=>bif d then tkOut (b.pf 44 [i64 a.into,i64 0,i64 (wrap .i64 ((c.slices.len:Int) - 1))]) none (fun d=>tkBool d none fun d=>bif d then tkOut (b.pf 44 [i64 a.out,i64 0,i64 (wrap .i64 ((c.slices.len:Int) - 1))]) none (fun d=>tkBool d none fun d=>bif d then bif a.into != a.out then tkOut (b.pf 44 [i64 a.blanket,i64 0,i64 (c.slices.len:Int)]) none (fun a=>tkBool a none fun a=>some (.ret (.bool a))) pK else some (.ret (.bool false)) else some (.ret (.bool false))) pK else some (.ret (.bool false))) pK else some (.ret (.bool false))) pK):=by kernel_rfl
noncomputable def L85x0 (b:Env) (c:Nat) (a:Sl Span) (d:Nat) (e f g:Int):Option Out:=atLoop Tryz.prog (cfg c) b 102 [.r,.r,.l,.r,.d] [] d { tm:=tmL 25 0 [(2,(.optr 0 0 0)),(3,(.optr 1 0 0)),(6,(sl eSpan 2 a)),(7,(i64 (a.len:Int))),(8,(i64 e))],hp:=[.box 40 [i64 0,i64 0] true,.box 40 [i64 f,i64 g] true] }
theorem t85 (b:Env) (a:Nat) (c:Sl Span):(evFun Tryz.prog (cfg a) b 102 [sl eSpan 2 c])=(L85x0 b a c a (0:Int) (0:Int) (0:Int)):=by kernel_rfl
theorem L85x0s (e:Env) (f:Nat) (b:Sl Span) (g:Nat) (a c d:Int):L85x0 e f b (g+1) a c d=(bif decide (a<(b.len:Int)) then bif decide (0≤a) then bif decide (a<(b.len:Int)) then L85x0 e f b g (wrap .i64 (a+1)) (wrap .i64 (c+(b.el a.toNat).lo)) (wrap .i64 (d+(b.el a.toNat).hi)) else none else none else some (.ret (.agg [i64 c,i64 d]))):=by kernel_rfl
theorem t86 (c:Env) (d:Nat) (b:Span) (a:Int):(evFun Tryz.prog (cfg d) c 159 [.agg (eSpan b),i64 a])=(bif decide (a<0) then some (.ret (.agg [i64 (wrap .i64 (a*b.hi)),i64 (wrap .i64 (a*b.lo))])) else some (.ret (.agg [i64 (wrap .i64 (a*b.lo)),i64 (wrap .i64 (a*b.hi))]))):=by kernel_rfl
theorem t90 (a:Env) (d:Nat) (b:Cav) (c:Sl Stg):(evFun Tryz.prog (cfg d) a 99 [.agg (eCav b),sl eStg 4 c])=(tkOut (a.pf 156 [sl eStg 4 c,.fn (.func 157) [] [.rptr 1 3 (fun _=>eCav b) 0 0]]) none (fun a=>tkBool a none fun a=>some (.ret (.bool (!a)))) pK):=by kernel_rfl
noncomputable def L92x0 (b:Env) (c:Nat) (a:Cav) (d:Mea) (e:Nat) (f:Int) (g:IntKind) (i:Int) (j:IntKind) (k:Int):Option Out:=atLoop Tryz.prog (cfg c) b 101 [.r,.r,.l,.r,.d] [] e { tm:=tmL 30 0 [(3,(.optr 0 0 0)),(4,(.optr 1 0 0)),(5,(.optr 2 0 0)),(10,(sl eSlc 7 a.slices)),(11,(i64 (a.slices.len:Int))),(12,(i64 f))],hp:=[.box 130 (eMea d) true,.box 40 [i64 0,i64 0] true,.box 40 [.int g i,.int j k] true] }
theorem t92 (b:Env) (a:Nat) (c:Cav) (d:Mea):(evFun Tryz.prog (cfg a) b 101 [.agg (eCav c),.agg (eMea d)])=(L92x0 b a c d a (0:Int) .i64 0 .i64 0):=by kernel_rfl
theorem L92x0s (c:Env) (j:Nat) (b:Cav) (d:Mea) (k:Nat) (a:Int) (e:IntKind) (f:Int) (g:IntKind) (i:Int):L92x0 c j b d (k+1) a e f g i=(bif decide (a<(b.slices.len:Int)) then bif decide (0≤a) then bif decide (a<(b.slices.len:Int)) then bif decide (0≤a) then bif decide (a<(d.weights.len:Int)) then tkOut (c.pf 159 [.agg (eSpan (b.slices.el a.toNat).vol),i64 (d.weights.el a.toNat)]) none (fun m=>tkAgg m none fun m=>tkCons m none fun m n=>tkInt m none fun m o=>tkCons n none fun n p=>tkInt n none fun n q=>tkNil p none (tkOut (c.pf 102 [.row false 2 2 (fun a=>List.take 2 (List.drop ((Min.min a 1)*2) [.int e f,.int g i,.int m o,.int n q]))]) none (fun e=>tkAgg e none fun e=>tkCons e none fun e f=>tkInt e none fun e g=>tkCons f none fun f i=>tkInt f none fun f m=>tkNil i none (L92x0 c j b d k (wrap .i64 (a+1)) e g f m)) nK)) pK else none else none else none else none else some (.ret (.agg [.int e f,.int g i]))):=by kernel_rfl
theorem t96 (a:Env) (c:Nat) (b:Sl Slc):(evFun Tryz.prog (cfg c) a 153 [sl eSlc 7 b,.fn (.func 154) [] []])=(tkOut (a.pf 183 [sl eSlc 7 b,.fn (.func 154) [] []]) none (fun a=>tkInt a none fun a b=>bif decide (a = .i64) then some (.ret (.bool (decide (b≥0)))) else none) pK):=by kernel_rfl
noncomputable def L93x0 (d:Env) (e:Nat) (b:Cav) (a:Stg) (c:Mea) (f:Nat) (g:Nat→List V) (i:Int) (j:IntKind) (k:Int) (m:Nat→List V):Option Out:=atLoop Tryz.prog (cfg e) d 103 [.r,.r,.l,.r,.d,.g 185,.r,.r,.r,.d] [] f { tm:=tmL 24 0 [(0,(.yld 0)),(1,(.rptr 1 4 g 0 0)),(3,(i64 i)),(4,(.int j k))],hp:=[.lp,.box 125 (eCav b) true,.box 79 (eStg a) true,.box 130 (eMea c) true,.box 40 [i64 0,i64 0] true,.box 25 [nL] true],ext:=[.yld 0,.agg (eCav b),.agg (eStg a),.agg (eMea c),.optr 1 0 0,.optr 2 0 0,.optr 3 0 0,.optr 4 0 0,.optr 5 0 0,.undef,.undef,.undef,.agg (eStg a),.fn (.func 185) [] [.rptr 1 4 m 0 0],.undef,.undef,.undef,.undef,.undef,.undef,.undef,.undef,.undef,.undef,.undef,.undef,.undef,.undef,.undef,.undef] }
noncomputable def L93x1 (d:Env) (e:Nat) (b:Cav) (a:Stg) (c:Mea) (f:Nat) (g:Nat→List V) (i:Int) (j:IntKind) (k:Int) (m n:Nat) (o p:Nat→List V):Option Out:=atLoop Tryz.prog (cfg e) d 103 [.r,.r,.l,.r,.d,.g 185,.r,.r,.r,.d] [] f { tm:=tmL 24 0 [(0,(.yld 0)),(1,(.rptr 1 4 g 0 0)),(3,(i64 i)),(4,(.int j k))],hp:=[.lp,.box 125 (eCav b) true,.box 79 (eStg a) true,.box 130 (eMea c) true,.box 40 [i64 0,i64 0] true,.box 25 [.osl 6 0 m] true,.arr 3 1 n o true],ext:=[.yld 0,.agg (eCav b),.agg (eStg a),.agg (eMea c),.optr 1 0 0,.optr 2 0 0,.optr 3 0 0,.optr 4 0 0,.optr 5 0 0,.undef,.undef,.undef,.agg (eStg a),.fn (.func 185) [] [.rptr 1 4 p 0 0],.undef,.undef,.undef,.undef,.undef,.undef,.undef,.undef,.undef,.undef,.undef,.undef,.undef,.undef,.undef,.undef] }
theorem t93 (b:Env) (a:Nat) (d:Cav) (c:Stg) (e:Mea):(evFun Tryz.prog (cfg a) b 103 [.agg (eCav d),.agg (eStg c),.agg (eMea e)])=(tkOut (b.pf 160 [.agg (eStg c)]) none (fun f=>tkFn f none fun f g i=>bif Nat.beq f 185 then tkNil g none (tkCons i none fun f g=>tkPtr f none fun f i j k m=>bif ((Nat.beq f 1) && (Nat.beq i 4)) && ((Nat.beq k 0) && (Nat.beq m 0)) then tkCons (j 0) none fun f i=>tkInt f none fun f j=>tkCons i none fun i k=>tkInt i none fun i m=>tkCons k none fun k n=>tkInt k none fun k o=>tkCons n none fun n p=>tkInt n none fun n q=>tkNil p none (tkNil g none (bif decide (k=i) then bif decide (o<m) then L93x0 b a d c e a (fun _=>[.int f j,.int i m,.int k o,.int n q]) (-1) i m (fun _=>[.int f j,.int i m,.int k o,.int n q]) else L93x0 b a d c e a (fun _=>[.int f j,.int i m,.int k o,.int n q]) (1:Int) i m (fun _=>[.int f j,.int i m,.int k o,.int n q]) else none)) else none) else none) pK):=by kernel_rfl
theorem L93x0s (c:Env) (j:Nat) (d:Cav) (e:Stg) (f:Mea) (k:Nat) (g:Nat→List V) (i:Int) (a:IntKind) (b:Int) (m:Nat→List V):L93x0 c j d e f (k+1) g i a b m=(tkCons (List.drop 2 (g 0)) none fun n _=>tkInt n none fun n o=>bif decide (a=n) then bif b != o then bif decide (a = .i64) then L93x1 c j d e f k g i a (wrap a (b+i)) 1 1 (fun _=>[.int a b]) m else none else tkHv (c.hv 161 [.agg [i64 0,i64 d.hold],.optr 0 0 0,.optr 1 0 0,.optr 2 0 0,.optr 3 0 0,.optr 4 0 0] [.box 25 [.osl 5 0 1] true,.box 243 [.mapr 6] true,.box 125 (eCav d) true,.box 130 (eMea f) true,.box 244 [.fn (.func 161) [] [.optr 0 0 0,.optr 1 0 0,.optr 2 0 0,.optr 3 0 0,.optr 4 0 0]] true,.arr 3 1 1 (fun _=>[.int a b]) true,.mp true [KS.int .i64,KS.int .i64] [] true]) none fun a b=>tkAgg a none fun a=>tkCons a none fun a d=>tkInt a none fun a f=>tkCons d none fun d g=>tkInt d none fun d i=>tkNil g none (tkSCons b none fun b g=>tkBox b none fun b j k=>bif (Nat.beq b 25) && (k==true) then tkCons j none fun b j=>bif sameV 8 (.osl 5 0 1) b then tkNil j none (tkSCons g none fun b g=>tkBox b none fun b j k=>bif (Nat.beq b 243) && (k==true) then tkCons j none fun b j=>bif sameV 8 (.mapr 6) b then tkNil j none (tkSCons g none fun b g=>tkBox b none fun b j k=>bif (Nat.beq b 125) && (k==true) then tkCons j none fun b j=>tkRow b none fun _ _ _ _=>tkCons j none fun b j=>tkInt b none fun _ _=>tkCons j none fun b j=>tkInt b none fun _ _=>tkNil j none (tkSCons g none fun b g=>tkBox b none fun b j k=>bif (Nat.beq b 130) && (k==true) then tkCons j none fun b j=>tkRow b none fun _ _ _ _=>tkCons j none fun b j=>tkInt b none fun _ _=>tkNil j none (tkSCons g none fun b g=>tkBox b none fun b j k=>bif (Nat.beq b 244) && (k==true) then tkCons j none fun b j=>bif sameV 8 (.fn (.func 161) [] [.optr 0 0 0,.optr 1 0 0,.optr 2 0 0,.optr 3 0 0,.optr 4 0 0]) b then tkNil j none (tkSCons g none fun b g=>tkArr b none fun b j k _ m=>bif ((Nat.beq b 3) && (Nat.beq j 1)) && ((Nat.beq k 1) && (m==true)) then tkSCons g none fun b g=>tkMp b none fun b j _ k=>bif ((b==true) && (ksEq j [KS.int .i64,KS.int .i64])) && (k==true) then tkSNil g none (tkOut (c.pf 159 [.agg [.int a f,.int d i],i64 e.water]) none (fun a=>tkAgg a none fun a=>tkCons a none fun a b=>tkInt a none fun a c=>tkCons b none fun b d=>tkInt b none fun b e=>tkNil d none (some (.ret (.agg [.int a c,.int b e])))) nK) else none else none) else none else none) else none) else none) else none else none) else none else none) else none):=by kernel_rfl
theorem L93x1s (d:Env) (m:Nat) (e:Cav) (f:Stg) (g:Mea) (n:Nat) (i:Nat→List V) (j:Int) (b:IntKind) (c:Int) (a p:Nat) (k o:Nat→List V):L93x1 d m e f g (n+1) i j b c a p k o=(bif decide (((a+1)*8)≤140737488355328) then tkCons (List.drop 2 (i 0)) none fun p _=>tkInt p none fun p q=>bif decide (b=p) then bif c != q then bif decide (b = .i64) then L93x1 d m e f g n i j b (wrap b (c+j)) (a+1) (a+1) (appGet a k (fun _=>[.int b c])) o else none else tkHv (d.hv 161 [.agg [i64 0,i64 e.hold],.optr 0 0 0,.optr 1 0 0,.optr 2 0 0,.optr 3 0 0,.optr 4 0 0] [.box 25 [.osl 5 0 (a+1)] true,.box 243 [.mapr 6] true,.box 125 (eCav e) true,.box 130 (eMea g) true,.box 244 [.fn (.func 161) [] [.optr 0 0 0,.optr 1 0 0,.optr 2 0 0,.optr 3 0 0,.optr 4 0 0]] true,.arr 3 1 (a+1) (appGet a k (fun _=>[.int b c])) true,.mp true [KS.int .i64,KS.int .i64] [] true]) none fun b c=>tkAgg b none fun b=>tkCons b none fun b e=>tkInt b none fun b g=>tkCons e none fun e i=>tkInt e none fun e j=>tkNil i none (tkSCons c none fun c i=>tkBox c none fun c k m=>bif (Nat.beq c 25) && (m==true) then tkCons k none fun c k=>bif sameV 8 (.osl 5 0 (a+1)) c then tkNil k none (tkSCons i none fun c i=>tkBox c none fun c k m=>bif (Nat.beq c 243) && (m==true) then tkCons k none fun c k=>bif sameV 8 (.mapr 6) c then tkNil k none (tkSCons i none fun c i=>tkBox c none fun c k m=>bif (Nat.beq c 125) && (m==true) then tkCons k none fun c k=>tkRow c none fun _ _ _ _=>tkCons k none fun c k=>tkInt c none fun _ _=>tkCons k none fun c k=>tkInt c none fun _ _=>tkNil k none (tkSCons i none fun c i=>tkBox c none fun c k m=>bif (Nat.beq c 130) && (m==true) then tkCons k none fun c k=>tkRow c none fun _ _ _ _=>tkCons k none fun c k=>tkInt c none fun _ _=>tkNil k none (tkSCons i none fun c i=>tkBox c none fun c k m=>bif (Nat.beq c 244) && (m==true) then tkCons k none fun c k=>bif sameV 8 (.fn (.func 161) [] [.optr 0 0 0,.optr 1 0 0,.optr 2 0 0,.optr 3 0 0,.optr 4 0 0]) c then tkNil k none (tkSCons i none fun c i=>tkArr c none fun c k m _ n=>bif ((Nat.beq c 3) && (Nat.beq k 1)) && ((Nat.beq m (a+1)) && (n==true)) then tkSCons i none fun a c=>tkMp a none fun a i _ k=>bif ((a==true) && (ksEq i [KS.int .i64,KS.int .i64])) && (k==true) then tkSNil c none (tkOut (d.pf 159 [.agg [.int b g,.int e j],i64 f.water]) none (fun a=>tkAgg a none fun a=>tkCons a none fun a b=>tkInt a none fun a c=>tkCons b none fun b d=>tkInt b none fun b e=>tkNil d none (some (.ret (.agg [.int a c,.int b e])))) nK) else none else none) else none else none) else none) else none) else none else none) else none else none) else none else none):=by kernel_rfl
theorem t107 (a:Env) (d:Nat) (b:Cav) (c:Sl Stg):(evFun Tryz.prog (cfg d) a 156 [sl eStg 4 c,.fn (.func 157) [] [.rptr 1 3 (fun _=>eCav b) 0 0]])=(tkOut (a.pf 184 [sl eStg 4 c,.fn (.func 157) [] [.rptr 1 3 (fun _=>eCav b) 0 0]]) none (fun a=>tkInt a none fun a b=>bif decide (a = .i64) then some (.ret (.bool (decide (b≥0)))) else none) pK):=by kernel_rfl
theorem t98 (d:Env) (e:Nat) (a:Span) (b c:Int):(evFun Tryz.prog (cfg e) d 155 [.agg (eSpan a),i64 b,i64 c])=(bif decide (a.lo≥b) then bif decide (a.lo≤a.hi) then some (.ret (.bool (decide (a.hi≤c)))) else some (.ret (.bool false)) else some (.ret (.bool false))):=by kernel_rfl
theorem t97 (b:Env) (c:Nat) (a:Slc):(evFun Tryz.prog (cfg c) b 154 [.agg (eSlc a)])=(tkOut (b.pf 155 [.agg (eSpan a.vol),i64 0,i64 10000000000000]) none (fun c=>tkBool c none fun c=>bif !c then some (.ret (.bool true)) else tkOut (b.pf 44 [i64 a.opn,i64 1000,i64 3000]) none (fun c=>tkBool c none fun c=>bif !c then some (.ret (.bool true)) else tkOut (b.pf 44 [i64 a.fall,i64 0,i64 (wrap .i64 (a.opn - 1))]) none (fun c=>tkBool c none fun c=>bif !c then some (.ret (.bool true)) else tkOut (b.pf 155 [.agg (eSpan a.rate),i64 0,i64 300]) none (fun c=>tkBool c none fun c=>bif !c then some (.ret (.bool true)) else tkOut (b.pf 44 [i64 a.most,i64 0,i64 10000000000000]) none (fun a=>tkBool a none fun a=>some (.ret (.bool (!a)))) pK) pK) pK) pK) pK):=by kernel_rfl
theorem t108 (a:Env) (d:Nat) (b:Cav) (c:Stg):(evFun Tryz.prog (cfg d) a 157 [.agg (eStg c),.rptr 1 3 (fun _=>eCav b) 0 0])=(tkOut (a.pf 158 [.agg (eCav b),.agg (eStg c)]) none (fun a=>tkBool a none fun a=>some (.ret (.bool (!a)))) pK):=by kernel_rfl
theorem t110 (d:Env) (e:Nat) (b:Cav) (c:Mea) (a:Int):(evFun Tryz.prog (cfg e) d 162 [.agg (eCav b),.agg (eMea c),i64 a])=(bif decide (0≤a) then bif decide (a<(b.slices.len:Int)) then bif decide (0≤a) then bif decide (a<(c.weights.len:Int)) then bif decide (0≤a) then bif decide (a<(b.slices.len:Int)) then some (.ret (i64 (wrap .i64 ((wrap .i64 ((b.slices.el a.toNat).opn*(c.weights.el a.toNat)))+(wrap .i64 ((b.slices.el a.toNat).fall*c.sump)))))) else none else none else none else none else none else none):=by kernel_rfl
noncomputable def L111x0 (b:Env) (c:Nat) (a:Sl Slc) (d:Nat) (e:Int):Option Out:=atLoop Tryz.prog (cfg c) b 183 [.r,.l,.r,.d] [] d { tm:=tmL 19 0 [(0,(sl eSlc 7 a)),(1,(.fn (.func 154) [] [])),(7,(i64 (a.len:Int))),(8,(i64 e))],hp:=[] }
theorem t111 (b:Env) (a:Nat) (c:Sl Slc):(evFun Tryz.prog (cfg a) b 183 [sl eSlc 7 c,.fn (.func 154) [] []])=(L111x0 b a c a (0:Int)):=by kernel_rfl
theorem L111x0s (c:Env) (d:Nat) (b:Sl Slc) (e:Nat) (a:Int):L111x0 c d b (e+1) a=(bif decide (a<(b.len:Int)) then bif decide (0≤a) then bif decide (a<(b.len:Int)) then tkOut (c.pf 154 [.agg (eSlc (b.el a.toNat))]) none (fun f=>tkBool f none fun f=>bif f then some (.ret (i64 a)) else L111x0 c d b e (wrap .i64 (a+1))) pK else none else none else some (.ret (i64 (-1)))):=by kernel_rfl
noncomputable def L114x0 (b:Env) (c:Nat) (d:Cav) (a:Sl Stg) (e:Nat) (f:Int):Option Out:=atLoop Tryz.prog (cfg c) b 184 [.r,.l,.r,.d] [] e { tm:=tmL 19 0 [(0,(sl eStg 4 a)),(1,(.fn (.func 157) [] [.rptr 1 3 (fun _=>eCav d) 0 0])),(7,(i64 (a.len:Int))),(8,(i64 f))],hp:=[] }
theorem t114 (b:Env) (a:Nat) (c:Cav) (d:Sl Stg):(evFun Tryz.prog (cfg a) b 184 [sl eStg 4 d,.fn (.func 157) [] [.rptr 1 3 (fun _=>eCav c) 0 0]])=(L114x0 b a c d a (0:Int)):=by kernel_rfl
theorem L114x0s (c:Env) (e:Nat) (d:Cav) (b:Sl Stg) (f:Nat) (a:Int):L114x0 c e d b (f+1) a=(bif decide (a<(b.len:Int)) then bif decide (0≤a) then bif decide (a<(b.len:Int)) then tkOut (c.pf 157 [.agg (eStg (b.el a.toNat)),.rptr 1 3 (fun _=>eCav d) 0 0]) none (fun g=>tkBool g none fun g=>bif g then some (.ret (i64 a)) else L114x0 c e d b f (wrap .i64 (a+1))) pK else none else none else some (.ret (i64 (-1)))):=by kernel_rfl
theorem tK4 (a:Env) (c:Nat) (b:Sl Int):(evFun Tryz.prog (cfg c) a 45 [sl eInt 1 b,.fn (.func 46) [] [.rptr 1 1 (fun _=>[.fn (.func 43) [] []]) 0 0]])=(tkOut (a.pf 100 [sl eInt 1 b,.fn (.func 46) [] [.rptr 1 1 (fun _=>[.fn (.func 43) [] []]) 0 0]]) none (fun a=>tkInt a none fun a b=>bif decide (a = .i64) then some (.ret (.bool (decide (b≥0)))) else none) pK):=by kernel_rfl
noncomputable def LD2x0 (b:Env) (c:Nat) (a:Sl Int) (d:Nat) (e:Int):Option Out:=atLoop Tryz.prog (cfg c) b 100 [.r,.l,.r,.d] [] d { tm:=tmL 19 0 [(0,(sl eInt 1 a)),(1,(.fn (.func 46) [] [.rptr 1 1 (fun _=>[.fn (.func 43) [] []]) 0 0])),(7,(i64 (a.len:Int))),(8,(i64 e))],hp:=[] }
theorem tD2 (b:Env) (a:Nat) (c:Sl Int):(evFun Tryz.prog (cfg a) b 100 [sl eInt 1 c,.fn (.func 46) [] [.rptr 1 1 (fun _=>[.fn (.func 43) [] []]) 0 0]])=(LD2x0 b a c a (0:Int)):=by kernel_rfl
theorem LD2x0s (c:Env) (d:Nat) (b:Sl Int) (e:Nat) (a:Int):LD2x0 c d b (e+1) a=(bif decide (a<(b.len:Int)) then bif decide (0≤a) then bif decide (a<(b.len:Int)) then tkOut (c.pf 46 [i64 (b.el a.toNat),.rptr 1 1 (fun _=>[.fn (.func 43) [] []]) 0 0]) none (fun f=>tkBool f none fun f=>bif f then some (.ret (i64 a)) else LD2x0 c d b e (wrap .i64 (a+1))) pK else none else none else some (.ret (i64 (-1)))):=by kernel_rfl
end Go.Sim.Le
namespace Go.Sim.Pl
open Go.Sim.Le (cfg E E_pf E_hv names look)
open Go.Proofs
open IntKind (wrap)
noncomputable def LA1x0 (d:Env) (e:Nat) (f:Sto) (b:Dy) (g i j:Int) (a:Nat) (q k:Nat→List V) (c:Nat) (m:Nat→List V) (n:Nat) (o:Int) (p:Nat→List V):Option (Out × List Slot):=atLoopH Tryz.prog (cfg e) d 83 [.r,.d] [] n { tm:=tmL 112 0 [(0,(.optr 0 0 0)),(9,(sl eTrd 5 b.trades)),(10,(i64 (b.trades.len:Int))),(11,(i64 o))],hp:=[.box 175 (sd f b g [.osl 1 0 a,i64 i,i64 j,.osl 2 0 a,.osl 3 0 c,nL,nL,nL,nL]) true,.arr 3 1 a p true,.arr 3 1 a k true,.arr 112 5 c m true],ext:=[.blk 0,.blk 1,.blk 2,.blk 3] }
noncomputable def LA1x1 (d:Env) (e:Nat) (f:Sto) (b:Dy) (g i j:Int) (a:Nat) (u k:Nat→List V) (c:Nat) (m:Nat→List V) (n:Nat) (o:Int) (p:Nat) (q:Nat→List V) (r:Nat) (t:Nat→List V):Option (Out × List Slot):=atLoopH Tryz.prog (cfg e) d 83 [.r,.d] [] n { tm:=tmL 112 0 [(0,(.optr 0 0 0)),(9,(sl eTrd 5 b.trades)),(10,(i64 (b.trades.len:Int))),(11,(i64 o))],hp:=[.box 175 (sd f b g [.osl 1 0 a,i64 i,i64 j,.osl 2 0 a,.osl 3 0 c,nL,nL,nL,.osl 4 0 p]) true,.arr 3 1 a q true,.arr 3 1 a k true,.arr 112 5 c m true,.arr 3 1 r t true],ext:=[.blk 0,.blk 1,.blk 2,.blk 3] }
noncomputable def LA1x2 (c:Env) (d:Nat) (e:Sto) (b:Dy) (f g i:Int) (a:Nat) (r j:Nat→List V) (t:Nat) (u:Nat→List V) (k:Nat) (m:Int) (n:Nat) (o:Nat→List V) (p:Nat) (q:Nat→List V):Option (Out × List Slot):=atLoopH Tryz.prog (cfg d) c 83 [.r,.d] [] k { tm:=tmL 112 0 [(0,(.optr 0 0 0)),(9,(sl eTrd 5 b.trades)),(10,(i64 (b.trades.len:Int))),(11,(i64 m))],hp:=[.box 175 (sd e b f [.osl 1 0 a,i64 g,i64 i,.osl 2 0 a,.osl 4 0 n,nL,nL,nL,nL]) true,.arr 3 1 a o true,.arr 3 1 a j true,.dead,.arr 112 5 p q true],ext:=[.blk 0,.blk 1,.blk 2,.blk 3] }
noncomputable def LA1x3 (c:Env) (d:Nat) (e:Sto) (b:Dy) (f g i:Int) (a:Nat) (v j:Nat→List V) (w:Nat) (x:Nat→List V) (k:Nat) (m:Int) (n o:Nat) (p:Nat→List V) (q:Nat) (r:Nat→List V) (t:Nat) (u:Nat→List V):Option (Out × List Slot):=atLoopH Tryz.prog (cfg d) c 83 [.r,.d] [] k { tm:=tmL 112 0 [(0,(.optr 0 0 0)),(9,(sl eTrd 5 b.trades)),(10,(i64 (b.trades.len:Int))),(11,(i64 m))],hp:=[.box 175 (sd e b f [.osl 1 0 a,i64 g,i64 i,.osl 2 0 a,.osl 4 0 n,nL,nL,nL,.osl 5 0 o]) true,.arr 3 1 a p true,.arr 3 1 a j true,.dead,.arr 112 5 q r true,.arr 3 1 t u true],ext:=[.blk 0,.blk 1,.blk 2,.blk 3] }
theorem tA1 (e:Env) (b:Nat) (f:Sto) (g:Dy) (i j k:Int) (a:Nat) (c m:Nat→List V) (d:Nat) (n:Nat→List V):(evFunH Tryz.prog (cfg b) e 83 [.optr 0 0 0] [.box 175 (sd f g i [.osl 1 0 a,i64 j,i64 k,.osl 2 0 a,.osl 3 0 d,nL,nL,nL,nL]) true,.arr 3 1 a c true,.arr 3 1 a m true,.arr 112 5 d n true])=(LA1x0 e b f g i j k a c m d n b (0:Int) c):=by kernel_rfl
theorem LA1x0s (n:Env) (o:Nat) (i:Sto) (b:Dy) (g j k:Int) (c:Nat) (p m:Nat→List V) (d:Nat) (f:Nat→List V) (q:Nat) (a:Int) (e:Nat→List V):LA1x0 n o i b g j k c p m d f (q+1) a e=(bif decide (a<(b.trades.len:Int)) then bif decide (0≤a) then bif decide (a<(b.trades.len:Int)) then bif (b.trades.el a.toNat).hour != g then LA1x0 n o i b g j k c p m d f q (wrap .i64 (a+1)) e else bif decide (0≤(b.trades.el a.toNat).src) then bif decide ((b.trades.el a.toNat).src<(c:Int)) then tkCons (e (Int.toNat (b.trades.el a.toNat).src)) none fun r _=>tkInt r none fun r t=>bif decide (r = .i64) then bif decide (t<(b.trades.el a.toNat).amount) then LA1x1 n o i b g j k c p m d f q (wrap .i64 (a+1)) 1 e 1 (fun _=>[i64 a]) else tkOut (n.pf 137 [.rptr 1 19 (fun _=>sd i b g [.row false c 1 (fun a=>e a),i64 j,i64 k,.row false c 1 (fun a=>m a),.row false d 5 (fun a=>f a),nL,nL,nL,nL]) 0 0,i64 (b.trades.el a.toNat).dst]) none (fun r=>tkInt r none fun r t=>bif decide (r = .i64) then bif decide (t<(b.trades.el a.toNat).amount) then LA1x1 n o i b g j k c p m d f q (wrap .i64 (a+1)) 1 e 1 (fun _=>[i64 a]) else bif (b.trades.el a.toNat).back != (-1) then bif decide ((d:Int)≥50) then LA1x1 n o i b g j k c p m d f q (wrap .i64 (a+1)) 1 e 1 (fun _=>[i64 a]) else bif decide (0≤(b.trades.el a.toNat).src) then bif decide ((b.trades.el a.toNat).src<(c:Int)) then tkCons (e (Int.toNat (b.trades.el a.toNat).src)) none fun r _=>tkInt r none fun r t=>bif decide (r = .i64) then bif decide (0≤(b.trades.el a.toNat).src) then bif decide ((b.trades.el a.toNat).src<(c:Int)) then bif decide (0≤(b.trades.el a.toNat).dst) then bif decide ((b.trades.el a.toNat).dst<(c:Int)) then tkCons (updGet e (Int.toNat (b.trades.el a.toNat).src) 0 [.int r (wrap r (t - (b.trades.el a.toNat).amount))] (Int.toNat (b.trades.el a.toNat).dst)) none fun u _=>tkInt u none fun u v=>bif decide (u = .i64) then bif decide (0≤(b.trades.el a.toNat).dst) then bif decide ((b.trades.el a.toNat).dst<(c:Int)) then bif (b.trades.el a.toNat).back != (-1) then bif decide (((d+1)*40)≤140737488355328) then LA1x2 n o i b g j k c p m d f q (wrap .i64 (a+1)) (d+1) (updGet (updGet e (Int.toNat (b.trades.el a.toNat).src) 0 [.int r (wrap r (t - (b.trades.el a.toNat).amount))]) (Int.toNat (b.trades.el a.toNat).dst) 0 [.int u (wrap u (v+(b.trades.el a.toNat).amount))]) (d+1) (appGet d f (fun _=>[i64 (b.trades.el a.toNat).hour,i64 (b.trades.el a.toNat).back,i64 (b.trades.el a.toNat).src,i64 (b.trades.el a.toNat).dst,i64 (b.trades.el a.toNat).amount])) else none else LA1x0 n o i b g j k c p m d f q (wrap .i64 (a+1)) (updGet (updGet e (Int.toNat (b.trades.el a.toNat).src) 0 [.int r (wrap r (t - (b.trades.el a.toNat).amount))]) (Int.toNat (b.trades.el a.toNat).dst) 0 [.int u (wrap u (v+(b.trades.el a.toNat).amount))]) else none else none else none else none else none else none else none else none else none else none else bif decide (0≤(b.trades.el a.toNat).src) then bif decide ((b.trades.el a.toNat).src<(c:Int)) then tkCons (e (Int.toNat (b.trades.el a.toNat).src)) none fun r _=>tkInt r none fun r t=>bif decide (r = .i64) then bif decide (0≤(b.trades.el a.toNat).src) then bif decide ((b.trades.el a.toNat).src<(c:Int)) then bif decide (0≤(b.trades.el a.toNat).dst) then bif decide ((b.trades.el a.toNat).dst<(c:Int)) then tkCons (updGet e (Int.toNat (b.trades.el a.toNat).src) 0 [.int r (wrap r (t - (b.trades.el a.toNat).amount))] (Int.toNat (b.trades.el a.toNat).dst)) none fun u _=>tkInt u none fun u v=>bif decide (u = .i64) then bif decide (0≤(b.trades.el a.toNat).dst) then bif decide ((b.trades.el a.toNat).dst<(c:Int)) then bif (b.trades.el a.toNat).back != (-1) then bif decide (((d+1)*40)≤140737488355328) then LA1x2 n o i b g j k c p m d f q (wrap .i64 (a+1)) (d+1) (updGet (updGet e (Int.toNat (b.trades.el a.toNat).src) 0 [.int r (wrap r (t - (b.trades.el a.toNat).amount))]) (Int.toNat (b.trades.el a.toNat).dst) 0 [.int u (wrap u (v+(b.trades.el a.toNat).amount))]) (d+1) (appGet d f (fun _=>[i64 (b.trades.el a.toNat).hour,i64 (b.trades.el a.toNat).back,i64 (b.trades.el a.toNat).src,i64 (b.trades.el a.toNat).dst,i64 (b.trades.el a.toNat).amount])) else none else LA1x0 n o i b g j k c p m d f q (wrap .i64 (a+1)) (updGet (updGet e (Int.toNat (b.trades.el a.toNat).src) 0 [.int r (wrap r (t - (b.trades.el a.toNat).amount))]) (Int.toNat (b.trades.el a.toNat).dst) 0 [.int u (wrap u (v+(b.trades.el a.toNat).amount))]) else none else none else none else none else none else none else none else none else none else none else none) nK else none else none else none else none else none else some ((.ret (.tup [])),[.box 175 (sd i b g [.osl 1 0 c,i64 j,i64 k,.osl 2 0 c,.row false d 5 (fun a=>f a),nL,nL,nL,nL]) true,.arr 3 1 c e true,.arr 3 1 c m true,.dead])):=by kernel_rfl
theorem LA1x1s (p:Env) (q:Nat) (j:Sto) (b:Dy) (i k m:Int) (c:Nat) (r n:Nat→List V) (d:Nat) (g:Nat→List V) (t:Nat) (a:Int) (e:Nat) (f:Nat→List V) (u:Nat) (o:Nat→List V):LA1x1 p q j b i k m c r n d g (t+1) a e f u o=(bif decide (a<(b.trades.len:Int)) then bif decide (0≤a) then bif decide (a<(b.trades.len:Int)) then bif (b.trades.el a.toNat).hour != i then LA1x1 p q j b i k m c r n d g t (wrap .i64 (a+1)) e f u o else bif decide (0≤(b.trades.el a.toNat).src) then bif decide ((b.trades.el a.toNat).src<(c:Int)) then tkCons (f (Int.toNat (b.trades.el a.toNat).src)) none fun v _=>tkInt v none fun v w=>bif decide (v = .i64) then bif decide (w<(b.trades.el a.toNat).amount) then bif decide (((e+1)*8)≤140737488355328) then LA1x1 p q j b i k m c r n d g t (wrap .i64 (a+1)) (e+1) f (e+1) (appGet e o (fun _=>[i64 a])) else none else tkOut (p.pf 137 [.rptr 1 19 (fun _=>sd j b i [.row false c 1 (fun a=>f a),i64 k,i64 m,.row false c 1 (fun a=>n a),.row false d 5 (fun a=>g a),nL,nL,nL,.row false e 1 (fun a=>o a)]) 0 0,i64 (b.trades.el a.toNat).dst]) none (fun v=>tkInt v none fun v w=>bif decide (v = .i64) then bif decide (w<(b.trades.el a.toNat).amount) then bif decide (((e+1)*8)≤140737488355328) then LA1x1 p q j b i k m c r n d g t (wrap .i64 (a+1)) (e+1) f (e+1) (appGet e o (fun _=>[i64 a])) else none else bif (b.trades.el a.toNat).back != (-1) then bif decide ((d:Int)≥50) then bif decide (((e+1)*8)≤140737488355328) then LA1x1 p q j b i k m c r n d g t (wrap .i64 (a+1)) (e+1) f (e+1) (appGet e o (fun _=>[i64 a])) else none else bif decide (0≤(b.trades.el a.toNat).src) then bif decide ((b.trades.el a.toNat).src<(c:Int)) then tkCons (f (Int.toNat (b.trades.el a.toNat).src)) none fun v _=>tkInt v none fun v w=>bif decide (v = .i64) then bif decide (0≤(b.trades.el a.toNat).src) then bif decide ((b.trades.el a.toNat).src<(c:Int)) then bif decide (0≤(b.trades.el a.toNat).dst) then bif decide ((b.trades.el a.toNat).dst<(c:Int)) then tkCons (updGet f (Int.toNat (b.trades.el a.toNat).src) 0 [.int v (wrap v (w - (b.trades.el a.toNat).amount))] (Int.toNat (b.trades.el a.toNat).dst)) none fun x _=>tkInt x none fun x y=>bif decide (x = .i64) then bif decide (0≤(b.trades.el a.toNat).dst) then bif decide ((b.trades.el a.toNat).dst<(c:Int)) then bif (b.trades.el a.toNat).back != (-1) then bif decide (((d+1)*40)≤140737488355328) then LA1x3 p q j b i k m c r n d g t (wrap .i64 (a+1)) (d+1) e (updGet (updGet f (Int.toNat (b.trades.el a.toNat).src) 0 [.int v (wrap v (w - (b.trades.el a.toNat).amount))]) (Int.toNat (b.trades.el a.toNat).dst) 0 [.int x (wrap x (y+(b.trades.el a.toNat).amount))]) (d+1) (appGet d g (fun _=>[i64 (b.trades.el a.toNat).hour,i64 (b.trades.el a.toNat).back,i64 (b.trades.el a.toNat).src,i64 (b.trades.el a.toNat).dst,i64 (b.trades.el a.toNat).amount])) u o else none else LA1x1 p q j b i k m c r n d g t (wrap .i64 (a+1)) e (updGet (updGet f (Int.toNat (b.trades.el a.toNat).src) 0 [.int v (wrap v (w - (b.trades.el a.toNat).amount))]) (Int.toNat (b.trades.el a.toNat).dst) 0 [.int x (wrap x (y+(b.trades.el a.toNat).amount))]) u o else none else none else none else none else none else none else none else none else none else none else bif decide (0≤(b.trades.el a.toNat).src) then bif decide ((b.trades.el a.toNat).src<(c:Int)) then tkCons (f (Int.toNat (b.trades.el a.toNat).src)) none fun v _=>tkInt v none fun v w=>bif decide (v = .i64) then bif decide (0≤(b.trades.el a.toNat).src) then bif decide ((b.trades.el a.toNat).src<(c:Int)) then bif decide (0≤(b.trades.el a.toNat).dst) then bif decide ((b.trades.el a.toNat).dst<(c:Int)) then tkCons (updGet f (Int.toNat (b.trades.el a.toNat).src) 0 [.int v (wrap v (w - (b.trades.el a.toNat).amount))] (Int.toNat (b.trades.el a.toNat).dst)) none fun x _=>tkInt x none fun x y=>bif decide (x = .i64) then bif decide (0≤(b.trades.el a.toNat).dst) then bif decide ((b.trades.el a.toNat).dst<(c:Int)) then bif (b.trades.el a.toNat).back != (-1) then bif decide (((d+1)*40)≤140737488355328) then LA1x3 p q j b i k m c r n d g t (wrap .i64 (a+1)) (d+1) e (updGet (updGet f (Int.toNat (b.trades.el a.toNat).src) 0 [.int v (wrap v (w - (b.trades.el a.toNat).amount))]) (Int.toNat (b.trades.el a.toNat).dst) 0 [.int x (wrap x (y+(b.trades.el a.toNat).amount))]) (d+1) (appGet d g (fun _=>[i64 (b.trades.el a.toNat).hour,i64 (b.trades.el a.toNat).back,i64 (b.trades.el a.toNat).src,i64 (b.trades.el a.toNat).dst,i64 (b.trades.el a.toNat).amount])) u o else none else LA1x1 p q j b i k m c r n d g t (wrap .i64 (a+1)) e (updGet (updGet f (Int.toNat (b.trades.el a.toNat).src) 0 [.int v (wrap v (w - (b.trades.el a.toNat).amount))]) (Int.toNat (b.trades.el a.toNat).dst) 0 [.int x (wrap x (y+(b.trades.el a.toNat).amount))]) u o else none else none else none else none else none else none else none else none else none else none else none) nK else none else none else none else none else none else some ((.ret (.tup [])),[.box 175 (sd j b i [.osl 1 0 c,i64 k,i64 m,.osl 2 0 c,.row false d 5 (fun a=>g a),nL,nL,nL,.row false e 1 (fun a=>o a)]) true,.arr 3 1 c f true,.arr 3 1 c n true,.dead])):=by kernel_rfl
theorem LA1x2s (n:Env) (o:Nat) (g:Sto) (b:Dy) (f i j:Int) (c:Nat) (p k:Nat→List V) (q:Nat) (r:Nat→List V) (t:Nat) (a:Int) (d:Nat) (e:Nat→List V) (u:Nat) (m:Nat→List V):LA1x2 n o g b f i j c p k q r (t+1) a d e u m=(bif decide (a<(b.trades.len:Int)) then bif decide (0≤a) then bif decide (a<(b.trades.len:Int)) then bif (b.trades.el a.toNat).hour != f then LA1x2 n o g b f i j c p k q r t (wrap .i64 (a+1)) d e u m else bif decide (0≤(b.trades.el a.toNat).src) then bif decide ((b.trades.el a.toNat).src<(c:Int)) then tkCons (e (Int.toNat (b.trades.el a.toNat).src)) none fun v _=>tkInt v none fun v w=>bif decide (v = .i64) then bif decide (w<(b.trades.el a.toNat).amount) then LA1x3 n o g b f i j c p k q r t (wrap .i64 (a+1)) d 1 e u m 1 (fun _=>[i64 a]) else tkOut (n.pf 137 [.rptr 1 19 (fun _=>sd g b f [.row false c 1 (fun a=>e a),i64 i,i64 j,.row false c 1 (fun a=>k a),.row false d 5 (fun a=>m a),nL,nL,nL,nL]) 0 0,i64 (b.trades.el a.toNat).dst]) none (fun v=>tkInt v none fun v w=>bif decide (v = .i64) then bif decide (w<(b.trades.el a.toNat).amount) then LA1x3 n o g b f i j c p k q r t (wrap .i64 (a+1)) d 1 e u m 1 (fun _=>[i64 a]) else bif (b.trades.el a.toNat).back != (-1) then bif decide ((d:Int)≥50) then LA1x3 n o g b f i j c p k q r t (wrap .i64 (a+1)) d 1 e u m 1 (fun _=>[i64 a]) else bif decide (0≤(b.trades.el a.toNat).src) then bif decide ((b.trades.el a.toNat).src<(c:Int)) then tkCons (e (Int.toNat (b.trades.el a.toNat).src)) none fun v _=>tkInt v none fun v w=>bif decide (v = .i64) then bif decide (0≤(b.trades.el a.toNat).src) then bif decide ((b.trades.el a.toNat).src<(c:Int)) then bif decide (0≤(b.trades.el a.toNat).dst) then bif decide ((b.trades.el a.toNat).dst<(c:Int)) then tkCons (updGet e (Int.toNat (b.trades.el a.toNat).src) 0 [.int v (wrap v (w - (b.trades.el a.toNat).amount))] (Int.toNat (b.trades.el a.toNat).dst)) none fun x _=>tkInt x none fun x y=>bif decide (x = .i64) then bif decide (0≤(b.trades.el a.toNat).dst) then bif decide ((b.trades.el a.toNat).dst<(c:Int)) then bif (b.trades.el a.toNat).back != (-1) then bif decide (((d+1)*40)≤140737488355328) then LA1x2 n o g b f i j c p k q r t (wrap .i64 (a+1)) (d+1) (updGet (updGet e (Int.toNat (b.trades.el a.toNat).src) 0 [.int v (wrap v (w - (b.trades.el a.toNat).amount))]) (Int.toNat (b.trades.el a.toNat).dst) 0 [.int x (wrap x (y+(b.trades.el a.toNat).amount))]) (d+1) (appGet d m (fun _=>[i64 (b.trades.el a.toNat).hour,i64 (b.trades.el a.toNat).back,i64 (b.trades.el a.toNat).src,i64 (b.trades.el a.toNat).dst,i64 (b.trades.el a.toNat).amount])) else none else LA1x2 n o g b f i j c p k q r t (wrap .i64 (a+1)) d (updGet (updGet e (Int.toNat (b.trades.el a.toNat).src) 0 [.int v (wrap v (w - (b.trades.el a.toNat).amount))]) (Int.toNat (b.trades.el a.toNat).dst) 0 [.int x (wrap x (y+(b.trades.el a.toNat).amount))]) u m else none else none else none else none else none else none else none else none else none else none else bif decide (0≤(b.trades.el a.toNat).src) then bif decide ((b.trades.el a.toNat).src<(c:Int)) then tkCons (e (Int.toNat (b.trades.el a.toNat).src)) none fun v _=>tkInt v none fun v w=>bif decide (v = .i64) then bif decide (0≤(b.trades.el a.toNat).src) then bif decide ((b.trades.el a.toNat).src<(c:Int)) then bif decide (0≤(b.trades.el a.toNat).dst) then bif decide ((b.trades.el a.toNat).dst<(c:Int)) then tkCons (updGet e (Int.toNat (b.trades.el a.toNat).src) 0 [.int v (wrap v (w - (b.trades.el a.toNat).amount))] (Int.toNat (b.trades.el a.toNat).dst)) none fun x _=>tkInt x none fun x y=>bif decide (x = .i64) then bif decide (0≤(b.trades.el a.toNat).dst) then bif decide ((b.trades.el a.toNat).dst<(c:Int)) then bif (b.trades.el a.toNat).back != (-1) then bif decide (((d+1)*40)≤140737488355328) then LA1x2 n o g b f i j c p k q r t (wrap .i64 (a+1)) (d+1) (updGet (updGet e (Int.toNat (b.trades.el a.toNat).src) 0 [.int v (wrap v (w - (b.trades.el a.toNat).amount))]) (Int.toNat (b.trades.el a.toNat).dst) 0 [.int x (wrap x (y+(b.trades.el a.toNat).amount))]) (d+1) (appGet d m (fun _=>[i64 (b.trades.el a.toNat).hour,i64 (b.trades.el a.toNat).back,i64 (b.trades.el a.toNat).src,i64 (b.trades.el a.toNat).dst,i64 (b.trades.el a.toNat).amount])) else none else LA1x2 n o g b f i j c p k q r t (wrap .i64 (a+1)) d (updGet (updGet e (Int.toNat (b.trades.el a.toNat).src) 0 [.int v (wrap v (w - (b.trades.el a.toNat).amount))]) (Int.toNat (b.trades.el a.toNat).dst) 0 [.int x (wrap x (y+(b.trades.el a.toNat).amount))]) u m else none else none else none else none else none else none else none else none else none else none else none) nK else none else none else none else none else none else some ((.ret (.tup [])),[.box 175 (sd g b f [.osl 1 0 c,i64 i,i64 j,.osl 2 0 c,.row false d 5 (fun a=>m a),nL,nL,nL,nL]) true,.arr 3 1 c e true,.arr 3 1 c k true,.dead])):=by kernel_rfl
theorem LA1x3s (p:Env) (q:Nat) (i:Sto) (b:Dy) (g j k:Int) (c:Nat) (r m:Nat→List V) (t:Nat) (u:Nat→List V) (v:Nat) (a:Int) (e d:Nat) (f:Nat→List V) (w:Nat) (n:Nat→List V) (x:Nat) (o:Nat→List V):LA1x3 p q i b g j k c r m t u (v+1) a e d f w n x o=(bif decide (a<(b.trades.len:Int)) then bif decide (0≤a) then bif decide (a<(b.trades.len:Int)) then bif (b.trades.el a.toNat).hour != g then LA1x3 p q i b g j k c r m t u v (wrap .i64 (a+1)) e d f w n x o else bif decide (0≤(b.trades.el a.toNat).src) then bif decide ((b.trades.el a.toNat).src<(c:Int)) then tkCons (f (Int.toNat (b.trades.el a.toNat).src)) none fun y _=>tkInt y none fun y z=>bif decide (y = .i64) then bif decide (z<(b.trades.el a.toNat).amount) then bif decide (((d+1)*8)≤140737488355328) then LA1x3 p q i b g j k c r m t u v (wrap .i64 (a+1)) e (d+1) f w n (d+1) (appGet d o (fun _=>[i64 a])) else none else tkOut (p.pf 137 [.rptr 1 19 (fun _=>sd i b g [.row false c 1 (fun a=>f a),i64 j,i64 k,.row false c 1 (fun a=>m a),.row false e 5 (fun a=>n a),nL,nL,nL,.row false d 1 (fun a=>o a)]) 0 0,i64 (b.trades.el a.toNat).dst]) none (fun y=>tkInt y none fun y z=>bif decide (y = .i64) then bif decide (z<(b.trades.el a.toNat).amount) then bif decide (((d+1)*8)≤140737488355328) then LA1x3 p q i b g j k c r m t u v (wrap .i64 (a+1)) e (d+1) f w n (d+1) (appGet d o (fun _=>[i64 a])) else none else bif (b.trades.el a.toNat).back != (-1) then bif decide ((e:Int)≥50) then bif decide (((d+1)*8)≤140737488355328) then LA1x3 p q i b g j k c r m t u v (wrap .i64 (a+1)) e (d+1) f w n (d+1) (appGet d o (fun _=>[i64 a])) else none else bif decide (0≤(b.trades.el a.toNat).src) then bif decide ((b.trades.el a.toNat).src<(c:Int)) then tkCons (f (Int.toNat (b.trades.el a.toNat).src)) none fun y _=>tkInt y none fun y z=>bif decide (y = .i64) then bif decide (0≤(b.trades.el a.toNat).src) then bif decide ((b.trades.el a.toNat).src<(c:Int)) then bif decide (0≤(b.trades.el a.toNat).dst) then bif decide ((b.trades.el a.toNat).dst<(c:Int)) then tkCons (updGet f (Int.toNat (b.trades.el a.toNat).src) 0 [.int y (wrap y (z - (b.trades.el a.toNat).amount))] (Int.toNat (b.trades.el a.toNat).dst)) none fun A _=>tkInt A none fun A B=>bif decide (A = .i64) then bif decide (0≤(b.trades.el a.toNat).dst) then bif decide ((b.trades.el a.toNat).dst<(c:Int)) then bif (b.trades.el a.toNat).back != (-1) then bif decide (((e+1)*40)≤140737488355328) then LA1x3 p q i b g j k c r m t u v (wrap .i64 (a+1)) (e+1) d (updGet (updGet f (Int.toNat (b.trades.el a.toNat).src) 0 [.int y (wrap y (z - (b.trades.el a.toNat).amount))]) (Int.toNat (b.trades.el a.toNat).dst) 0 [.int A (wrap A (B+(b.trades.el a.toNat).amount))]) (e+1) (appGet e n (fun _=>[i64 (b.trades.el a.toNat).hour,i64 (b.trades.el a.toNat).back,i64 (b.trades.el a.toNat).src,i64 (b.trades.el a.toNat).dst,i64 (b.trades.el a.toNat).amount])) x o else none else LA1x3 p q i b g j k c r m t u v (wrap .i64 (a+1)) e d (updGet (updGet f (Int.toNat (b.trades.el a.toNat).src) 0 [.int y (wrap y (z - (b.trades.el a.toNat).amount))]) (Int.toNat (b.trades.el a.toNat).dst) 0 [.int A (wrap A (B+(b.trades.el a.toNat).amount))]) w n x o else none else none else none else none else none else none else none else none else none else none else bif decide (0≤(b.trades.el a.toNat).src) then bif decide ((b.trades.el a.toNat).src<(c:Int)) then tkCons (f (Int.toNat (b.trades.el a.toNat).src)) none fun y _=>tkInt y none fun y z=>bif decide (y = .i64) then bif decide (0≤(b.trades.el a.toNat).src) then bif decide ((b.trades.el a.toNat).src<(c:Int)) then bif decide (0≤(b.trades.el a.toNat).dst) then bif decide ((b.trades.el a.toNat).dst<(c:Int)) then tkCons (updGet f (Int.toNat (b.trades.el a.toNat).src) 0 [.int y (wrap y (z - (b.trades.el a.toNat).amount))] (Int.toNat (b.trades.el a.toNat).dst)) none fun A _=>tkInt A none fun A B=>bif decide (A = .i64) then bif decide (0≤(b.trades.el a.toNat).dst) then bif decide ((b.trades.el a.toNat).dst<(c:Int)) then bif (b.trades.el a.toNat).back != (-1) then bif decide (((e+1)*40)≤140737488355328) then LA1x3 p q i b g j k c r m t u v (wrap .i64 (a+1)) (e+1) d (updGet (updGet f (Int.toNat (b.trades.el a.toNat).src) 0 [.int y (wrap y (z - (b.trades.el a.toNat).amount))]) (Int.toNat (b.trades.el a.toNat).dst) 0 [.int A (wrap A (B+(b.trades.el a.toNat).amount))]) (e+1) (appGet e n (fun _=>[i64 (b.trades.el a.toNat).hour,i64 (b.trades.el a.toNat).back,i64 (b.trades.el a.toNat).src,i64 (b.trades.el a.toNat).dst,i64 (b.trades.el a.toNat).amount])) x o else none else LA1x3 p q i b g j k c r m t u v (wrap .i64 (a+1)) e d (updGet (updGet f (Int.toNat (b.trades.el a.toNat).src) 0 [.int y (wrap y (z - (b.trades.el a.toNat).amount))]) (Int.toNat (b.trades.el a.toNat).dst) 0 [.int A (wrap A (B+(b.trades.el a.toNat).amount))]) w n x o else none else none else none else none else none else none else none else none else none else none else none) nK else none else none else none else none else none else some ((.ret (.tup [])),[.box 175 (sd i b g [.osl 1 0 c,i64 j,i64 k,.osl 2 0 c,.row false e 5 (fun a=>n a),nL,nL,nL,.row false d 1 (fun a=>o a)]) true,.arr 3 1 c f true,.arr 3 1 c m true,.dead])):=by kernel_rfl
noncomputable def LF3x0 (b:Env) (c:Nat) (a:Sto) (d:Dy) (e f g:Int) (i j:Nat) (k m:Nat→List V) (n:Bool) (o p:Nat) (q:Nat→List V) (r:Bool) (t u:Nat) (v:Nat→List V) (w:Nat) (x:Int) (y:Nat→List V):Option (Out × List Slot):=atLoopH Tryz.prog (cfg c) b 84 [.r,.r,.r,.d,.g 138,.r,.d] [] w { tm:=tmL 32 0 [(0,(.optr 0 0 0)),(1,(.yld 1)),(10,(sl eCon 11 a.cons)),(11,(i64 (a.cons.len:Int))),(12,(i64 x))],hp:=[.box 175 (sd a d e [.row true 0 i k,i64 f,i64 g,.row true 0 j m,.row n o p q,.osl 3 0 (a.cons.len:Int).toNat,nL,nL,.row r t u v]) true,.lp,.box 173 [.optr 0 0 0] true,.arr 3 1 (a.cons.len:Int).toNat y true],ext:=[.yld 1,.optr 0 0 0,.optr 2 0 0,.undef,.undef,.undef,.undef,.undef,.optr 0 0 0,.optr 0 0 0,.optr 0 0 0,.optr 0 0 0,.optr 0 0 5,sl eCon 11 a.cons,i64 (a.cons.len:Int),.osl 3 0 (a.cons.len:Int).toNat,.optr 0 0 0,.optr 0 0 15,.optr 0 0 15,.optr 0 0 0,.fn (.func 138) [.optr 0 0 0] [],.undef,.undef,.undef,.undef,.undef,.undef,.undef,.undef,.undef,.undef,.undef,.undef,.undef,.undef,.undef,.undef,.undef,.undef,.undef,.undef,.undef,.undef,.undef,.undef,.undef,.undef,.undef,.undef,.undef,.undef,.undef,.undef,.undef,.undef,.undef,.undef,.undef,.undef,.undef,.undef,.undef,.undef,.undef,.undef,.undef,.undef,.undef,.undef,.undef,.undef,.undef,.undef,.undef,.undef,.undef,.undef,.undef,.undef,.undef,.undef,.undef,.undef,.undef,.undef,.undef,.undef,.undef,.undef,.undef,.blk 0] }
theorem tF3 (c:Env) (b:Nat) (a:Sto) (d:Dy) (e f g:Int) (i j:Nat) (k m:Nat→List V) (n:Bool) (o p:Nat) (q:Nat→List V) (r:Bool) (t u:Nat) (v:Nat→List V):(evFunH Tryz.prog (cfg b) c 84 [.optr 0 0 0] [.box 175 (sd a d e [.row true 0 i k,i64 f,i64 g,.row true 0 j m,.row n o p q,nL,nL,nL,.row r t u v]) true])=(bif decide (0≤(a.cons.len:Int)) then bif decide ((a.cons.len:Int)≤(a.cons.len:Int)) then bif decide ((((8:Nat):Int)*(a.cons.len:Int))≤281474976710656) then bif decide ((a.cons.len:Int)≤9223372036854775807) then LF3x0 c b a d e f g i j k m n o p q r t u v b (0:Int) (fun _=>[i64 0]) else none else none else none else none):=by kernel_rfl
theorem LF3x0s (d:Env) (x:Nat) (c:Sto) (a:Dy) (e i j:Int) (f k:Nat) (g m:Nat→List V) (n:Bool) (o p:Nat) (q:Nat→List V) (r:Bool) (t u:Nat) (v:Nat→List V) (y:Nat) (b:Int) (w:Nat→List V):LF3x0 d x c a e i j f k g m n o p q r t u v (y+1) b w=(bif decide (b<(c.cons.len:Int)) then bif decide (0≤b) then bif decide (b<(c.cons.len:Int)) then tkOut (d.pf 176 [.agg (eCon (c.cons.el b.toNat)),i64 e]) none (fun z=>tkBool z none fun z=>bif z then tkOut (d.pf 139 [.agg (eSto c),sl eNom 4 a.noms,i64 b,i64 e]) none (fun z=>tkInt z none fun z A=>bif decide (z = .i64) then bif decide (A<0) then LF3x0 d x c a e i j f k g m n o p q r t u v y (wrap .i64 (b+1)) w else bif decide (0≤A) then bif decide (A<(a.noms.len:Int)) then bif f==1 then bif decide (0≤b) then bif decide (b<((0:Nat):Int)) then tkCons (g b.toNat) none fun z _=>tkInt z none fun z B=>tkOut (d.pf 140 [.agg (eCon (c.cons.el b.toNat)),.int z B]) none (fun z=>tkAgg z none fun z=>tkCons z none fun z B=>tkInt z none fun _ _=>tkCons B none fun z B=>tkInt z none fun _ z=>tkCons B none fun B C=>tkInt B none fun _ B=>tkNil C none (tkOut (d.pf 137 [.rptr 1 19 (fun _=>sd c a e [.row true 0 f g,i64 i,i64 j,.row true 0 k m,.row n o p q,.row false (c.cons.len:Int).toNat 1 (fun a=>w a),nL,nL,.row r t u v]) 0 0,i64 b]) none (fun C=>tkInt C none fun _ C=>bif f==1 then bif decide (0≤b) then bif decide (b<((0:Nat):Int)) then tkCons (g b.toNat) none fun D _=>tkInt D none fun _ D=>bif decide (0≤b) then bif decide (b<(((c.cons.len:Int).toNat:Nat):Int)) then LF3x0 d x c a e i j f k g m n o p q r t u v y (wrap .i64 (b+1)) (updGet w b.toNat 0 [i64 (wrap .i64 ((if (if C<(if z<(a.noms.el A.toNat).amount then z else (a.noms.el A.toNat).amount) then C else if z<(a.noms.el A.toNat).amount then z else (a.noms.el A.toNat).amount)<0 then (0:Int) else if C<(if z<(a.noms.el A.toNat).amount then z else (a.noms.el A.toNat).amount) then C else if z<(a.noms.el A.toNat).amount then z else (a.noms.el A.toNat).amount) - (if (if D<(if B<(wrap .i64 ((0:Int) - (a.noms.el A.toNat).amount)) then B else wrap .i64 ((0:Int) - (a.noms.el A.toNat).amount)) then D else if B<(wrap .i64 ((0:Int) - (a.noms.el A.toNat).amount)) then B else wrap .i64 ((0:Int) - (a.noms.el A.toNat).amount))<0 then (0:Int) else if D<(if B<(wrap .i64 ((0:Int) - (a.noms.el A.toNat).amount)) then B else wrap .i64 ((0:Int) - (a.noms.el A.toNat).amount)) then D else if B<(wrap .i64 ((0:Int) - (a.noms.el A.toNat).amount)) then B else wrap .i64 ((0:Int) - (a.noms.el A.toNat).amount))))]) else none else none else none else none else none) nK)) nK else none else none else none else none else none else none) nK else LF3x0 d x c a e i j f k g m n o p q r t u v y (wrap .i64 (b+1)) w) nK else none else none else some ((.ret (.tup [])),[.box 175 (sd c a e [.row true 0 f g,i64 i,i64 j,.row true 0 k m,.row n o p q,.osl 1 0 (c.cons.len:Int).toNat,nL,nL,.row r t u v]) true,.arr 3 1 (c.cons.len:Int).toNat w true])):=by kernel_rfl
noncomputable def LD0x0 (c:Env) (d:Nat) (a:Sto) (e:Dy) (f g i:Int) (b:Nat) (j k:Nat→List V) (m:Bool) (n o:Nat) (p:Nat→List V) (q:Bool) (r t:Nat) (u:Nat→List V) (v:Nat) (w:Int) (x:Nat→List V):Option (Out × List Slot):=atLoopH Tryz.prog (cfg d) c 84 [.r,.r,.r,.d,.g 138,.r,.d] [] v { tm:=tmL 32 0 [(0,(.optr 0 0 0)),(1,(.yld 1)),(10,(sl eCon 11 a.cons)),(11,(i64 (a.cons.len:Int))),(12,(i64 w))],hp:=[.box 175 (sd a e f [.osl 4 0 b,i64 g,i64 i,.osl 5 0 b,.row m n o p,.osl 3 0 (a.cons.len:Int).toNat,nL,nL,.row q r t u]) true,.lp,.box 173 [.optr 0 0 0] true,.arr 3 1 (a.cons.len:Int).toNat x true,.arr 3 1 b j true,.arr 3 1 b k true],ext:=[.yld 1,.optr 0 0 0,.optr 2 0 0,.undef,.undef,.undef,.undef,.undef,.optr 0 0 0,.optr 0 0 0,.optr 0 0 0,.optr 0 0 0,.optr 0 0 5,sl eCon 11 a.cons,i64 (a.cons.len:Int),.osl 3 0 (a.cons.len:Int).toNat,.optr 0 0 0,.optr 0 0 15,.optr 0 0 15,.optr 0 0 0,.fn (.func 138) [.optr 0 0 0] [],.undef,.undef,.undef,.undef,.undef,.undef,.undef,.undef,.undef,.undef,.undef,.undef,.undef,.undef,.undef,.undef,.undef,.undef,.undef,.undef,.undef,.undef,.undef,.undef,.undef,.undef,.undef,.undef,.undef,.undef,.undef,.undef,.undef,.undef,.undef,.undef,.undef,.undef,.undef,.undef,.undef,.undef,.undef,.undef,.undef,.undef,.undef,.undef,.undef,.undef,.undef,.undef,.undef,.undef,.undef,.undef,.undef,.undef,.undef,.undef,.undef,.undef,.undef,.undef,.undef,.undef,.undef,.undef,.undef,.blk 0,.blk 4,.blk 5] }
theorem tD0 (d:Env) (c:Nat) (a:Sto) (e:Dy) (f g i:Int) (b:Nat) (j k:Nat→List V) (m:Bool) (n o:Nat) (p:Nat→List V) (q:Bool) (r t:Nat) (u:Nat→List V):(evFunH Tryz.prog (cfg c) d 84 [.optr 0 0 0] [.box 175 (sd a e f [.osl 1 0 b,i64 g,i64 i,.osl 2 0 b,.row m n o p,nL,nL,nL,.row q r t u]) true,.arr 3 1 b j true,.arr 3 1 b k true])=(bif decide (0≤(a.cons.len:Int)) then bif decide ((a.cons.len:Int)≤(a.cons.len:Int)) then bif decide ((((8:Nat):Int)*(a.cons.len:Int))≤281474976710656) then bif decide ((a.cons.len:Int)≤9223372036854775807) then LD0x0 d c a e f g i b j k m n o p q r t u c (0:Int) (fun _=>[i64 0]) else none else none else none else none):=by kernel_rfl
theorem LD0x0s (e:Env) (w:Nat) (c:Sto) (a:Dy) (f i j:Int) (d:Nat) (g k:Nat→List V) (m:Bool) (n o:Nat) (p:Nat→List V) (q:Bool) (r t:Nat) (u:Nat→List V) (x:Nat) (b:Int) (v:Nat→List V):LD0x0 e w c a f i j d g k m n o p q r t u (x+1) b v=(bif decide (b<(c.cons.len:Int)) then bif decide (0≤b) then bif decide (b<(c.cons.len:Int)) then tkOut (e.pf 176 [.agg (eCon (c.cons.el b.toNat)),i64 f]) none (fun y=>tkBool y none fun y=>bif y then tkOut (e.pf 139 [.agg (eSto c),sl eNom 4 a.noms,i64 b,i64 f]) none (fun y=>tkInt y none fun y z=>bif decide (y = .i64) then bif decide (z<0) then LD0x0 e w c a f i j d g k m n o p q r t u x (wrap .i64 (b+1)) v else bif decide (0≤z) then bif decide (z<(a.noms.len:Int)) then bif decide (0≤b) then bif decide (b<(d:Int)) then tkCons (g b.toNat) none fun y _=>tkInt y none fun y A=>tkOut (e.pf 140 [.agg (eCon (c.cons.el b.toNat)),.int y A]) none (fun y=>tkAgg y none fun y=>tkCons y none fun y A=>tkInt y none fun _ _=>tkCons A none fun y A=>tkInt y none fun _ y=>tkCons A none fun A B=>tkInt A none fun _ A=>tkNil B none (tkOut (e.pf 137 [.rptr 1 19 (fun _=>sd c a f [.row false d 1 (fun a=>g a),i64 i,i64 j,.row false d 1 (fun a=>k a),.row m n o p,.row false (c.cons.len:Int).toNat 1 (fun a=>v a),nL,nL,.row q r t u]) 0 0,i64 b]) none (fun B=>tkInt B none fun _ B=>bif decide (0≤b) then bif decide (b<(d:Int)) then tkCons (g b.toNat) none fun C _=>tkInt C none fun _ C=>bif decide (0≤b) then bif decide (b<(((c.cons.len:Int).toNat:Nat):Int)) then LD0x0 e w c a f i j d g k m n o p q r t u x (wrap .i64 (b+1)) (updGet v b.toNat 0 [i64 (wrap .i64 ((if (if B<(if y<(a.noms.el z.toNat).amount then y else (a.noms.el z.toNat).amount) then B else if y<(a.noms.el z.toNat).amount then y else (a.noms.el z.toNat).amount)<0 then (0:Int) else if B<(if y<(a.noms.el z.toNat).amount then y else (a.noms.el z.toNat).amount) then B else if y<(a.noms.el z.toNat).amount then y else (a.noms.el z.toNat).amount) - (if (if C<(if A<(wrap .i64 ((0:Int) - (a.noms.el z.toNat).amount)) then A else wrap .i64 ((0:Int) - (a.noms.el z.toNat).amount)) then C else if A<(wrap .i64 ((0:Int) - (a.noms.el z.toNat).amount)) then A else wrap .i64 ((0:Int) - (a.noms.el z.toNat).amount))<0 then (0:Int) else if C<(if A<(wrap .i64 ((0:Int) - (a.noms.el z.toNat).amount)) then A else wrap .i64 ((0:Int) - (a.noms.el z.toNat).amount)) then C else if A<(wrap .i64 ((0:Int) - (a.noms.el z.toNat).amount)) then A else wrap .i64 ((0:Int) - (a.noms.el z.toNat).amount))))]) else none else none else none else none) nK)) nK else none else none else none else none else none) nK else LD0x0 e w c a f i j d g k m n o p q r t u x (wrap .i64 (b+1)) v) nK else none else none else some ((.ret (.tup [])),[.box 175 (sd c a f [.osl 1 0 d,i64 i,i64 j,.osl 2 0 d,.row m n o p,.osl 3 0 (c.cons.len:Int).toNat,nL,nL,.row q r t u]) true,.arr 3 1 d g true,.arr 3 1 d k true,.arr 3 1 (c.cons.len:Int).toNat v true])):=by kernel_rfl
theorem tM3 (d:Env) (x:Nat) (b:Sto) (e:Dy) (f g i:Int) (j k:Nat) (m n:Nat→List V) (o:Bool) (p q:Nat) (r:Nat→List V) (t:Bool) (u v:Nat) (w:Nat→List V) (a:Nat) (c:Nat→List V):(evFunH Tryz.prog (cfg x) d 85 [.optr 0 0 0] [.box 175 (sd b e f [.row true 0 j m,i64 g,i64 i,.row true 0 k n,.row o p q r,.osl 1 0 a,nL,nL,.row t u v w]) true,.arr 3 1 a c true])=(tkOut (d.pf 141 [.rptr 1 19 (fun _=>sd b e f [.row true 0 j m,i64 g,i64 i,.row true 0 k n,.row o p q r,.row false a 1 (fun a=>c a),nL,nL,.row t u v w]) 0 0]) none (fun x=>tkAgg x none fun x=>tkCons x none fun x y=>tkInt x none fun x z=>tkCons y none fun y A=>tkInt y none fun y B=>tkCons A none fun A C=>tkInt A none fun _ _=>tkCons C none fun A C=>tkInt A none fun _ _=>tkNil C none (tkOut (d.pf 142 [.agg (eSto b),.row false a 1 (fun a=>c a),.int x z,.int y B]) none (fun d=>tkRow d none fun d x y z=>some ((.ret (.tup [])),[.box 175 (sd b e f [.row true 0 j m,i64 g,i64 i,.row true 0 k n,.row o p q r,.row false a 1 (fun a=>c a),.row d x y z,nL,.row t u v w]) true,.dead])) nK)) nK):=by kernel_rfl
theorem tK9 (e:Env) (w:Nat) (c:Sto) (f:Dy) (g i j:Int) (a:Nat) (k m:Nat→List V) (n:Bool) (o p:Nat) (q:Nat→List V) (r:Bool) (t u:Nat) (v:Nat→List V) (b:Nat) (d:Nat→List V):(evFunH Tryz.prog (cfg w) e 85 [.optr 0 0 0] [.box 175 (sd c f g [.osl 1 0 a,i64 i,i64 j,.osl 2 0 a,.row n o p q,.osl 3 0 b,nL,nL,.row r t u v]) true,.arr 3 1 a k true,.arr 3 1 a m true,.arr 3 1 b d true])=(tkOut (e.pf 141 [.rptr 1 19 (fun _=>sd c f g [.row false a 1 (fun a=>k a),i64 i,i64 j,.row false a 1 (fun a=>m a),.row n o p q,.row false b 1 (fun a=>d a),nL,nL,.row r t u v]) 0 0]) none (fun w=>tkAgg w none fun w=>tkCons w none fun w x=>tkInt w none fun w y=>tkCons x none fun x z=>tkInt x none fun x A=>tkCons z none fun z B=>tkInt z none fun _ _=>tkCons B none fun z B=>tkInt z none fun _ _=>tkNil B none (tkOut (e.pf 142 [.agg (eSto c),.row false b 1 (fun a=>d a),.int w y,.int x A]) none (fun e=>tkRow e none fun e w x y=>some ((.ret (.tup [])),[.box 175 (sd c f g [.osl 1 0 a,i64 i,i64 j,.osl 2 0 a,.row n o p q,.row false b 1 (fun a=>d a),.row e w x y,nL,.row r t u v]) true,.arr 3 1 a k true,.arr 3 1 a m true,.dead])) nK)) nK):=by kernel_rfl
theorem tM4 (a:Env) (D:Nat) (f:Sto) (g:Dy) (i j k:Int) (m n:Nat) (o p:Nat→List V) (q:Bool) (r t:Nat) (u:Nat→List V) (v:Bool) (w x:Nat) (y:Nat→List V) (z:Bool) (A B:Nat) (C:Nat→List V) (b:Bool) (c d:Nat) (e:Nat→List V):(evFunH Tryz.prog (cfg D) a 86 [.optr 0 0 0] [.box 175 (sd f g i [.row true 0 m o,i64 j,i64 k,.row true 0 n p,.row q r t u,.row z A B C,.row b c d e,nL,.row v w x y]) true])=(tkOut (a.pf 141 [.rptr 1 19 (fun _=>sd f g i [.row true 0 m o,i64 j,i64 k,.row true 0 n p,.row q r t u,.row z A B C,.row b c d e,nL,.row v w x y]) 0 0]) none (fun D=>tkAgg D none fun D=>tkCons D none fun D G=>tkInt D none fun _ _=>tkCons G none fun D G=>tkInt D none fun _ _=>tkCons G none fun D G=>tkInt D none fun D H=>tkCons G none fun G I=>tkInt G none fun G J=>tkNil I none (tkOut (a.pf 143 [.row b c d e]) none (fun I=>tkTup I none fun I=>tkCons I none fun I K=>tkRow I none fun I M N O=>tkCons K none fun K P=>tkRow K none fun K Q R T=>tkNil P none (tkOut (a.pf 144 [.row I M N O]) none (fun P=>tkInt P none fun _ P=>tkOut (a.pf 144 [.row K Q R T]) none (fun U=>tkInt U none fun _ U=>tkHv (a.hv 147 [.int D (if P<H then P else H),.row I M N O,.fn (.func 145) [] []] []) none fun I M=>tkSl I none (fun I N O W=>bif I && (Nat.beq N 0) then tkSNil M none (tkHv (a.hv 147 [.int G (if U<J then U else J),.row K Q R T,.fn (.func 145) [] []] []) none fun I K=>tkSl I none (fun I M N Q=>bif I && (Nat.beq M 0) then tkSNil K none (tkOut (a.pf 146 [.row true 0 O W,.row true 0 N Q]) none (fun a=>tkRow a none fun a I K M=>bif decide (D=D) then bif decide (G=G) then bif decide (D=G) then bif decide (.i64=D) then some ((.ret (.tup [])),[.box 175 (sd f g i [.row true 0 m o,i64 (wrap .i64 (j+(wrap D ((wrap D (H - (if P<H then P else H))) - (wrap G (J - (if U<J then U else J))))))),i64 k,.row true 0 n p,.row q r t u,.row z A B C,.row b c d e,.row a I K M,.row v w x y]) true]) else none else none else none else none) nK) else none) (fun I M N=>bif (Nat.beq I 0) && (Nat.beq M 0) then tkSCons K none fun I K=>tkSNil K none (tkArr I none fun I K _ M Q=>bif ((Nat.beq I 3) && (Nat.beq K 1)) && (Q==true) then tkOut (a.pf 146 [.row true 0 O W,.row false N 1 (fun a=>M a)]) none (fun a=>tkRow a none fun a I K M=>bif decide (D=D) then bif decide (G=G) then bif decide (D=G) then bif decide (.i64=D) then some ((.ret (.tup [])),[.box 175 (sd f g i [.row true 0 m o,i64 (wrap .i64 (j+(wrap D ((wrap D (H - (if P<H then P else H))) - (wrap G (J - (if U<J then U else J))))))),i64 k,.row true 0 n p,.row q r t u,.row z A B C,.row b c d e,.row a I K M,.row v w x y]) true]) else none else none else none else none) nK else none) else none)) else none) (fun I N O=>bif (Nat.beq I 0) && (Nat.beq N 0) then tkSCons M none fun I M=>tkSNil M none (tkArr I none fun I M _ N W=>bif ((Nat.beq I 3) && (Nat.beq M 1)) && (W==true) then tkHv (a.hv 147 [.int G (if U<J then U else J),.row K Q R T,.fn (.func 145) [] []] []) none fun I K=>tkSl I none (fun I M Q R=>bif I && (Nat.beq M 0) then tkSNil K none (tkOut (a.pf 146 [.row false O 1 (fun a=>N a),.row true 0 Q R]) none (fun a=>tkRow a none fun a I K M=>bif decide (D=D) then bif decide (G=G) then bif decide (D=G) then bif decide (.i64=D) then some ((.ret (.tup [])),[.box 175 (sd f g i [.row true 0 m o,i64 (wrap .i64 (j+(wrap D ((wrap D (H - (if P<H then P else H))) - (wrap G (J - (if U<J then U else J))))))),i64 k,.row true 0 n p,.row q r t u,.row z A B C,.row b c d e,.row a I K M,.row v w x y]) true]) else none else none else none else none) nK) else none) (fun I M Q=>bif (Nat.beq I 0) && (Nat.beq M 0) then tkSCons K none fun I K=>tkSNil K none (tkArr I none fun I K _ M R=>bif ((Nat.beq I 3) && (Nat.beq K 1)) && (R==true) then tkOut (a.pf 146 [.row false O 1 (fun a=>N a),.row false Q 1 (fun a=>M a)]) none (fun a=>tkRow a none fun a I K M=>bif decide (D=D) then bif decide (G=G) then bif decide (D=G) then bif decide (.i64=D) then some ((.ret (.tup [])),[.box 175 (sd f g i [.row true 0 m o,i64 (wrap .i64 (j+(wrap D ((wrap D (H - (if P<H then P else H))) - (wrap G (J - (if U<J then U else J))))))),i64 k,.row true 0 n p,.row q r t u,.row z A B C,.row b c d e,.row a I K M,.row v w x y]) true]) else none else none else none else none) nK else none) else none) else none) else none)) nK) nK)) nK)) nK):=by kernel_rfl
theorem tM0 (b:Env) (C:Nat) (g:Sto) (i:Dy) (j k m:Int) (a:Nat) (n o:Nat→List V) (p:Bool) (q r:Nat) (t:Nat→List V) (u:Bool) (v w:Nat) (x:Nat→List V) (y:Bool) (z A:Nat) (B:Nat→List V) (c:Bool) (d e:Nat) (f:Nat→List V):(evFunH Tryz.prog (cfg C) b 86 [.optr 0 0 0] [.box 175 (sd g i j [.osl 1 0 a,i64 k,i64 m,.osl 2 0 a,.row p q r t,.row y z A B,.row c d e f,nL,.row u v w x]) true,.arr 3 1 a n true,.arr 3 1 a o true])=(tkOut (b.pf 141 [.rptr 1 19 (fun _=>sd g i j [.row false a 1 (fun a=>n a),i64 k,i64 m,.row false a 1 (fun a=>o a),.row p q r t,.row y z A B,.row c d e f,nL,.row u v w x]) 0 0]) none (fun C=>tkAgg C none fun C=>tkCons C none fun C D=>tkInt C none fun _ _=>tkCons D none fun C D=>tkInt C none fun _ _=>tkCons D none fun C D=>tkInt C none fun C G=>tkCons D none fun D H=>tkInt D none fun D I=>tkNil H none (tkOut (b.pf 143 [.row c d e f]) none (fun H=>tkTup H none fun H=>tkCons H none fun H J=>tkRow H none fun H K M N=>tkCons J none fun J O=>tkRow J none fun J P Q R=>tkNil O none (tkOut (b.pf 144 [.row H K M N]) none (fun O=>tkInt O none fun _ O=>tkOut (b.pf 144 [.row J P Q R]) none (fun T=>tkInt T none fun _ T=>tkHv (b.hv 147 [.int C (if O<G then O else G),.row H K M N,.fn (.func 145) [] []] []) none fun H K=>tkSl H none (fun H M N U=>bif H && (Nat.beq M 0) then tkSNil K none (tkHv (b.hv 147 [.int D (if T<I then T else I),.row J P Q R,.fn (.func 145) [] []] []) none fun H J=>tkSl H none (fun H K M P=>bif H && (Nat.beq K 0) then tkSNil J none (tkOut (b.pf 146 [.row true 0 N U,.row true 0 M P]) none (fun b=>tkRow b none fun b H J K=>bif decide (C=C) then bif decide (D=D) then bif decide (C=D) then bif decide (.i64=C) then some ((.ret (.tup [])),[.box 175 (sd g i j [.osl 1 0 a,i64 (wrap .i64 (k+(wrap C ((wrap C (G - (if O<G then O else G))) - (wrap D (I - (if T<I then T else I))))))),i64 m,.osl 2 0 a,.row p q r t,.row y z A B,.row c d e f,.row b H J K,.row u v w x]) true,.arr 3 1 a n true,.arr 3 1 a o true]) else none else none else none else none) nK) else none) (fun H K M=>bif (Nat.beq H 0) && (Nat.beq K 0) then tkSCons J none fun H J=>tkSNil J none (tkArr H none fun H J _ K P=>bif ((Nat.beq H 3) && (Nat.beq J 1)) && (P==true) then tkOut (b.pf 146 [.row true 0 N U,.row false M 1 (fun a=>K a)]) none (fun b=>tkRow b none fun b H J K=>bif decide (C=C) then bif decide (D=D) then bif decide (C=D) then bif decide (.i64=C) then some ((.ret (.tup [])),[.box 175 (sd g i j [.osl 1 0 a,i64 (wrap .i64 (k+(wrap C ((wrap C (G - (if O<G then O else G))) - (wrap D (I - (if T<I then T else I))))))),i64 m,.osl 2 0 a,.row p q r t,.row y z A B,.row c d e f,.row b H J K,.row u v w x]) true,.arr 3 1 a n true,.arr 3 1 a o true]) else none else none else none else none) nK else none) else none)) else none) (fun H M N=>bif (Nat.beq H 0) && (Nat.beq M 0) then tkSCons K none fun H K=>tkSNil K none (tkArr H none fun H K _ M U=>bif ((Nat.beq H 3) && (Nat.beq K 1)) && (U==true) then tkHv (b.hv 147 [.int D (if T<I then T else I),.row J P Q R,.fn (.func 145) [] []] []) none fun H J=>tkSl H none (fun H K P Q=>bif H && (Nat.beq K 0) then tkSNil J none (tkOut (b.pf 146 [.row false N 1 (fun a=>M a),.row true 0 P Q]) none (fun b=>tkRow b none fun b H J K=>bif decide (C=C) then bif decide (D=D) then bif decide (C=D) then bif decide (.i64=C) then some ((.ret (.tup [])),[.box 175 (sd g i j [.osl 1 0 a,i64 (wrap .i64 (k+(wrap C ((wrap C (G - (if O<G then O else G))) - (wrap D (I - (if T<I then T else I))))))),i64 m,.osl 2 0 a,.row p q r t,.row y z A B,.row c d e f,.row b H J K,.row u v w x]) true,.arr 3 1 a n true,.arr 3 1 a o true]) else none else none else none else none) nK) else none) (fun H K P=>bif (Nat.beq H 0) && (Nat.beq K 0) then tkSCons J none fun H J=>tkSNil J none (tkArr H none fun H J _ K Q=>bif ((Nat.beq H 3) && (Nat.beq J 1)) && (Q==true) then tkOut (b.pf 146 [.row false N 1 (fun a=>M a),.row false P 1 (fun a=>K a)]) none (fun b=>tkRow b none fun b H J K=>bif decide (C=C) then bif decide (D=D) then bif decide (C=D) then bif decide (.i64=C) then some ((.ret (.tup [])),[.box 175 (sd g i j [.osl 1 0 a,i64 (wrap .i64 (k+(wrap C ((wrap C (G - (if O<G then O else G))) - (wrap D (I - (if T<I then T else I))))))),i64 m,.osl 2 0 a,.row p q r t,.row y z A B,.row c d e f,.row b H J K,.row u v w x]) true,.arr 3 1 a n true,.arr 3 1 a o true]) else none else none else none else none) nK else none) else none) else none) else none)) nK) nK)) nK)) nK):=by kernel_rfl
noncomputable def LG5x0 (e:Env) (f:Nat) (g:Sto) (i:Dy) (j k m:Int) (n o:Nat) (p q:Nat→List V) (r:Bool) (t u:Nat) (v:Nat→List V) (w:Bool) (x y:Nat) (z:Nat→List V) (A:Bool) (B C:Nat) (D:Nat→List V) (G:Bool) (H I:Nat) (J:Nat→List V) (b:Bool) (a c:Nat) (d:Nat→List V) (K:Nat):Option (Out × List Slot):=atLoopH Tryz.prog (cfg f) e 87 [.r,.d] [] K { tm:=tmL 49 0 [(0,(.optr 0 0 0)),(9,(.row b a c d)),(10,(i64 (a:Int))),(11,(i64 0))],hp:=[.box 175 (sd g i j [.row true 0 n p,i64 k,i64 m,.row true 0 o q,.row r t u v,.row A B C D,.row G H I J,.row b a c d,.row w x y z]) true],ext:=[.blk 0] }
theorem tG5 (b:Env) (a:Nat) (c:Sto) (d:Dy) (e f g:Int) (i j:Nat) (k m:Nat→List V) (n:Bool) (o p:Nat) (q:Nat→List V) (r:Bool) (t u:Nat) (v:Nat→List V) (w:Bool) (x y:Nat) (z:Nat→List V) (A:Bool) (B C:Nat) (D:Nat→List V) (G:Bool) (H I:Nat) (J:Nat→List V):(evFunH Tryz.prog (cfg a) b 87 [.optr 0 0 0] [.box 175 (sd c d e [.row true 0 i k,i64 f,i64 g,.row true 0 j m,.row n o p q,.row w x y z,.row A B C D,.row G H I J,.row r t u v]) true])=(LG5x0 b a c d e f g i j k m n o p q r t u v w x y z A B C D G H I J a):=by kernel_rfl
theorem LG5x0s (I:Env) (J:Nat) (e:Sto) (f:Dy) (g i j:Int) (b k:Nat) (m n:Nat→List V) (o:Bool) (p q:Nat) (r:Nat→List V) (t:Bool) (u v:Nat) (w:Nat→List V) (x:Bool) (y z:Nat) (A:Nat→List V) (B:Bool) (C D:Nat) (G:Nat→List V) (H:Bool) (a c:Nat) (d:Nat→List V) (K:Nat):LG5x0 I J e f g i j b k m n o p q r t u v w x y z A B C D G H a c d (K+1)=(bif decide (0<(a:Int)) then bif c==1 then bif decide (0<(a:Int)) then tkCons (d 0) none fun a _=>tkInt a none fun _ _=>bif b==1 then none else none else none else none else some ((.ret (.tup [])),[.box 175 (sd e f g [.row true 0 b m,i64 i,i64 j,.row true 0 k n,.row o p q r,.row x y z A,.row B C D G,.row H a c d,.row t u v w]) true])):=by kernel_rfl
noncomputable def LE9x0 (f:Env) (g:Nat) (i:Sto) (j:Dy) (k m M:Int) (a:Nat) (N n:Nat→List V) (o:Bool) (p q:Nat) (r:Nat→List V) (t:Bool) (u v:Nat) (w:Nat→List V) (x:Bool) (y z:Nat) (A:Nat→List V) (B:Bool) (C D:Nat) (G:Nat→List V) (c:Bool) (b d:Nat) (e:Nat→List V) (H:Nat) (I J:Int) (K:Nat→List V):Option (Out × List Slot):=atLoopH Tryz.prog (cfg g) f 87 [.r,.d] [] H { tm:=tmL 49 0 [(0,(.optr 0 0 0)),(9,(.row c b d e)),(10,(i64 (b:Int))),(11,(i64 I))],hp:=[.box 175 (sd i j k [.osl 1 0 a,i64 m,i64 J,.osl 2 0 a,.row o p q r,.row x y z A,.row B C D G,.row c b d e,.row t u v w]) true,.arr 3 1 a K true,.arr 3 1 a n true],ext:=[.blk 0,.blk 1,.blk 2] }
theorem tE9 (e:Env) (b:Nat) (f:Sto) (g:Dy) (i j c:Int) (a:Nat) (d k:Nat→List V) (m:Bool) (n o:Nat) (p:Nat→List V) (q:Bool) (r t:Nat) (u:Nat→List V) (v:Bool) (w x:Nat) (y:Nat→List V) (z:Bool) (A B:Nat) (C:Nat→List V) (D:Bool) (G H:Nat) (I:Nat→List V):(evFunH Tryz.prog (cfg b) e 87 [.optr 0 0 0] [.box 175 (sd f g i [.osl 1 0 a,i64 j,i64 c,.osl 2 0 a,.row m n o p,.row v w x y,.row z A B C,.row D G H I,.row q r t u]) true,.arr 3 1 a d true,.arr 3 1 a k true])=(LE9x0 e b f g i j c a d k m n o p q r t u v w x y z A B C D G H I b (0:Int) c d):=by kernel_rfl
theorem LE9x0s (I:Env) (J:Nat) (c:Sto) (i:Dy) (j k K:Int) (b:Nat) (M m:Nat→List V) (n:Bool) (o p:Nat) (q:Nat→List V) (r:Bool) (t u:Nat) (v:Nat→List V) (w:Bool) (x y:Nat) (z:Nat→List V) (A:Bool) (B C:Nat) (D:Nat→List V) (G:Bool) (d e:Nat) (f:Nat→List V) (N:Nat) (a H:Int) (g:Nat→List V):LE9x0 I J c i j k K b M m n o p q r t u v w x y z A B C D G d e f (N+1) a H g=(bif decide (a<(d:Int)) then bif e==1 then bif decide (0≤a) then bif decide (a<(d:Int)) then tkCons (f a.toNat) none fun O _=>tkInt O none fun O P=>bif decide (0≤a) then bif decide (a<(b:Int)) then tkCons (g a.toNat) none fun Q _=>tkInt Q none fun Q R=>bif decide (O = .i64) then bif decide (Q=O) then bif decide (0≤a) then bif decide (a<(b:Int)) then LE9x0 I J c i j k K b M m n o p q r t u v w x y z A B C D G d e f N (wrap .i64 (a+1)) (wrap .i64 (H+(wrap .i64 (Int.tdiv (wrap .i64 ((if 0<P then P else (0:Int))*c.fuel)) (1000:Int))))) (updGet g a.toNat 0 [.int Q (wrap Q (R+(wrap O (P - (wrap .i64 (Int.tdiv (wrap .i64 ((if 0<P then P else (0:Int))*c.fuel)) (1000:Int)))))))]) else none else none else none else none else none else none else none else none else none else some ((.ret (.tup [])),[.box 175 (sd c i j [.osl 1 0 b,i64 k,i64 H,.osl 2 0 b,.row n o p q,.row w x y z,.row A B C D,.row G d e f,.row r t u v]) true,.arr 3 1 b g true,.arr 3 1 b m true])):=by kernel_rfl
noncomputable def LF9x0 (b:Env) (c:Nat) (a:Sto) (d:Dy) (e f g:Int) (i j:Nat) (k m:Nat→List V) (n:Bool) (o p:Nat) (q:Nat→List V) (r:Bool) (t u:Nat) (v:Nat→List V) (w:Bool) (x y:Nat) (z:Nat→List V) (A:Bool) (B C:Nat) (D:Nat→List V) (G:Bool) (H I:Nat) (J:Nat→List V) (K:Nat) (M:Int):Option (Out × List Slot):=atLoopH Tryz.prog (cfg c) b 88 [.r,.r,.d,.g 138,.r,.d] [] K { tm:=tmL 32 0 [(0,(.optr 0 0 0)),(1,(.yld 1)),(10,(sl eCon 11 a.cons)),(11,(i64 (a.cons.len:Int))),(12,(i64 M))],hp:=[.box 175 (sd a d e [.row true 0 i k,i64 f,i64 g,.row true 0 j m,.row n o p q,.row w x y z,.row A B C D,.row G H I J,.row r t u v]) true,.lp,.box 173 [.optr 0 0 0] true],ext:=[.yld 1,.optr 0 0 0,.optr 2 0 0,.undef,.undef,.undef,.undef,.optr 0 0 0,.fn (.func 138) [.optr 0 0 0] [],.undef,.undef,.undef,.undef,.undef,.undef,.undef,.undef,.undef,.undef,.undef,.undef,.undef,.undef,.undef,.undef,.undef,.undef,.undef,.undef,.undef,.undef,.undef,.undef,.undef,.undef,.undef,.undef,.undef,.undef,.undef,.undef,.undef,.undef,.undef,.undef,.undef,.undef,.undef,.undef,.undef,.undef,.undef,.undef,.undef,.undef,.undef,.undef,.undef,.undef,.undef,.undef,.undef,.undef,.undef,.undef,.undef,.undef,.undef,.undef,.undef,.undef,.undef,.undef,.undef,.undef,.undef,.undef,.undef,.undef,.undef,.blk 0] }
theorem tF9 (b:Env) (a:Nat) (c:Sto) (d:Dy) (e f g:Int) (i j:Nat) (k m:Nat→List V) (n:Bool) (o p:Nat) (q:Nat→List V) (r:Bool) (t u:Nat) (v:Nat→List V) (w:Bool) (x y:Nat) (z:Nat→List V) (A:Bool) (B C:Nat) (D:Nat→List V) (G:Bool) (H I:Nat) (J:Nat→List V):(evFunH Tryz.prog (cfg a) b 88 [.optr 0 0 0] [.box 175 (sd c d e [.row true 0 i k,i64 f,i64 g,.row true 0 j m,.row n o p q,.row w x y z,.row A B C D,.row G H I J,.row r t u v]) true])=(LF9x0 b a c d e f g i j k m n o p q r t u v w x y z A B C D G H I J a (0:Int)):=by kernel_rfl
theorem LF9x0s (j:Env) (K:Nat) (b:Sto) (k:Dy) (d m n:Int) (o c:Nat) (p e:Nat→List V) (q:Bool) (r t:Nat) (u:Nat→List V) (v:Bool) (w x:Nat) (y:Nat→List V) (z:Bool) (A B:Nat) (C:Nat→List V) (D:Bool) (G H:Nat) (I:Nat→List V) (J:Bool) (f g:Nat) (i:Nat→List V) (M:Nat) (a:Int):LF9x0 j K b k d m n o c p e q r t u v w x y z A B C D G H I J f g i (M+1) a=(bif decide (a<(b.cons.len:Int)) then bif decide (0≤a) then bif decide (a<(b.cons.len:Int)) then tkOut (j.pf 176 [.agg (eCon (b.cons.el a.toNat)),i64 d]) none (fun N=>tkBool N none fun N=>bif N then bif g==1 then bif decide (0≤a) then bif decide (a<(f:Int)) then tkCons (i a.toNat) none fun b _=>tkInt b none fun _ _=>bif c==1 then bif decide (0≤a) then bif decide (a<((0:Nat):Int)) then tkCons (e a.toNat) none fun b _=>tkInt b none fun b _=>bif decide (b = .i64) then bif c==1 then bif decide (0≤a) then bif decide (a<((0:Nat):Int)) then none else none else none else none else none else none else none else none else none else none else none else LF9x0 j K b k d m n o c p e q r t u v w x y z A B C D G H I J f g i M (wrap .i64 (a+1))) nK else none else none else some ((.ret (.tup [])),[.box 175 (sd b k d [.row true 0 o p,i64 m,i64 n,.row true 0 c e,.row q r t u,.row z A B C,.row D G H I,.row J f g i,.row v w x y]) true])):=by kernel_rfl
noncomputable def LD1x0 (c:Env) (d:Nat) (b:Sto) (e:Dy) (f g i:Int) (a:Nat) (j M:Nat→List V) (k:Bool) (m n:Nat) (o:Nat→List V) (p:Bool) (q r:Nat) (t:Nat→List V) (u:Bool) (v w:Nat) (x:Nat→List V) (y:Bool) (z A:Nat) (B:Nat→List V) (C:Bool) (D G:Nat) (H:Nat→List V) (I:Nat) (J:Int) (K:Nat→List V):Option (Out × List Slot):=atLoopH Tryz.prog (cfg d) c 88 [.r,.r,.d,.g 138,.r,.d] [] I { tm:=tmL 32 0 [(0,(.optr 0 0 0)),(1,(.yld 1)),(10,(sl eCon 11 b.cons)),(11,(i64 (b.cons.len:Int))),(12,(i64 J))],hp:=[.box 175 (sd b e f [.osl 3 0 a,i64 g,i64 i,.osl 4 0 a,.row k m n o,.row u v w x,.row y z A B,.row C D G H,.row p q r t]) true,.lp,.box 173 [.optr 0 0 0] true,.arr 3 1 a j true,.arr 3 1 a K true],ext:=[.yld 1,.optr 0 0 0,.optr 2 0 0,.undef,.undef,.undef,.undef,.optr 0 0 0,.fn (.func 138) [.optr 0 0 0] [],.undef,.undef,.undef,.undef,.undef,.undef,.undef,.undef,.undef,.undef,.undef,.undef,.undef,.undef,.undef,.undef,.undef,.undef,.undef,.undef,.undef,.undef,.undef,.undef,.undef,.undef,.undef,.undef,.undef,.undef,.undef,.undef,.undef,.undef,.undef,.undef,.undef,.undef,.undef,.undef,.undef,.undef,.undef,.undef,.undef,.undef,.undef,.undef,.undef,.undef,.undef,.undef,.undef,.undef,.undef,.undef,.undef,.undef,.undef,.undef,.undef,.undef,.undef,.undef,.undef,.undef,.undef,.undef,.undef,.undef,.undef,.blk 0,.blk 3,.blk 4] }
theorem tD1 (d:Env) (b:Nat) (e:Sto) (f:Dy) (g i j:Int) (a:Nat) (k c:Nat→List V) (m:Bool) (n o:Nat) (p:Nat→List V) (q:Bool) (r t:Nat) (u:Nat→List V) (v:Bool) (w x:Nat) (y:Nat→List V) (z:Bool) (A B:Nat) (C:Nat→List V) (D:Bool) (G H:Nat) (I:Nat→List V):(evFunH Tryz.prog (cfg b) d 88 [.optr 0 0 0] [.box 175 (sd e f g [.osl 1 0 a,i64 i,i64 j,.osl 2 0 a,.row m n o p,.row v w x y,.row z A B C,.row D G H I,.row q r t u]) true,.arr 3 1 a k true,.arr 3 1 a c true])=(LD1x0 d b e f g i j a k c m n o p q r t u v w x y z A B C D G H I b (0:Int) c):=by kernel_rfl
theorem LD1x0s (q:Env) (J:Nat) (b:Sto) (r:Dy) (e t u:Int) (c:Nat) (v K:Nat→List V) (w:Bool) (x y:Nat) (z:Nat→List V) (A:Bool) (B C:Nat) (D:Nat→List V) (G:Bool) (f g:Nat) (i:Nat→List V) (H:Bool) (j k:Nat) (m:Nat→List V) (I:Bool) (n o:Nat) (p:Nat→List V) (M:Nat) (a:Int) (d:Nat→List V):LD1x0 q J b r e t u c v K w x y z A B C D G f g i H j k m I n o p (M+1) a d=(bif decide (a<(b.cons.len:Int)) then bif decide (0≤a) then bif decide (a<(b.cons.len:Int)) then tkOut (q.pf 176 [.agg (eCon (b.cons.el a.toNat)),i64 e]) none (fun N=>tkBool N none fun N=>bif N then bif o==1 then bif decide (0≤a) then bif decide (a<(n:Int)) then tkCons (p a.toNat) none fun N _=>tkInt N none fun N O=>bif decide (0≤a) then bif decide (a<(c:Int)) then tkCons (d a.toNat) none fun P _=>tkInt P none fun P Q=>bif decide (P = .i64) then bif decide (0≤a) then bif decide (a<(c:Int)) then bif (b.cons.el a.toNat).firm then bif g==1 then bif decide (0≤a) then bif decide (a<(f:Int)) then tkCons (i a.toNat) none fun R _=>tkInt R none fun R T=>bif k==1 then bif decide (0≤a) then bif decide (a<(j:Int)) then tkCons (m a.toNat) none fun U _=>tkInt U none fun U W=>bif decide (R=U) then bif decide (0≤a) then bif decide (a<(c:Int)) then tkCons (updGet d a.toNat 0 [.int P (wrap P (Q+(wrap .i64 ((wrap .i64 ((b.cons.el a.toNat).fixed+(wrap .i64 ((b.cons.el a.toNat).inn*(if 0<O then O else (0:Int))))))+(wrap .i64 ((b.cons.el a.toNat).out*(if 0<(wrap N ((0:Int) - O)) then wrap N ((0:Int) - O) else (0:Int))))))))] a.toNat) none fun U _=>tkInt U none fun U X=>bif decide (.i64=R) then bif decide (U = .i64) then bif decide (0≤a) then bif decide (a<(c:Int)) then LD1x0 q J b r e t u c v K w x y z A B C D G f g i H j k m I n o p M (wrap .i64 (a+1)) (updGet (updGet d a.toNat 0 [.int P (wrap P (Q+(wrap .i64 ((wrap .i64 ((b.cons.el a.toNat).fixed+(wrap .i64 ((b.cons.el a.toNat).inn*(if 0<O then O else (0:Int))))))+(wrap .i64 ((b.cons.el a.toNat).out*(if 0<(wrap N ((0:Int) - O)) then wrap N ((0:Int) - O) else (0:Int))))))))]) a.toNat 0 [.int U (wrap U (X - (wrap .i64 ((b.cons.el a.toNat).cut*(if (wrap R (T - W))<(wrap R ((0:Int) - (wrap R (T - W)))) then wrap R ((0:Int) - (wrap R (T - W))) else wrap R (T - W))))))]) else none else none else none else none else none else none else none else none else none else none else none else none else none else LD1x0 q J b r e t u c v K w x y z A B C D G f g i H j k m I n o p M (wrap .i64 (a+1)) (updGet d a.toNat 0 [.int P (wrap P (Q+(wrap .i64 ((wrap .i64 ((b.cons.el a.toNat).fixed+(wrap .i64 ((b.cons.el a.toNat).inn*(if 0<O then O else (0:Int))))))+(wrap .i64 ((b.cons.el a.toNat).out*(if 0<(wrap N ((0:Int) - O)) then wrap N ((0:Int) - O) else (0:Int))))))))]) else none else none else none else none else none else none else none else none else LD1x0 q J b r e t u c v K w x y z A B C D G f g i H j k m I n o p M (wrap .i64 (a+1)) d) nK else none else none else some ((.ret (.tup [])),[.box 175 (sd b r e [.osl 1 0 c,i64 t,i64 u,.osl 2 0 c,.row w x y z,.row G f g i,.row H j k m,.row I n o p,.row A B C D]) true,.arr 3 1 c v true,.arr 3 1 c d true])):=by kernel_rfl
theorem tG0 (d:Env) (e:Nat) (b:Sto) (c:Sl Int) (a:Int):(evFun Tryz.prog (cfg e) d 192 [i64 a,.rptr 1 6 (fun _=>eSto b) 0 0,.rptr 1 1 (fun _=>[sl eInt 1 c]) 0 0])=(bif decide (0≤a) then bif decide (a<(b.cons.len:Int)) then bif (b.cons.el a.toNat).firm then bif decide (0≤a) then bif decide (a<(c.len:Int)) then some (.ret (i64 (c.el a.toNat))) else none else none else some (.ret (i64 0)) else none else none):=by kernel_rfl
theorem tK2 (c:Env) (e:Nat) (d:Sto) (a:Sl Int) (b:Int):(evFun Tryz.prog (cfg e) c 193 [i64 b,.rptr 1 1 (fun _=>[sl eInt 1 a]) 0 0,.rptr 1 1 (fun _=>[.fn (.func 192) [] [.rptr 1 6 (fun _=>eSto d) 0 0,.rptr 1 1 (fun _=>[sl eInt 1 a]) 0 0]]) 0 0])=(bif decide (0≤b) then bif decide (b<(a.len:Int)) then tkOut (c.pf 192 [i64 b,.rptr 1 6 (fun _=>eSto d) 0 0,.rptr 1 1 (fun _=>[sl eInt 1 a]) 0 0]) none (fun c=>tkInt c none fun c d=>bif decide (.i64=c) then some (.ret (i64 (wrap .i64 ((a.el b.toNat) - d)))) else none) pK else none else none):=by kernel_rfl
noncomputable def LK3x0 (a:Env) (b:Nat) (c:Sto) (d:Int) (e:Nat):Option Out:=atLoop Tryz.prog (cfg b) a 178 [.r,.r,.r,.l,.r,.d] [] e { tm:=tmL 73 0 [(2,(i64 d)),(3,(.optr 0 0 0)),(4,(.optr 1 0 0)),(7,nL),(22,(i64 ((0:Nat):Int))),(23,(i64 0))],hp:=[.box 28 (eSto c) true,.box 25 [nL] true] }
theorem tK3 (a:Env) (b:Nat) (d:Sto) (c:Int):(evFun Tryz.prog (cfg b) a 178 [.agg (eSto d),nL,i64 c])=(tkOut (a.pf 144 [nL]) none (fun e=>tkInt e none fun e f=>bif decide (e = .i64) then bif decide (f≤c) then tkHv (a.hv 80 [nL] []) none fun a b=>tkSl a none (fun a c d e=>bif a && (Nat.beq c 0) then tkSNil b none (some (.ret (.row true 0 d e))) else none) (fun a c d=>bif (Nat.beq a 0) && (Nat.beq c 0) then tkSCons b none fun a b=>tkSNil b none (tkArr a none fun a b _ c e=>bif ((Nat.beq a 3) && (Nat.beq b 1)) && (e==true) then some (.ret (.row false d 1 (fun a=>c a))) else none) else none) else LK3x0 a b d c b else none) pK):=by kernel_rfl
noncomputable def LG4x0 (a:Env) (b:Nat) (d:Int) (c:Nat):Option Out:=atLoop Tryz.prog (cfg b) a 146 [.r,.r,.l,.r,.d] [] c { tm:=tmL 26 0 [(0,nL),(1,nL),(5,nL),(8,(i64 ((0:Nat):Int))),(9,(i64 0))],hp:=[] }
theorem tG4 (b:Env) (a:Nat) (c:Int):(evFun Tryz.prog (cfg a) b 146 [nL,nL])=(LG4x0 b a c a):=by kernel_rfl
theorem LG4x0s (a:Env) (b:Nat) (c:Int) (d:Nat):LG4x0 a b c (d+1)=some (.ret nL):=by kernel_rfl
noncomputable def LG2x0 (a:Env) (b:Nat) (d:Int) (c:Nat):Option Out:=atLoop Tryz.prog (cfg b) a 143 [.r,.r,.l,.r,.d] [] c { tm:=tmL 28 0 [(4,nL),(5,nL),(8,nL),(9,(i64 ((0:Nat):Int))),(10,(i64 0))],hp:=[] }
theorem tG2 (b:Env) (a:Nat) (c:Int):(evFun Tryz.prog (cfg a) b 143 [nL])=(LG2x0 b a c a):=by kernel_rfl
theorem LG2x0s (a:Env) (b:Nat) (c:Int) (d:Nat):LG2x0 a b c (d+1)=some (.ret (.tup [nL,nL])):=by kernel_rfl
noncomputable def LG3x0 (a:Env) (b:Nat) (d:Int) (c:Nat):Option Out:=atLoop Tryz.prog (cfg b) a 144 [.r,.r,.l,.r,.d] [] c { tm:=tmL 17 0 [(3,(i64 0)),(6,nL),(7,(i64 ((0:Nat):Int))),(8,(i64 0))],hp:=[] }
theorem tG3 (b:Env) (a:Nat) (c:Int):(evFun Tryz.prog (cfg a) b 144 [nL])=(LG3x0 b a c a):=by kernel_rfl
theorem LG3x0s (a:Env) (b:Nat) (c:Int) (d:Nat):LG3x0 a b c (d+1)=some (.ret (i64 0)):=by kernel_rfl
theorem tK7 (a:Env) (b:Nat) (c:Int):(evFun Tryz.prog (cfg b) a 81 [nL])=some (.ret nL):=by kernel_rfl
noncomputable def LF1x0 (a:Env) (b:Nat) (c:Int) (d:Nat):Option (Out × List Slot):=atLoopH Tryz.prog (cfg b) a 147 [.r,.r,.l,.r,.d] [] d { tm:=tmL 62 0 [(0,(i64 c)),(1,nL),(2,(.fn (.func 145) [] [])),(7,(i64 0)),(15,nL),(16,(i64 ((0:Nat):Int))),(17,(i64 0))],hp:=[] }
noncomputable def LF1x1 (a:Env) (b:Nat) (c:Int) (d:Nat):Option (Out × List Slot):=atLoopH Tryz.prog (cfg b) a 147 [.r,.r,.r,.r,.r,.l,.r,.d] [] d { tm:=tmL 62 0 [(0,(i64 c)),(2,(.fn (.func 145) [] [])),(7,(i64 0)),(10,(.osl 0 0 0)),(11,(i64 0)),(12,(i64 0)),(30,nL),(31,(i64 ((0:Nat):Int))),(32,(i64 0))],hp:=[.arr 3 1 0 (fun _=>[i64 0]) true] }
theorem tF1 (b:Env) (a:Nat) (c:Int):(evFunH Tryz.prog (cfg a) b 147 [i64 c,nL,.fn (.func 145) [] []] [])=(LF1x0 b a c a):=by kernel_rfl
theorem LF1x0s (b:Env) (a:Nat) (c:Int) (d:Nat):LF1x0 b a c (d+1)=(LF1x1 b a c a):=by kernel_rfl
theorem LF1x1s (a:Env) (b:Nat) (c:Int) (d:Nat):LF1x1 a b c (d+1)=some ((.ret (.osl 0 0 0)),[.arr 3 1 0 (fun _=>[i64 0]) true]):=by kernel_rfl
theorem tM2 (a:Env) (b:Nat) (c:Int):(evFunH Tryz.prog (cfg b) a 80 [nL] [])=some ((.ret nL),[]):=by kernel_rfl
noncomputable def LG6x0 (a:Env) (b:Nat) (d:Int) (c:Nat):Option Out:=atLoop Tryz.prog (cfg b) a 6 [.r,.l,.r,.d] [] c { tm:=tmL 26 0 [(0,nL),(3,(i64 0))],hp:=[] }
theorem tG6 (b:Env) (a:Nat) (c:Int):(evFun Tryz.prog (cfg a) b 6 [nL])=(LG6x0 b a c a):=by kernel_rfl
theorem LG6x0s (a:Env) (b:Nat) (c:Int) (d:Nat):LG6x0 a b c (d+1)=some (.ret (.bool true)):=by kernel_rfl
theorem tM8 (a:Env) (d:Nat) (b:Sl Mach) (c:Sl (Sl Int)):(evFun Tryz.prog (cfg d) a 10 [sl eMach 10 b,nL,sl eIL 1 c])=(tkOut (a.pf 31 [sl eMach 10 b,nL,sl eIL 1 c]) none (fun d=>tkInt d none fun d e=>bif decide (d = .i64) then bif e != 0 then some (.ret (.tup [.agg [i64 0,i64 0,i64 0],.int d e])) else tkOut (a.pf 32 [sl eMach 10 b,nL,sl eIL 1 c]) none (fun a=>tkTup a none fun a=>tkCons a none fun a b=>tkAgg a none fun a=>tkCons a none fun a c=>tkInt a none fun a d=>tkCons c none fun c e=>tkInt c none fun c f=>tkCons e none fun e g=>tkInt e none fun e i=>tkNil g none (tkCons b none fun b g=>tkAgg b none fun b=>tkCons b none fun b j=>tkInt b none fun _ _=>tkCons j none fun b j=>tkInt b none fun _ _=>tkNil j none (tkCons g none fun b g=>tkInt b none fun _ _=>tkNil g none (some (.ret (.tup [.agg [.int a d,.int c f,.int e i],i64 0])))))) pK else none) pK):=by kernel_rfl
theorem tM7 (a:Env) (d:Nat) (b:Sl Mach) (c:Sl (Sl Int)):(evFun Tryz.prog (cfg d) a 31 [sl eMach 10 b,nL,sl eIL 1 c])=(tkOut (a.pf 59 [sl eMach 10 b,nL]) none (fun d=>tkInt d none fun d e=>bif decide (d = .i64) then bif e != 0 then some (.ret (.int d e)) else bif (c.len:Int) != ((0:Nat):Int) then some (.ret (i64 2)) else tkOut (a.pf 60 [sl eIL 1 c,.fn (.func 61) [] [.rptr 1 1 (fun _=>[sl eMach 10 b]) 0 0]]) none (fun a=>tkBool a none fun a=>bif !a then some (.ret (i64 2)) else some (.ret (i64 0))) pK else none) pK):=by kernel_rfl
theorem tM6 (a:Env) (c:Nat) (b:Sl Mach):(evFun Tryz.prog (cfg c) a 59 [sl eMach 10 b,nL])=(tkOut (a.pf 89 [sl eMach 10 b]) none (fun b=>tkBool b none fun b=>bif !b then some (.ret (i64 2)) else tkOut (a.pf 115 [nL,.fn (.func 116) [] []]) none (fun a=>tkBool a none fun a=>bif !a then some (.ret (i64 2)) else some (.ret (i64 0))) pK) pK):=by kernel_rfl
noncomputable def LG7x0 (a:Env) (b:Nat) (d:Int) (c:Nat):Option Out:=atLoop Tryz.prog (cfg b) a 115 [.r,.l,.r,.d] [] c { tm:=tmL 20 0 [(1,(.fn (.func 116) [] [])),(7,nL),(8,(i64 ((0:Nat):Int))),(9,(i64 0))],hp:=[] }
theorem tG7 (b:Env) (a:Nat) (c:Int):(evFun Tryz.prog (cfg a) b 115 [nL,.fn (.func 116) [] []])=(LG7x0 b a c a):=by kernel_rfl
theorem LG7x0s (a:Env) (b:Nat) (c:Int) (d:Nat):LG7x0 a b c (d+1)=some (.ret (.bool true)):=by kernel_rfl
noncomputable def LG8x0 (b:Env) (c:Nat) (d:Sl Mach) (a:Sl (Sl Int)) (e:Nat) (f:Bool) (g i:Nat) (j:Nat→List V):Option Out:=atLoop Tryz.prog (cfg c) b 32 [.r,.r,.r,.r,.l,.r,.d] [] e { tm:=tmL 74 0 [(0,(sl eMach 10 d)),(1,nL),(6,(.optr 0 0 0)),(7,(.optr 1 0 0)),(9,(.row f g i j)),(10,(.optr 2 0 0)),(11,(i64 0)),(21,(sl eIL 1 a)),(22,(i64 (a.len:Int))),(23,(i64 0))],hp:=[.box 56 [i64 0,i64 0,i64 0] true,.box 40 [i64 0,i64 0] true,.box 40 [i64 0,i64 0] true] }
theorem tG8 (a:Env) (b:Nat) (c:Sl Mach) (d:Sl (Sl Int)):(evFun Tryz.prog (cfg b) a 32 [sl eMach 10 c,nL,sl eIL 1 d])=(tkOut (a.pf 64 [sl eMach 10 c]) none (fun e=>tkRow e none fun e f g i=>LG8x0 a b c d b e f g i) pK):=by kernel_rfl
theorem LG8x0s (b:Env) (c:Nat) (d:Sl Mach) (a:Sl (Sl Int)) (e:Nat) (f:Bool) (g i:Nat) (j:Nat→List V):LG8x0 b c d a (e+1) f g i j=(bif decide (0<(a.len:Int)) then bif decide (0<(a.len:Int)) then none else none else some (.ret (.tup [.agg [i64 0,i64 1,i64 0],.agg [i64 0,i64 0],i64 0]))):=by kernel_rfl
end Go.Sim.Pl

set_option maxRecDepth 100000
namespace Go.Sim.Le
open Go.RowKit Go.Proofs
open IntKind (wrap)
noncomputable def L109x0 (c:Env) (d:Nat) (e:Cav) (K:Mea) (a f:Int) (b:Nat) (g:Nat→Int) (M:List (V × V)) (i:Nat) (j:IntKind) (k m:Int) (n:IntKind) (o:Int) (p:IntKind) (q:Int) (r:Bool) (t u:Nat) (v:Nat→List V) (w:IntKind) (x:Int) (y:IntKind) (z:Int) (A:Bool) (B C:Nat) (D:Nat→List V) (G:IntKind) (H:Int) (I:Nat→List V) (J:List (V × V)):Option (Out × List Slot):=atLoopH Tryz.prog (cfg d) c 161 [.r,.r,.r,.r,.r,.r,.l,.r,.d] [] i { tm:=tmL 113 0 [(2,(.optr 0 0 0)),(5,(.optr 1 0 0)),(6,(.optr 2 0 0)),(7,(.optr 3 0 0)),(11,(.optr 4 0 0)),(12,(.int j k)),(13,(.optr 5 0 0)),(14,(i64 m))],hp:=[.box 243 [.mapr 10] true,.box 244 [.fn (.func 161) [] [.optr 6 0 0,.optr 0 0 0,.optr 7 0 0,.optr 8 0 0,.optr 1 0 0]] true,.box 246 [i64 a,i64 f] true,.box 40 [i64 0,i64 0] true,.box 40 (eSpan (e.slices.el (g a.toNat).toNat).rate) true,.box 40 [.int n o,.int p q] true,.box 25 [.osl 9 0 b] true,.box 125 [.row r t u v,.int w x,.int y z] true,.box 130 [.row A B C D,.int G H] true,.arr 3 1 b I true,.mp true [KS.int .i64,KS.int .i64] J true],ext:=[.blk 6,.blk 0,.blk 7,.blk 8,.blk 1,.blk 9,.blk 10] }
theorem t109 (i:Env) (j:Nat) (a:Cav) (d:Mea) (b f:Int) (e:Nat) (c:Nat→Int) (g:List (V × V)):(evFunH Tryz.prog (cfg j) i 161 [.agg [i64 b,i64 f],.optr 0 0 0,.optr 1 0 0,.optr 2 0 0,.optr 3 0 0,.optr 4 0 0] [.box 25 [.osl 5 0 e] true,.box 243 [.mapr 6] true,.box 125 (eCav a) true,.box 130 (eMea d) true,.box 244 [.fn (.func 161) [] [.optr 0 0 0,.optr 1 0 0,.optr 2 0 0,.optr 3 0 0,.optr 4 0 0]] true,.arr 3 1 e (fun a=>eInt (c a)) true,.mp true [KS.int .i64,KS.int .i64] g true])=(bif b==(e:Int) then some ((.ret (.agg [i64 0,i64 0])),[.box 25 [.osl 5 0 e] true,.box 243 [.mapr 6] true,.box 125 (eCav a) true,.box 130 (eMea d) true,.box 244 [.fn (.func 161) [] [.optr 0 0 0,.optr 1 0 0,.optr 2 0 0,.optr 3 0 0,.optr 4 0 0]] true,.arr 3 1 e (fun a=>[i64 (c a)]) true,.mp true [KS.int .i64,KS.int .i64] g true]) else bif ((decide ((-((2:Int) ^ 63))≤b)) && (decide (b≤(((2:Int) ^ 63) - 1)))) && (((decide ((-((2:Int) ^ 63))≤f)) && (decide (f≤(((2:Int) ^ 63) - 1)))) && true) then tkOpt (mget g (.agg [i64 b,i64 f])) (bif decide (0≤b) then bif decide (b<(e:Int)) then bif decide (0≤(c b.toNat)) then bif decide ((c b.toNat)<(a.slices.len:Int)) then tkOut (i.pf 162 [.agg (eCav a),.agg (eMea d),i64 (c b.toNat)]) none (fun k=>tkInt k none fun k m=>L109x0 i j a d b f e c g j k m (if f<(Span.lo (a.slices.el (c b.toNat).toNat).rate) then f else Span.lo (a.slices.el (c b.toNat).toNat).rate) .i64 0 .i64 0 a.slices.nl a.slices.len 7 (fun b=>eSlc (a.slices.el b)) .i64 a.hold .i64 a.oil d.weights.nl d.weights.len 1 (fun a=>[i64 (d.weights.el a)]) .i64 d.sump (fun a=>[i64 (c a)]) g) nK else none else none else none else none) (fun b=>tkAgg b none fun b=>tkCons b none fun b f=>tkInt b none fun b i=>tkCons f none fun f j=>tkInt f none fun f k=>tkNil j none (some ((.ret (.agg [.int b i,.int f k])),[.box 25 [.osl 5 0 e] true,.box 243 [.mapr 6] true,.box 125 (eCav a) true,.box 130 (eMea d) true,.box 244 [.fn (.func 161) [] [.optr 0 0 0,.optr 1 0 0,.optr 2 0 0,.optr 3 0 0,.optr 4 0 0]] true,.arr 3 1 e (fun a=>[i64 (c a)]) true,.mp true [KS.int .i64,KS.int .i64] g true]))) else none):=by kernel_rfl
theorem L109x0s (m:Env) (q:Nat) (g:Cav) (r:Mea) (c d:Int) (e:Nat) (i:Nat→Int) (t:List (V × V)) (u:Nat) (f:IntKind) (b a:Int) (n:IntKind) (j:Int) (o:IntKind) (k:Int) (v:Bool) (w x:Nat) (y:Nat→List V) (z:IntKind) (A:Int) (B:IntKind) (C:Int) (D:Bool) (G H:Nat) (I:Nat→List V) (J:IntKind) (K:Int) (M:Nat→List V) (p:List (V × V)):L109x0 m q g r c d e i t (u+1) f b a n j o k v w x y z A B C D G H I J K M p=(bif decide (a≤(if d<(Span.hi (g.slices.el (i c.toNat).toNat).rate) then d else Span.hi (g.slices.el (i c.toNat).toNat).rate)) then tkHv (m.hv 161 [.agg [i64 (wrap .i64 (c+1)),i64 (wrap .i64 (d - a))],.optr 0 0 0,.optr 1 0 0,.optr 2 0 0,.optr 3 0 0,.optr 4 0 0] [.box 25 [.osl 5 0 e] true,.box 243 [.mapr 6] true,.box 125 [.row v w x y,.int z A,.int B C] true,.box 130 [.row D G H I,.int J K] true,.box 244 [.fn (.func 161) [] [.optr 0 0 0,.optr 1 0 0,.optr 2 0 0,.optr 3 0 0,.optr 4 0 0]] true,.arr 3 1 e M true,.mp true [KS.int .i64,KS.int .i64] p true]) none fun p v=>tkAgg p none fun p=>tkCons p none fun p w=>tkInt p none fun p x=>tkCons w none fun w y=>tkInt w none fun w z=>tkNil y none (tkSCons v none fun v y=>tkBox v none fun v A B=>bif (Nat.beq v 25) && (B==true) then tkCons A none fun v A=>bif sameV 8 (.osl 5 0 e) v then tkNil A none (tkSCons y none fun v y=>tkBox v none fun v A B=>bif (Nat.beq v 243) && (B==true) then tkCons A none fun v A=>bif sameV 8 (.mapr 6) v then tkNil A none (tkSCons y none fun v y=>tkBox v none fun v A B=>bif (Nat.beq v 125) && (B==true) then tkCons A none fun v A=>tkRow v none fun v B C D=>tkCons A none fun A G=>tkInt A none fun A H=>tkCons G none fun G I=>tkInt G none fun G J=>tkNil I none (tkSCons y none fun y I=>tkBox y none fun y K M=>bif (Nat.beq y 130) && (M==true) then tkCons K none fun y K=>tkRow y none fun y M N O=>tkCons K none fun K P=>tkInt K none fun K Q=>tkNil P none (tkSCons I none fun I P=>tkBox I none fun I R T=>bif (Nat.beq I 244) && (T==true) then tkCons R none fun I R=>bif sameV 8 (.fn (.func 161) [] [.optr 0 0 0,.optr 1 0 0,.optr 2 0 0,.optr 3 0 0,.optr 4 0 0]) I then tkNil R none (tkSCons P none fun I P=>tkArr I none fun I R T U W=>bif ((Nat.beq I 3) && (Nat.beq R 1)) && ((Nat.beq T e) && (W==true)) then tkSCons P none fun I P=>tkMp I none fun I R T W=>bif ((I==true) && (ksEq R [KS.int .i64,KS.int .i64])) && (W==true) then tkSNil P none (bif a==(if d<(Span.lo (g.slices.el (i c.toNat).toNat).rate) then d else Span.lo (g.slices.el (i c.toNat).toNat).rate) then bif decide (.i64=f) then bif decide (p = .i64) then bif decide (.i64=f) then bif decide (w = .i64) then bif decide (.i64=f) then bif decide (p = .i64) then bif decide (.i64=f) then bif decide (w = .i64) then L109x0 m q g r c d e i t u f b (wrap .i64 (a+1)) p (if (wrap p (x+(wrap .i64 (a*b))))<(wrap p (x+(wrap .i64 (a*b)))) then wrap p (x+(wrap .i64 (a*b))) else wrap p (x+(wrap .i64 (a*b)))) w (if (wrap w (z+(wrap .i64 (a*b))))<(wrap w (z+(wrap .i64 (a*b)))) then wrap w (z+(wrap .i64 (a*b))) else wrap w (z+(wrap .i64 (a*b)))) v B C D A H G J y M N O K Q U T else none else none else none else none else none else none else none else none else bif decide (.i64=f) then bif decide (p = .i64) then bif decide (.i64=f) then bif decide (w = .i64) then L109x0 m q g r c d e i t u f b (wrap .i64 (a+1)) n (if (wrap p (x+(wrap .i64 (a*b))))<j then wrap p (x+(wrap .i64 (a*b))) else j) o (if k<(wrap w (z+(wrap .i64 (a*b)))) then wrap w (z+(wrap .i64 (a*b))) else k) v B C D A H G J y M N O K Q U T else none else none else none else none) else none else none) else none else none) else none) else none) else none else none) else none else none) else bif ((decide ((-((2:Int) ^ 63))≤c)) && (decide (c≤(((2:Int) ^ 63) - 1)))) && (((decide ((-((2:Int) ^ 63))≤d)) && (decide (d≤(((2:Int) ^ 63) - 1)))) && true) then bif decide ((List.length p)<1000000000000) then some ((.ret (.agg [.int n j,.int o k])),[.box 25 [.osl 5 0 e] true,.box 243 [.mapr 6] true,.box 125 [.row v w x y,.int z A,.int B C] true,.box 130 [.row D G H I,.int J K] true,.box 244 [.fn (.func 161) [] [.optr 0 0 0,.optr 1 0 0,.optr 2 0 0,.optr 3 0 0,.optr 4 0 0]] true,.arr 3 1 e M true,.mp true [KS.int .i64,KS.int .i64] (mput p (.agg [i64 c,i64 d]) (.agg [.int n j,.int o k])) true]) else none else none):=by kernel_rfl
theorem tK5 (a:Env) (b:Nat):(evFun Tryz.prog (cfg b) a 4 [])=(tkOut (a.pf 15 []) none (fun b=>tkAgg b none fun b=>tkCons b none fun b c=>tkRow b none fun b d e f=>tkCons c none fun c g=>tkInt c none fun c i=>tkCons g none fun g j=>tkInt g none fun g k=>tkNil j none (tkOut (a.pf 16 []) none (fun j=>tkAgg j none fun j=>tkCons j none fun j m=>tkInt j none fun j n=>tkCons m none fun m o=>tkInt m none fun m p=>tkCons o none fun o q=>tkInt o none fun o r=>tkCons q none fun q t=>tkInt q none fun q u=>tkNil t none (tkOut (a.pf 14 [.agg [.row b d e f,.int c i,.int g k],.row false 1 4 (fun _=>[.int j n,.int m p,.int o r,.int q u]),.row false 3 1 (fun a=>List.take 1 (List.drop ((Min.min a 2)*1) [i64 0,i64 0,i64 0])),i64 1]) none (fun b=>tkTup b none fun b=>tkCons b none fun b c=>tkAgg b none fun b=>tkCons b none fun b d=>tkInt b none fun b e=>tkCons d none fun d f=>tkInt d none fun d g=>tkNil f none (tkCons c none fun c f=>tkInt c none fun c i=>tkNil f none (tkOut (a.pf 18 []) none (fun f=>tkAgg f none fun f=>tkCons f none fun f j=>tkInt f none fun f k=>tkCons j none fun j m=>tkInt j none fun j n=>tkCons m none fun m o=>tkInt m none fun m p=>tkCons o none fun o q=>tkInt o none fun o r=>tkCons q none fun q t=>tkInt q none fun q u=>tkCons t none fun t v=>tkInt t none fun t w=>tkCons v none fun v x=>tkInt v none fun v y=>tkCons x none fun x z=>tkInt x none fun x A=>tkCons z none fun z B=>tkInt z none fun z C=>tkCons B none fun B D=>tkInt B none fun B G=>tkCons D none fun D H=>tkInt D none fun D I=>tkNil H none (tkOut (a.pf 19 []) none (fun H=>tkAgg H none fun H=>tkCons H none fun H J=>tkInt H none fun H K=>tkCons J none fun J M=>tkInt J none fun J N=>tkCons M none fun M O=>tkInt M none fun M P=>tkCons O none fun O Q=>tkInt O none fun O R=>tkCons Q none fun Q T=>tkInt Q none fun Q U=>tkCons T none fun T V=>tkInt T none fun T W=>tkCons V none fun V X=>tkInt V none fun V Y=>tkCons X none fun X Z=>tkInt X none fun X aa=>tkNil Z none (tkOut (a.pf 17 [.agg [.int f k,.int j n,.int m p,.int o r,.int q u,.int t w,.int v y,.int x A,.int z C,.int B G,.int D I],.agg [.int H K,.int J N,.int M P,.int O R,.int Q U,.int T W,.int V Y,.int X aa],.agg [i64 2,i64 0,i64 0,i64 0,i64 0,i64 210,i64 0,i64 0,i64 0,i64 0]]) none (fun f=>tkTup f none fun f=>tkCons f none fun f j=>tkAgg f none fun f=>tkCons f none fun f k=>tkInt f none fun f m=>tkCons k none fun k n=>tkInt k none fun k o=>tkCons n none fun n p=>tkInt n none fun _ _=>tkCons p none fun n p=>tkInt n none fun _ _=>tkCons p none fun n p=>tkInt n none fun _ _=>tkCons p none fun n p=>tkInt n none fun _ _=>tkCons p none fun n p=>tkInt n none fun _ _=>tkCons p none fun n p=>tkInt n none fun _ _=>tkNil p none (tkCons j none fun j n=>tkAgg j none fun j=>tkCons j none fun j p=>tkInt j none fun _ _=>tkCons p none fun j p=>tkInt j none fun _ _=>tkCons p none fun j p=>tkInt j none fun _ _=>tkCons p none fun j p=>tkInt j none fun _ _=>tkCons p none fun j p=>tkInt j none fun _ _=>tkCons p none fun j p=>tkInt j none fun _ _=>tkNil p none (tkCons n none fun j n=>tkInt j none fun j p=>tkNil n none (tkOut (a.pf 20 [.row false 2 3 (fun a=>List.take 3 (List.drop ((Min.min a 1)*3) [i64 0,.bool true,i64 2,i64 0,.bool true,i64 2])),i64 9,i64 1]) none (fun a=>tkTup a none fun a=>tkCons a none fun a n=>tkInt a none fun a q=>tkCons n none fun n r=>tkInt n none fun n t=>tkNil r none (bif decide (c = .i64) then bif i==0 then bif decide (j = .i64) then bif p==0 then bif decide (n = .i64) then bif t==0 then bif decide (b = .i64) then bif decide (d = .i64) then bif (e==20000) && ((g==45000) && true) then bif decide (f = .i64) then bif decide (k = .i64) then bif (m==1800) && ((o==1900) && true) then bif decide (a = .i64) then some (.ret (.bool (q==1))) else none else some (.ret (.bool false)) else none else none else some (.ret (.bool false)) else none else none else some (.ret (.bool false)) else none else some (.ret (.bool false)) else none else some (.ret (.bool false)) else none)) pK)))) pK)) pK)) pK))) pK)) pK)) pK):=by kernel_rfl
end Go.Sim.Le
namespace Go.Sim.Pl
open Go.Sim.Le (cfg E E_pf E_hv names look)
open Go.Proofs
open IntKind (wrap)
noncomputable def LA0x0 (a:Env) (b:Nat) (c:Sl Mach) (d:Sl Hour) (e:Sl (Sl Int)) (f:Sl Int) (g:Sto) (i:Dy) (j:Nat) (k:Int):Option Out:=atLoop Tryz.prog (cfg b) a 3 [.r,.r,.l,.r,.d] [] j { tm:=tmL 326 0 [(0,(sl eMach 10 c)),(1,(sl eHour 3 d)),(2,(sl eIL 1 e)),(3,(sl eInt 1 f)),(10,(.optr 0 0 0)),(11,(.optr 1 0 0)),(13,(i64 k))],hp:=[.box 28 (eSto g) true,.box 33 (eDy i) true] }
noncomputable def LA0x1 (a:Env) (b:Nat) (c:Sl Mach) (d:Sl Hour) (e:Sl (Sl Int)) (f:Sl Int) (g:Sto) (i:Dy) (j:Nat) (k:Int):Option Out:=atLoop Tryz.prog (cfg b) a 3 [.r,.r,.r,.l,.r,.d] [] j { tm:=tmL 326 0 [(0,(sl eMach 10 c)),(1,(sl eHour 3 d)),(2,(sl eIL 1 e)),(3,(sl eInt 1 f)),(10,(.optr 0 0 0)),(11,(.optr 1 0 0)),(14,(i64 k))],hp:=[.box 28 (eSto g) true,.box 33 (eDy i) true] }
noncomputable def LA0x2 (a:Env) (b:Nat) (c:Sl Mach) (d:Sl Hour) (e:Sl (Sl Int)) (f:Sl Int) (g:Sto) (i:Dy) (j:Nat) (k:Int):Option Out:=atLoop Tryz.prog (cfg b) a 3 [.r,.r,.r,.r,.l,.r,.d] [] j { tm:=tmL 326 0 [(0,(sl eMach 10 c)),(1,(sl eHour 3 d)),(2,(sl eIL 1 e)),(3,(sl eInt 1 f)),(10,(.optr 0 0 0)),(11,(.optr 1 0 0)),(15,(i64 k))],hp:=[.box 28 (eSto g) true,.box 33 (eDy i) true] }
noncomputable def LA0x3 (a:Env) (b:Nat) (c:Sl Mach) (d:Sl Hour) (e:Sl (Sl Int)) (f:Sl Int) (g:Sto) (i:Dy) (j:Nat):Option Out:=atLoop Tryz.prog (cfg b) a 3 [.r,.r,.r,.r,.r,.r,.l,.r,.d] [] j { tm:=tmL 326 0 [(0,(sl eMach 10 c)),(1,(sl eHour 3 d)),(2,(sl eIL 1 e)),(3,(sl eInt 1 f)),(10,(.optr 0 0 0)),(11,(.optr 1 0 0)),(16,nL),(17,(i64 0))],hp:=[.box 28 (eSto g) true,.box 33 (eDy i) true] }
noncomputable def LA0x4 (b:Env) (c:Nat) (d:Sl Mach) (a:Sl Hour) (e:Sl (Sl Int)) (f:Sl Int) (g:Sto) (i:Dy) (j:Nat) (k:Int) (m:Nat→List V):Option Out:=atLoop Tryz.prog (cfg c) b 3 [.r,.r,.r,.r,.r,.r,.l,.r,.d] [] j { tm:=tmL 326 0 [(0,(sl eMach 10 d)),(1,(sl eHour 3 a)),(2,(sl eIL 1 e)),(3,(sl eInt 1 f)),(10,(.optr 0 0 0)),(11,(.optr 1 0 0)),(16,(.osl 2 0 a.len)),(17,(i64 k))],hp:=[.box 28 (eSto g) true,.box 33 (eDy i) true,.arr 48 3 a.len m true] }
noncomputable def LA0x5 (a:Env) (b:Nat) (c:Sl Mach) (n:Sl Hour) (d:Sl (Sl Int)) (e:Sl Int) (o:Sto) (f:Dy) (g:Nat) (i:Bool) (j k:Nat) (m:Nat→List V):Option Out:=atLoop Tryz.prog (cfg b) a 3 [.r,.r,.r,.r,.r,.r,.r,.r,.r,.r,.r,.r,.l,.r,.d] [] g { tm:=tmL 326 0 [(0,(sl eMach 10 c)),(2,(sl eIL 1 d)),(3,(sl eInt 1 e)),(11,(.optr 0 0 0)),(16,nL),(21,(.row i j k m)),(23,(i64 0))],hp:=[.box 33 (eDy f) true] }
noncomputable def LA0x6 (b:Env) (c:Nat) (d:Sl Mach) (a:Sl Hour) (e:Sl (Sl Int)) (f:Sl Int) (q:Sto) (g:Dy) (i:Nat) (j:Bool) (k m:Nat) (n:Nat→List V) (o:Int) (p:Nat→List V):Option Out:=atLoop Tryz.prog (cfg c) b 3 [.r,.r,.r,.r,.r,.r,.r,.r,.r,.r,.r,.r,.l,.r,.d] [] i { tm:=tmL 326 0 [(0,(sl eMach 10 d)),(2,(sl eIL 1 e)),(3,(sl eInt 1 f)),(11,(.optr 0 0 0)),(16,(.osl 1 0 a.len)),(21,(.row j k m n)),(23,(i64 o))],hp:=[.box 33 (eDy g) true,.arr 48 3 a.len p true] }
noncomputable def LA0x7 (b:Env) (c:Nat) (d:Sl Mach) (a:Sl Hour) (e:Sl (Sl Int)) (f:Sl Int) (u:Sto) (g:Dy) (i j:Nat) (k:Bool) (m n:Nat) (o:Nat→List V) (p q r:Int) (t:Nat→List V):Option Out:=atLoop Tryz.prog (cfg c) b 3 [.r,.r,.r,.r,.r,.r,.r,.r,.r,.r,.r,.r,.l,.r,.d,.d,.r,.l,.d,.r,.r,.l,.r,.d] [i] j { tm:=tmL 326 0 [(0,(sl eMach 10 d)),(2,(sl eIL 1 e)),(3,(sl eInt 1 f)),(11,(.optr 0 0 0)),(16,(.osl 1 0 a.len)),(21,(.row k m n o)),(23,(i64 p)),(24,(i64 q)),(25,(i64 r))],hp:=[.box 33 (eDy g) true,.arr 48 3 a.len t true] }
theorem tA0 (a:Env) (d:Nat) (e:Sl Mach) (b:Sl Hour) (f:Sl (Sl Int)) (g:Sl Int) (i:Sto) (c:Dy):(evFun Tryz.prog (cfg d) a 3 [sl eMach 10 e,sl eHour 3 b,sl eIL 1 f,sl eInt 1 g,.agg (eSto i),.agg (eDy c)])=(bif decide ((e.len:Int)>4) then tkOut (a.pf 4 []) none (fun a=>tkBool a none fun a=>some (.ret (.bool a))) pK else bif decide ((b.len:Int)>8) then tkOut (a.pf 4 []) none (fun a=>tkBool a none fun a=>some (.ret (.bool a))) pK else bif decide ((f.len:Int)>8) then tkOut (a.pf 4 []) none (fun a=>tkBool a none fun a=>some (.ret (.bool a))) pK else bif (g.len:Int) != (b.len:Int) then tkOut (a.pf 4 []) none (fun a=>tkBool a none fun a=>some (.ret (.bool a))) pK else bif (c.hours.len:Int) != (b.len:Int) then tkOut (a.pf 4 []) none (fun a=>tkBool a none fun a=>some (.ret (.bool a))) pK else bif decide ((i.cons.len:Int)>8) then tkOut (a.pf 4 []) none (fun a=>tkBool a none fun a=>some (.ret (.bool a))) pK else bif decide ((c.noms.len:Int)>60) then tkOut (a.pf 4 []) none (fun a=>tkBool a none fun a=>some (.ret (.bool a))) pK else bif decide ((c.trades.len:Int)>50) then tkOut (a.pf 4 []) none (fun a=>tkBool a none fun a=>some (.ret (.bool a))) pK else LA0x0 a d e b f g i c d (0:Int)):=by kernel_rfl
theorem LA0x0s (c:Env) (d:Nat) (a:Sl Mach) (e:Sl Hour) (f:Sl (Sl Int)) (g:Sl Int) (i:Sto) (j:Dy) (k:Nat) (b:Int):LA0x0 c d a e f g i j (k+1) b=(bif decide (b<(a.len:Int)) then bif decide (0≤b) then bif decide (b<(a.len:Int)) then bif decide ((((Sl.len (a.el b.toNat).rows):Nat):Int)>10) then tkOut (c.pf 4 []) none (fun a=>tkBool a none fun a=>some (.ret (.bool a))) pK else LA0x0 c d a e f g i j k (wrap .i64 (b+1)) else none else none else LA0x1 c d a e f g i j d (0:Int)):=by kernel_rfl
theorem LA0x1s (c:Env) (d:Nat) (e:Sl Mach) (f:Sl Hour) (g:Sl (Sl Int)) (i:Sl Int) (a:Sto) (j:Dy) (k:Nat) (b:Int):LA0x1 c d e f g i a j (k+1) b=(bif decide (b<(a.cons.len:Int)) then bif decide (0≤b) then bif decide (b<(a.cons.len:Int)) then bif decide ((((Sl.len (a.cons.el b.toNat).rates):Nat):Int)>10) then tkOut (c.pf 4 []) none (fun a=>tkBool a none fun a=>some (.ret (.bool a))) pK else LA0x1 c d e f g i a j k (wrap .i64 (b+1)) else none else none else LA0x2 c d e f g i a j d (0:Int)):=by kernel_rfl
theorem LA0x2s (d:Env) (b:Nat) (f:Sl Mach) (a:Sl Hour) (c:Sl (Sl Int)) (g:Sl Int) (i:Sto) (j:Dy) (k:Nat) (e:Int):LA0x2 d b f a c g i j (k+1) e=(bif decide (e<(c.len:Int)) then bif decide (0≤e) then bif decide (e<(c.len:Int)) then bif decide ((((c.el e.toNat).len:Nat):Int)>10) then tkOut (d.pf 4 []) none (fun a=>tkBool a none fun a=>some (.ret (.bool a))) pK else LA0x2 d b f a c g i j k (wrap .i64 (e+1)) else none else none else bif a.nl then LA0x3 d b f a c g i j b else bif a.len==0 then LA0x3 d b f a c g i j b else bif decide ((a.len*24)≤140737488355328) then LA0x4 d b f a c g i j b (0:Int) (fun b=>eHour (a.el b)) else none):=by kernel_rfl
theorem LA0x3s (a:Env) (f:Nat) (b:Sl Mach) (g:Sl Hour) (d:Sl (Sl Int)) (i:Sl Int) (c:Sto) (e:Dy) (j:Nat):LA0x3 a f b g d i c e (j+1)=(tkOut (a.pf 5 [sl eMach 10 b]) none (fun j=>tkBool j none fun j=>bif !j then tkOut (a.pf 4 []) none (fun a=>tkBool a none fun a=>some (.ret (.bool a))) pK else tkOut (a.pf 6 [nL]) none (fun j=>tkBool j none fun j=>bif !j then tkOut (a.pf 4 []) none (fun a=>tkBool a none fun a=>some (.ret (.bool a))) pK else tkOut (a.pf 7 [sl eMach 10 b,i64 ((0:Nat):Int),sl eIL 1 d]) none (fun j=>tkBool j none fun j=>bif !j then tkOut (a.pf 4 []) none (fun a=>tkBool a none fun a=>some (.ret (.bool a))) pK else tkOut (a.pf 8 [.agg (eSto c)]) none (fun j=>tkBool j none fun j=>bif !j then tkOut (a.pf 4 []) none (fun a=>tkBool a none fun a=>some (.ret (.bool a))) pK else tkOut (a.pf 9 [.agg (eDy e),i64 (c.cons.len:Int)]) none (fun j=>tkBool j none fun j=>bif !j then tkOut (a.pf 4 []) none (fun a=>tkBool a none fun a=>some (.ret (.bool a))) pK else tkOut (a.pf 10 [sl eMach 10 b,nL,sl eIL 1 d]) none (fun j=>tkTup j none fun j=>tkCons j none fun j k=>tkAgg j none fun j=>tkCons j none fun j m=>tkInt j none fun _ _=>tkCons m none fun j m=>tkInt j none fun j n=>tkCons m none fun m o=>tkInt m none fun _ _=>tkNil o none (tkCons k none fun k m=>tkInt k none fun k o=>tkNil m none (tkOut (a.pf 11 [.agg (eSto c),.agg (eDy e)]) none (fun m=>tkTup m none fun m=>tkCons m none fun m p=>tkAgg m none fun m=>tkCons m none fun m q=>tkInt m none fun _ _=>tkCons q none fun m q=>tkRow m none fun _ _ _ _=>tkCons q none fun m q=>tkInt m none fun _ _=>tkCons q none fun m q=>tkInt m none fun _ _=>tkCons q none fun m q=>tkRow m none fun _ _ _ _=>tkCons q none fun m q=>tkRow m none fun _ _ _ _=>tkNil q none (tkCons p none fun m p=>tkRow m none fun m q r t=>tkCons p none fun p u=>tkInt p none fun p v=>tkNil u none (bif decide (k = .i64) then bif o != 0 then some (.ret (.bool false)) else bif decide (p = .i64) then bif v != 0 then some (.ret (.bool false)) else bif (q:Int) != (g.len:Int) then some (.ret (.bool false)) else bif decide (j = .i64) then bif n != 1 then tkOut (a.pf 4 []) none (fun a=>tkBool a none fun a=>some (.ret (.bool a))) pK else LA0x5 a f b g d i c e f m q r t else none else none else none))) pK))) pK) pK) pK) pK) pK) pK):=by kernel_rfl
theorem LA0x4s (a:Env) (j:Nat) (e:Sl Mach) (b:Sl Hour) (g:Sl (Sl Int)) (k:Sl Int) (f:Sto) (d:Dy) (m:Nat) (c:Int) (i:Nat→List V):LA0x4 a j e b g k f d (m+1) c i=(bif decide (c<(b.len:Int)) then bif decide (0≤c) then bif decide (c<(d.hours.len:Int)) then bif decide (0≤c) then bif decide (c<(b.len:Int)) then LA0x4 a j e b g k f d m (wrap .i64 (c+1)) (updGet i c.toNat 0 [i64 (d.hours.el c.toNat).inn]) else none else none else none else none else tkOut (a.pf 5 [sl eMach 10 e]) none (fun c=>tkBool c none fun c=>bif !c then tkOut (a.pf 4 []) none (fun a=>tkBool a none fun a=>some (.ret (.bool a))) pK else tkOut (a.pf 6 [.row false b.len 3 (fun a=>i a)]) none (fun c=>tkBool c none fun c=>bif !c then tkOut (a.pf 4 []) none (fun a=>tkBool a none fun a=>some (.ret (.bool a))) pK else tkOut (a.pf 7 [sl eMach 10 e,i64 (b.len:Int),sl eIL 1 g]) none (fun c=>tkBool c none fun c=>bif !c then tkOut (a.pf 4 []) none (fun a=>tkBool a none fun a=>some (.ret (.bool a))) pK else tkOut (a.pf 8 [.agg (eSto f)]) none (fun c=>tkBool c none fun c=>bif !c then tkOut (a.pf 4 []) none (fun a=>tkBool a none fun a=>some (.ret (.bool a))) pK else tkOut (a.pf 9 [.agg (eDy d),i64 (f.cons.len:Int)]) none (fun c=>tkBool c none fun c=>bif !c then tkOut (a.pf 4 []) none (fun a=>tkBool a none fun a=>some (.ret (.bool a))) pK else tkOut (a.pf 10 [sl eMach 10 e,.row false b.len 3 (fun a=>i a),sl eIL 1 g]) none (fun c=>tkTup c none fun c=>tkCons c none fun c m=>tkAgg c none fun c=>tkCons c none fun c n=>tkInt c none fun _ _=>tkCons n none fun c n=>tkInt c none fun c o=>tkCons n none fun n p=>tkInt n none fun _ _=>tkNil p none (tkCons m none fun m n=>tkInt m none fun m p=>tkNil n none (tkOut (a.pf 11 [.agg (eSto f),.agg (eDy d)]) none (fun n=>tkTup n none fun n=>tkCons n none fun n q=>tkAgg n none fun n=>tkCons n none fun n r=>tkInt n none fun _ _=>tkCons r none fun n r=>tkRow n none fun _ _ _ _=>tkCons r none fun n r=>tkInt n none fun _ _=>tkCons r none fun n r=>tkInt n none fun _ _=>tkCons r none fun n r=>tkRow n none fun _ _ _ _=>tkCons r none fun n r=>tkRow n none fun _ _ _ _=>tkNil r none (tkCons q none fun n q=>tkRow n none fun n r t u=>tkCons q none fun q v=>tkInt q none fun q w=>tkNil v none (bif decide (m = .i64) then bif p != 0 then some (.ret (.bool false)) else bif decide (q = .i64) then bif w != 0 then some (.ret (.bool false)) else bif (r:Int) != (b.len:Int) then some (.ret (.bool false)) else bif decide (c = .i64) then bif o != 1 then tkOut (a.pf 4 []) none (fun a=>tkBool a none fun a=>some (.ret (.bool a))) pK else LA0x6 a j e b g k f d j n r t u (0:Int) i else none else none else none))) pK))) pK) pK) pK) pK) pK) pK):=by kernel_rfl
theorem LA0x5s (a:Env) (b:Nat) (c:Sl Mach) (d:Sl Hour) (e:Sl (Sl Int)) (f:Sl Int) (g:Sto) (i:Dy) (j:Nat) (k:Bool) (m n:Nat) (o:Nat→List V):LA0x5 a b c d e f g i (j+1) k m n o=(tkOut (a.pf 4 []) none (fun a=>tkBool a none fun a=>some (.ret (.bool a))) pK):=by kernel_rfl
theorem LA0x6s (c:Env) (f:Nat) (g:Sl Mach) (d:Sl Hour) (i:Sl (Sl Int)) (b:Sl Int) (j:Sto) (k:Dy) (m:Nat) (n:Bool) (o p:Nat) (q:Nat→List V) (a:Int) (e:Nat→List V):LA0x6 c f g d i b j k (m+1) n o p q a e=(bif decide (a<(d.len:Int)) then bif decide (0≤a) then bif decide (a<(b.len:Int)) then bif decide (0≤a) then bif decide (a<(d.len:Int)) then tkCons (List.drop 1 (e a.toNat)) none fun r _=>tkInt r none fun r t=>bif decide (.i64=r) then bif decide ((b.el a.toNat)<t) then tkOut (c.pf 4 []) none (fun a=>tkBool a none fun a=>some (.ret (.bool a))) pK else bif decide (0≤a) then bif decide (a<(b.len:Int)) then bif decide (0≤a) then bif decide (a<(d.len:Int)) then tkCons (List.drop 2 (e a.toNat)) none fun r _=>tkInt r none fun r t=>bif decide (.i64=r) then bif decide ((b.el a.toNat)>t) then tkOut (c.pf 4 []) none (fun a=>tkBool a none fun a=>some (.ret (.bool a))) pK else LA0x7 c f g d i b j k m f n o p q a (0:Int) (0:Int) e else none else none else none else none else none else none else none else none else none else none else tkOut (c.pf 4 []) none (fun a=>tkBool a none fun a=>some (.ret (.bool a))) pK):=by kernel_rfl
theorem LA0x7s (d:Env) (n:Nat) (e:Sl Mach) (o:Sl Hour) (f:Sl (Sl Int)) (c:Sl Int) (p:Sto) (b:Dy) (q u:Nat) (r:Bool) (j k:Nat) (m:Nat→List V) (a g i:Int) (t:Nat→List V):LA0x7 d n e o f c p b q (u+1) r j k m a g i t=(bif k==4 then bif decide (0≤a) then bif decide (a<(j:Int)) then tkCons (List.drop 2 (m a.toNat)) none fun v _=>tkRow v none fun _ v _ _=>bif decide (i<(v:Int)) then bif decide (i<20) then bif k==4 then bif decide (0≤a) then bif decide (a<(j:Int)) then tkCons (List.drop 2 (m a.toNat)) none fun v _=>tkRow v none fun _ v w x=>bif w==1 then bif decide (0≤i) then bif decide (i<(v:Int)) then tkCons (x i.toNat) none fun v _=>tkInt v none fun _ v=>LA0x7 d n e o f c p b q u r j k m a (wrap .i64 (g+(if 0<v then v else (0:Int)))) (wrap .i64 (i+1)) t else none else none else none else none else none else none else bif decide (0≤a) then bif decide (a<(b.hours.len:Int)) then bif decide (g>(b.hours.el a.toNat).inn) then some (.ret (.bool false)) else bif decide (0≤a) then bif decide (a<(b.hours.len:Int)) then bif decide (g>(b.hours.el a.toNat).fin) then some (.ret (.bool false)) else bif decide (0≤a) then bif decide (a<(f.len:Int)) then tkOut (d.pf 12 [sl eInt 1 (f.el a.toNat)]) none (fun i=>tkRow i none fun i u v w=>bif decide (0≤a) then bif decide (a<(c.len:Int)) then tkOut (d.pf 13 [sl eMach 10 e,.row i u v w,i64 g,i64 (c.el a.toNat)]) none (fun g=>tkTup g none fun g=>tkCons g none fun g x=>tkRow g none fun _ _ _ _=>tkCons x none fun g x=>tkRow g none fun _ _ _ _=>tkCons x none fun g x=>tkInt g none fun g y=>tkCons x none fun x z=>tkInt x none fun x A=>tkNil z none (bif decide (0≤a) then bif decide (a<(b.hours.len:Int)) then bif decide (0≤a) then bif decide (a<(c.len:Int)) then tkOut (d.pf 13 [sl eMach 10 e,.row i u v w,i64 (b.hours.el a.toNat).inn,i64 (c.el a.toNat)]) none (fun i=>tkTup i none fun i=>tkCons i none fun i u=>tkRow i none fun _ _ _ _=>tkCons u none fun i u=>tkRow i none fun _ _ _ _=>tkCons u none fun i u=>tkInt i none fun i v=>tkCons u none fun u w=>tkInt u none fun u z=>tkNil w none (bif decide (x = .i64) then bif A != 0 then some (.ret (.bool false)) else bif decide (u = .i64) then bif z != 0 then some (.ret (.bool false)) else bif decide (g=i) then bif decide (y>v) then some (.ret (.bool false)) else LA0x6 d n e o f c p b q r j k m (wrap .i64 (a+1)) t else none else none else none)) pK else none else none else none else none)) pK else none else none) pK else none else none else none else none else none else none else bif decide (0≤a) then bif decide (a<(b.hours.len:Int)) then bif decide (g>(b.hours.el a.toNat).inn) then some (.ret (.bool false)) else bif decide (0≤a) then bif decide (a<(b.hours.len:Int)) then bif decide (g>(b.hours.el a.toNat).fin) then some (.ret (.bool false)) else bif decide (0≤a) then bif decide (a<(f.len:Int)) then tkOut (d.pf 12 [sl eInt 1 (f.el a.toNat)]) none (fun i=>tkRow i none fun i u v w=>bif decide (0≤a) then bif decide (a<(c.len:Int)) then tkOut (d.pf 13 [sl eMach 10 e,.row i u v w,i64 g,i64 (c.el a.toNat)]) none (fun g=>tkTup g none fun g=>tkCons g none fun g x=>tkRow g none fun _ _ _ _=>tkCons x none fun g x=>tkRow g none fun _ _ _ _=>tkCons x none fun g x=>tkInt g none fun g y=>tkCons x none fun x z=>tkInt x none fun x A=>tkNil z none (bif decide (0≤a) then bif decide (a<(b.hours.len:Int)) then bif decide (0≤a) then bif decide (a<(c.len:Int)) then tkOut (d.pf 13 [sl eMach 10 e,.row i u v w,i64 (b.hours.el a.toNat).inn,i64 (c.el a.toNat)]) none (fun i=>tkTup i none fun i=>tkCons i none fun i u=>tkRow i none fun _ _ _ _=>tkCons u none fun i u=>tkRow i none fun _ _ _ _=>tkCons u none fun i u=>tkInt i none fun i v=>tkCons u none fun u w=>tkInt u none fun u z=>tkNil w none (bif decide (x = .i64) then bif A != 0 then some (.ret (.bool false)) else bif decide (u = .i64) then bif z != 0 then some (.ret (.bool false)) else bif decide (g=i) then bif decide (y>v) then some (.ret (.bool false)) else LA0x6 d n e o f c p b q r j k m (wrap .i64 (a+1)) t else none else none else none)) pK else none else none else none else none)) pK else none else none) pK else none else none else none else none else none else none else none else none else none):=by kernel_rfl
end Go.Sim.Pl

namespace Go.Sim.Pl
open Go.Proofs
theorem fitInt {k:IntKind} {c:V} (h:Fit (.int k) c):∃ n,c = .int k n∧k.min≤n∧n≤k.max:=by
 cases h with
 |int h=>exact⟨_,rfl,h⟩
theorem fitL_nil {cs:List V} (h:FitL [] cs):cs=[]:=by
 have:=h.1
 exact List.eq_nil_of_length_eq_zero this
theorem fitL_cons {s:Sh} {l:List Sh} {cs:List V} (h:FitL (s :: l) cs):∃ c cs',cs=c :: cs'∧Fit s c∧FitL l cs':=by
 obtain⟨h1,h2⟩:=h
 cases cs with
 |nil=>simp at h1
 |cons c cs'=>exact⟨c,cs',rfl,h2 0 s c rfl rfl,by simpa using h1,fun j s' c' g1 g2=>h2 (j+1) s' c' (by simpa using g1) (by simpa using g2)⟩
theorem fitL_int {k:IntKind} {l:List Sh} {cs:List V} (h:FitL (.int k :: l) cs):∃ n cs',cs = .int k n :: cs'∧FitL l cs':=by
 obtain⟨c,cs',rfl,h1,h2⟩:=fitL_cons h
 obtain⟨n,rfl,_⟩:=fitInt h1
 exact⟨n,cs',rfl,h2⟩
abbrev SlOk {α:Type} (s:Sl α):Prop:=s.len≤140737488355328∧(s.nl=true→s.len=0)
theorem fitRow {α:Type} {e:α→List V} {P:α→Prop} {l:List Sh} (dec:∀ cs,FitL l cs→∃ a:α,cs=e a∧P a) {c:V} (h:Fit (.row l) c):∃ s:Sl α,c=sl e l.length s∧SlOk s∧∀ i,P (s.el i):=by
 cases h with
 |row h hn hl hf =>
  rename_i nl len get
  have hx:∀ i,∃ a:α,get i=e a∧P a:=fun i=>dec _ ⟨hl i,hf i⟩
  refine⟨⟨nl,len,fun i=>(hx i).choose⟩,?_,⟨h,hn⟩,fun i=>(hx i).choose_spec.2⟩
  show V.row nl len l.length get=V.row nl len l.length fun i=>e (hx i).choose
  congr 1
  funext i
  exact (hx i).choose_spec.1
theorem fitL_row {α:Type} {e:α→List V} {P:α→Prop} {l r:List Sh} (dec:∀ cs,FitL l cs→∃ a:α,cs=e a∧P a) {cs:List V} (h:FitL (.row l :: r) cs):∃ (s:Sl α) (cs':List V),cs=sl e l.length s :: cs'∧SlOk s∧(∀ i,P (s.el i))∧FitL r cs':=by
 obtain⟨c,cs',rfl,h1,h2⟩:=fitL_cons h
 obtain⟨s,rfl,h3,h4⟩:=fitRow dec h1
 exact⟨s,cs',rfl,h3,h4,h2⟩
theorem fitL_bool {l:List Sh} {cs:List V} (h:FitL (.bool :: l) cs):∃ n cs',cs = .bool n :: cs'∧FitL l cs':=by
 obtain⟨c,cs',rfl,h1,h2⟩:=fitL_cons h
 cases h1 with
 |bool=>exact⟨_,cs',rfl,h2⟩
abbrev i8:Sh:=.int .i64
abbrev shRow:List Sh:=[i8,i8,i8,i8]
abbrev shMach:List Sh:=[i8,.row shRow,i8,i8,i8,i8,i8,i8,.bool,i8]
abbrev shHour:List Sh:=[i8,i8,i8]
abbrev I64 (n:Int):Prop:=IntKind.i64.min≤n∧n≤IntKind.i64.max
theorem decInt (cs:List V) (h:FitL [i8] cs):∃ n:Int,cs=eInt n∧I64 n:=by
 obtain⟨c,cs',rfl,h1,h2⟩:=fitL_cons h
 obtain⟨n,rfl,m1,m2⟩:=fitInt h1
 obtain rfl:=fitL_nil h2
 refine⟨n,rfl,?_⟩
 exact⟨m1,m2⟩
theorem decIL (cs:List V) (h:FitL [.row [i8]] cs):∃ s:Sl Int,cs=eIL s∧SlOk s:=by
 obtain⟨s,_,rfl,h1,_,h2⟩:=fitL_row decInt h
 obtain rfl:=fitL_nil h2
 exact⟨s,rfl,h1⟩
theorem decRow (cs:List V) (h:FitL shRow cs):∃ c:Row,cs=eRow c∧True:=by
 obtain⟨a0,_,rfl,h1⟩:=fitL_int h
 obtain⟨a1,_,rfl,h2⟩:=fitL_int h1
 obtain⟨a2,_,rfl,h3⟩:=fitL_int h2
 obtain⟨a3,_,rfl,h4⟩:=fitL_int h3
 obtain rfl:=fitL_nil h4
 exact⟨⟨a0,a1,a2,a3⟩,rfl,trivial⟩
theorem dcMach (cs:List V) (h:FitL shMach cs):∃ c:Mach,cs=eMach c∧SlOk c.rows:=by
 obtain⟨a0,_,rfl,h1⟩:=fitL_int h
 obtain⟨rw,_,rfl,h0,_,h2⟩:=fitL_row decRow h1
 obtain⟨a2,_,rfl,h3⟩:=fitL_int h2
 obtain⟨a3,_,rfl,h4⟩:=fitL_int h3
 obtain⟨a4,_,rfl,h5⟩:=fitL_int h4
 obtain⟨a5,_,rfl,h6⟩:=fitL_int h5
 obtain⟨a6,_,rfl,h7⟩:=fitL_int h6
 obtain⟨a7,_,rfl,h8⟩:=fitL_int h7
 obtain⟨a8,_,rfl,h9⟩:=fitL_bool h8
 obtain⟨a9,_,rfl,h10⟩:=fitL_int h9
 obtain rfl:=fitL_nil h10
 exact⟨⟨a0,rw,a2,a3,a4,a5,a6,a7,a8,a9⟩,rfl,h0⟩
theorem decHour (cs:List V) (h:FitL shHour cs):∃ c:Hour,cs=eHour c∧True:=by
 obtain⟨a0,_,rfl,h1⟩:=fitL_int h
 obtain⟨a1,_,rfl,h2⟩:=fitL_int h1
 obtain⟨a2,_,rfl,h3⟩:=fitL_int h2
 obtain rfl:=fitL_nil h3
 exact⟨⟨a0,⟨a1,a2⟩⟩,rfl,trivial⟩
abbrev shRate:List Sh:=[i8,i8,i8]
abbrev shCon:List Sh:=[.bool,i8,i8,i8,.row shRate,i8,i8,i8,i8,i8,i8]
abbrev shSto:List Sh:=[i8,i8,i8,i8,i8,.row shCon]
abbrev shHr:List Sh:=[i8,i8,i8,i8]
abbrev shNom:List Sh:=[i8,i8,i8,i8]
abbrev shTrd:List Sh:=[i8,i8,i8,i8,i8]
abbrev shDy:List Sh:=[.row shHr,.row shNom,.row shTrd]
theorem decRate (cs:List V) (h:FitL shRate cs):∃ c:Rate,cs=eRate c∧True:=by
 obtain⟨a0,_,rfl,h0⟩:=fitL_int h
 obtain⟨a1,_,rfl,h1⟩:=fitL_int h0
 obtain⟨a2,_,rfl,h2⟩:=fitL_int h1
 obtain rfl:=fitL_nil h2
 exact⟨⟨a0,a1,a2⟩,rfl,trivial⟩
theorem decCon (cs:List V) (h:FitL shCon cs):∃ c:Con,cs=eCon c∧SlOk c.rates:=by
 obtain⟨a0,_,rfl,h0⟩:=fitL_bool h
 obtain⟨a1,_,rfl,h1⟩:=fitL_int h0
 obtain⟨a2,_,rfl,h2⟩:=fitL_int h1
 obtain⟨a3,_,rfl,h3⟩:=fitL_int h2
 obtain⟨a4,_,rfl,o4,p4,h4⟩:=fitL_row decRate h3
 obtain⟨a5,_,rfl,h5⟩:=fitL_int h4
 obtain⟨a6,_,rfl,h6⟩:=fitL_int h5
 obtain⟨a7,_,rfl,h7⟩:=fitL_int h6
 obtain⟨a8,_,rfl,h8⟩:=fitL_int h7
 obtain⟨a9,_,rfl,h9⟩:=fitL_int h8
 obtain⟨a10,_,rfl,h10⟩:=fitL_int h9
 obtain rfl:=fitL_nil h10
 exact⟨⟨a0,a1,a2,a3,a4,a5,a6,a7,a8,a9,a10⟩,rfl,o4⟩
theorem decSto (cs:List V) (h:FitL shSto cs):∃ c:Sto,cs=eSto c∧(SlOk c.cons∧∀ i,SlOk (c.cons.el i).rates):=by
 obtain⟨a0,_,rfl,h0⟩:=fitL_int h
 obtain⟨a1,_,rfl,h1⟩:=fitL_int h0
 obtain⟨a2,_,rfl,h2⟩:=fitL_int h1
 obtain⟨a3,_,rfl,h3⟩:=fitL_int h2
 obtain⟨a4,_,rfl,h4⟩:=fitL_int h3
 obtain⟨a5,_,rfl,o5,p5,h5⟩:=fitL_row decCon h4
 obtain rfl:=fitL_nil h5
 exact⟨⟨a0,a1,a2,a3,a4,a5⟩,rfl,o5,p5⟩
theorem decHr (cs:List V) (h:FitL shHr cs):∃ c:Hr,cs=eHr c∧True:=by
 obtain⟨a0,_,rfl,h0⟩:=fitL_int h
 obtain⟨a1,_,rfl,h1⟩:=fitL_int h0
 obtain⟨a2,_,rfl,h2⟩:=fitL_int h1
 obtain⟨a3,_,rfl,h3⟩:=fitL_int h2
 obtain rfl:=fitL_nil h3
 exact⟨⟨a0,a1,a2,a3⟩,rfl,trivial⟩
theorem decNom (cs:List V) (h:FitL shNom cs):∃ c:Nom,cs=eNom c∧True:=by
 obtain⟨a0,_,rfl,h0⟩:=fitL_int h
 obtain⟨a1,_,rfl,h1⟩:=fitL_int h0
 obtain⟨a2,_,rfl,h2⟩:=fitL_int h1
 obtain⟨a3,_,rfl,h3⟩:=fitL_int h2
 obtain rfl:=fitL_nil h3
 exact⟨⟨a0,a1,a2,a3⟩,rfl,trivial⟩
theorem decTrd (cs:List V) (h:FitL shTrd cs):∃ c:Trd,cs=eTrd c∧True:=by
 obtain⟨a0,_,rfl,h0⟩:=fitL_int h
 obtain⟨a1,_,rfl,h1⟩:=fitL_int h0
 obtain⟨a2,_,rfl,h2⟩:=fitL_int h1
 obtain⟨a3,_,rfl,h3⟩:=fitL_int h2
 obtain⟨a4,_,rfl,h4⟩:=fitL_int h3
 obtain rfl:=fitL_nil h4
 exact⟨⟨a0,a1,a2,a3,a4⟩,rfl,trivial⟩
theorem decDy (cs:List V) (h:FitL shDy cs):∃ c:Dy,cs=eDy c∧True:=by
 obtain⟨a0,_,rfl,o0,p0,h0⟩:=fitL_row decHr h
 obtain⟨a1,_,rfl,o1,p1,h1⟩:=fitL_row decNom h0
 obtain⟨a2,_,rfl,o2,p2,h2⟩:=fitL_row decTrd h1
 obtain rfl:=fitL_nil h2
 exact⟨⟨a0,a1,a2⟩,rfl,trivial⟩
theorem own:ownKnob Tryz.prog.godebug=none:=by kernel_rfl
end Go.Sim.Pl

namespace Go.Sim.Pl
open Go.Sim.Le (cfg E E_pf E_hv names look)
open Go.Proofs
section
variable {R:Type}
theorem tkOut_ret (v:V) (f:R) (k kp:V→R):tkOut (some (.ret v)) f k kp=k v:=Eq.trans (Eq.refl _) (Eq.refl _)
theorem tkBool_b (b:Bool) (f:R) (k:Bool→R):tkBool (.bool b) f k=k b:=Eq.trans (Eq.refl _) (Eq.refl _)
theorem tkInt_i (q:IntKind) (n:Int) (f:R) (k:IntKind→Int→R):tkInt (.int q n) f k=k q n:=Eq.trans (Eq.refl _) (Eq.refl _)
theorem tkAgg_a (l:List V) (f:R) (k:List V→R):tkAgg (.agg l) f k=k l:=Eq.trans (Eq.refl _) (Eq.refl _)
theorem tkTup_t (l:List V) (f:R) (k:List V→R):tkTup (.tup l) f k=k l:=Eq.trans (Eq.refl _) (Eq.refl _)
theorem tkRow_r (a:Bool) (n wd:Nat) (g:Nat→List V) (f:R) (k:Bool→Nat→Nat→(Nat→List V)→R):tkRow (.row a n wd g) f k=k a n wd g:=Eq.trans (Eq.refl _) (Eq.refl _)
theorem tkCons_c (v:V) (l:List V) (f:R) (k:V→List V→R):tkCons (v :: l) f k=k v l:=Eq.trans (Eq.refl _) (Eq.refl _)
theorem tkNil_n (f k:R):tkNil [] f k=k:=Eq.trans (Eq.refl _) (Eq.refl _)
theorem tkFn_f (g:Nat) (a b:List V) (f:R) (k:Nat→List V→List V→R):tkFn (.fn (.func g) a b) f k=k g a b:=Eq.trans (Eq.refl _) (Eq.refl _)
theorem tkPtr_p (n wd:Nat) (g:Nat→List V) (i o:Nat) (f:R) (k:Nat→Nat→(Nat→List V)→Nat→Nat→R):tkPtr (.rptr n wd g i o) f k=k n wd g i o:=Eq.trans (Eq.refl _) (Eq.refl _)
theorem tkHv_h (v:V) (h:List Slot) (f:R) (k:V→List Slot→R):tkHv (some (.ret v,h)) f k=k v h:=Eq.trans (Eq.refl _) (Eq.refl _)
theorem tkSCons_c (s:Slot) (l:List Slot) (f:R) (k:Slot→List Slot→R):tkSCons (s :: l) f k=k s l:=Eq.trans (Eq.refl _) (Eq.refl _)
theorem tkSNil_n (f k:R):tkSNil [] f k=k:=Eq.trans (Eq.refl _) (Eq.refl _)
theorem tkBox_b (e:Nat) (c:List V) (w:Bool) (f:R) (k:Nat→List V→Bool→R):tkBox (.box e c w) f k=k e c w:=Eq.trans (Eq.refl _) (Eq.refl _)
theorem tkArr_a (e wd n:Nat) (g:Nat→List V) (w:Bool) (f:R) (k:Nat→Nat→Nat→(Nat→List V)→Bool→R):tkArr (.arr e wd n g w) f k=k e wd n g w:=Eq.trans (Eq.refl _) (Eq.refl _)
theorem tkSl_r (a:Bool) (n wd:Nat) (g:Nat→List V) (f:R) (k:Bool→Nat→Nat→(Nat→List V)→R) (k':Nat→Nat→Nat→R):tkSl (.row a n wd g) f k k'=k a n wd g:=Eq.trans (Eq.refl _) (Eq.refl _)
theorem pT (a b:R):(bif true then a else b)=a:=Eq.trans (Eq.refl _) (Eq.refl _)
theorem pF (a b:R):(bif false then a else b)=b:=Eq.trans (Eq.refl _) (Eq.refl _)
theorem tkSl_o (b lo n:Nat) (f:R) (k:Bool→Nat→Nat→(Nat→List V)→R) (k':Nat→Nat→Nat→R):tkSl (.osl b lo n) f k k'=k' b lo n:=Eq.trans (Eq.refl _) (Eq.refl _)
end
theorem cAnd (a b:Bool):(bif a then some (Out.ret (.bool b)) else some (.ret (.bool false)))=some (.ret (.bool (a && b))):=by cases a<;>rfl
theorem wr {n:Int} (h:-9223372036854775808≤n∧n≤9223372036854775807):IntKind.i64.wrap n=n:=by rw[IntKind.wrap_i64];omega
theorem wrS {i:Nat} (h:i<4611686018427387904):IntKind.i64.wrap ((i:Int)+1)=((i+1:Nat):Int):=by rw[wr (by omega)];omega
theorem b2 {a b:Bool} (h:a=true↔b=true):a=b:=by cases a<;>cases b<;>simp_all
theorem b3 {a b:Bool} (h:a=b):some (Out.ret (.bool a))=some (.ret (.bool b)):=by rw[h]
abbrev Big:Nat:=4611686018427387904
def allF (p:Nat→Bool):Nat→Nat→Bool
 |0,_=>true
 |n+1,i=>p i && allF p n (i+1)
theorem allF_iff (p:Nat→Bool):∀ n i,allF p n i=true↔∀ k,i≤k→k<i+n→p k=true:=by
 intro n
 induction n with
 |zero=>intro i;simp only[allF,true_iff];intro k h1 h2;omega
 |succ n ih =>
  intro i
  simp only[allF,Bool.and_eq_true,ih]
  constructor
  ·rintro⟨h1,h2⟩ k h3 h4
   rcases Nat.eq_or_lt_of_le h3 with rfl | h5
   ·exact h1
   ·exact h2 k h5 (by omega)
  ·intro h
   exact⟨h i (Nat.le_refl _) (by omega),fun k h1 h2=>h k (by omega) (by omega)⟩
theorem allF_dec (p:Nat→Bool) (n:Nat):allF p n 0=decide (∀ i,i<n→p i=true):=by
 apply b2
 rw[allF_iff,decide_eq_true_iff]
 exact⟨fun h i hi=>h i (Nat.zero_le _) (by omega),fun h i _ hi=>h i (by omega)⟩
theorem cStep (p a:Bool):(bif !p then some (Out.ret (.bool false)) else some (.ret (.bool a)))=some (.ret (.bool (p && a))):=by cases p<;>rfl
section
variable {α:Type} (e:α→List V) (z:α)
def gl (ms:List α):Nat→List V:=fun j=>e (ms.getD j (ms.getLastD z))
variable {e z}
theorem gl_one {l:List V} {m:α} (hl:l=e m):(fun _:Nat=>l)=gl e z [m]:=by
 subst hl
 funext j
 unfold gl
 cases j<;>rfl
theorem gl_snoc {l:List V} {m:α} {ms:List α} {k:Nat} (hk:ms.length=k) (hl:l=e m):appGet k (gl e z ms) (fun _=>l)=gl e z (ms ++ [m]):=by
 subst hl hk
 funext j
 unfold appGet gl
 rw[List.getLastD_concat,List.getD_eq_getElem?_getD,List.getD_eq_getElem?_getD]
 by_cases h:j<ms.length
 ·rw[if_pos h,List.getElem?_append_left h,List.getElem?_eq_getElem h];rfl
 ·rw[if_neg h,List.getElem?_append_right (by omega)]
  rcases Nat.eq_zero_or_pos (j - ms.length) with h0 | h0
  ·rw[h0];rfl
  ·rw[List.getElem?_eq_none (by simp;omega)];rfl
end
def tabL {α:Type} (f:Nat→α) (n:Nat):List α:=(List.range n).map f
theorem tabL_S {α:Type} (f:Nat→α) (n:Nat):tabL f (n+1)=tabL f n ++ [f n]:=by
 unfold tabL;rw[List.range_succ,List.map_append];rfl
theorem tabL_len {α:Type} (f:Nat→α) (n:Nat):(tabL f n).length=n:=by simp[tabL]
theorem tabL_get {α:Type} (f:Nat→α) {n j:Nat} (h:j<n) (z:α):(tabL f n).getD j z=f j:=by
 unfold tabL
 rw[List.getD_eq_getElem?_getD,List.getElem?_map,List.getElem?_range h];rfl
theorem upd_int (r:Nat→Int) (n:Nat) (p:Int):updGet (fun j=>eInt (r j)) n 0 (eInt p)=fun j=>eInt (if j=n then p else r j):=by
 funext j
 unfold updGet
 by_cases h:j=n
 ·rw[if_pos h,if_pos h];rfl
 ·rw[if_neg h,if_neg h]
theorem mnE (a b:Int):(if b<a then b else a)=min a b:=by omega
theorem mxE (a b:Int):(if a<b then b else a)=max a b:=by omega
theorem lenB {n:Nat} (h:n≤140737488355328):n<Big:=by show n<4611686018427387904;omega
end Go.Sim.Pl

namespace Go.Sim.Pl
open Go.Sim.Le (cfg E E_pf E_hv)
open Go.Proofs
variable (F d:Nat)
theorem and2 {a b:Prop} [Decidable a] [Decidable b]:(bif decide a then some (Out.ret (.bool (decide b))) else some (.ret (.bool false)))=some (.ret (.bool (decide (a∧b)))):=by
 by_cases h1:a<;>simp[h1]
theorem sB5 (x y z:Int):(E F (d+1)).pf 26 [.int .i64 x,.int .i64 y,.int .i64 z]=some (.ret (.bool (decide (x≥y∧x≤z)))):=by
 rw[E_pf,tB5,and2]
theorem sB2 (x y z:Int):(E F (d+1)).pf 69 [.int .i64 x,.int .i64 y,.int .i64 z]=some (.ret (.bool (decide (x≥y∧x≤z)))):=by
 rw[E_pf,tB2,and2]
theorem sF2 (n:Int):(E F (d+2)).pf 25 [.int .i64 n]=some (.ret (.bool (decide (n≥0∧n≤800000000)))):=by
 rw[E_pf,tF2,sB5];rfl
theorem sF7 (n:Int):(E F (d+2)).pf 57 [.int .i64 n]=some (.ret (.bool (decide (n≥0∧n≤47)))):=by
 rw[E_pf,tF7,sB5];rfl
theorem sH0 (n:Int):(E F (d+2)).pf 113 [.int .i64 n]=some (.ret (.bool (decide (n≥0∧n≤100000000)))):=by
 rw[E_pf,tH0,sB5];rfl
theorem sF8 (n:Int):(E F (d+2)).pf 112 [.int .i64 n]=some (.ret (.bool (decide (n≥0∧n≤10000)))):=by
 rw[E_pf,tF8,sB5];rfl
theorem sH5 (c:Con) (h:Int):(E F (d+2)).pf 114 [.agg (eCon c),.int .i64 h]=some (.ret (.bool (decide (h≥c.h0∧h≤c.h1)))):=by
 rw[E_pf,tH5,sB5];rfl
theorem sH6 (a b:Int):(E F (d+3)).pf 111 [.agg [.int .i64 a,.int .i64 b]]=some (.ret (.bool (decide ((a≥0∧a≤47)∧(b≥0∧b≤47)∧a≤b)))):=by
 rw[E_pf,tH6]
 simp only[sF7,tkOut_ret,tkBool_b]
 by_cases h1:a≥0∧a≤47
 ·by_cases h2:b≥0∧b≤47<;>simp[h1,h2]
 ·rw[dF h1,pF,dF (fun h=>h1 h.1)]
end Go.Sim.Pl

namespace Go.Sim.Pl
open Go.Sim.Le (cfg E E_pf E_hv)
open Go.Proofs
variable (F d:Nat)
def RtOk (c:Con) (i:Nat):Prop:=(0≤(c.rates.el i).fill∧(c.rates.el i).fill≤1000)∧(0≤(c.rates.el i).inn∧(c.rates.el i).inn≤100000000)∧(0≤(c.rates.el i).out∧(c.rates.el i).out≤100000000)∧(i=0→(c.rates.el i).fill=0)∧(0<i→(c.rates.el (i - 1)).fill<(c.rates.el i).fill∧(c.rates.el i).inn≤(c.rates.el (i - 1)).inn∧(c.rates.el (i - 1)).out≤(c.rates.el i).out)
structure ConOk (c:Con):Prop where
 space:1≤c.space∧c.space≤100000000
 hours:(0≤c.h0∧c.h0≤47)∧(0≤c.h1∧c.h1≤47)∧c.h0≤c.h1
 len:1≤c.rates.len∧c.rates.len≤6
 gas:0≤c.gas∧c.gas≤c.space
 fixed:0≤c.fixed∧c.fixed≤10000
 inn:0≤c.inn∧c.inn≤10000
 out:0≤c.out∧c.out≤10000
 cut:0≤c.cut∧c.cut≤10000
 lack:0≤c.lack∧c.lack≤10000
 rates:∀ i,i<c.rates.len→RtOk c i
theorem lB8 {c:Con} (hl:c.rates.len≤6):∀ (j i fu:Nat),i+j=c.rates.len→j<fu→(∀ k,k<i→RtOk c k)→∃ b,LB8x0 (E F (d+3)) F c fu i=some (.ret (.bool b))∧(b=true→∀ k,k<c.rates.len→RtOk c k):=by
 intro j
 induction j with
 |zero =>
  intro i fu h hf hk
  obtain⟨fu,rfl⟩:=ex1 (n:=fu) (by omega)
  exact⟨true,by rw[LB8x0s,dF (by omega),pF],fun _ k hk'=>hk k (by omega)⟩
 |succ j ih =>
  intro i fu h hf hk
  obtain⟨fu,rfl⟩:=ex1 (n:=fu) (by omega)
  have hi:i<c.rates.len:=by omega
  have hS:=wrS (i:=i) (by omega)
  have q1:=sB5 F (d+2) (c.rates.el i).fill 0 1000
  have q2:=sH0 F (d+1) (c.rates.el i).inn
  have q3:=sH0 F (d+1) (c.rates.el i).out
  rw[LB8x0s]
  simp (disch:=omega) only[dT,pT,tnC,q1,q2,q3,tkOut_ret,tkBool_b,hS]
  by_cases h1:(c.rates.el i).fill≥0∧(c.rates.el i).fill≤1000
  case neg=>exact⟨false,by rw[dF h1,Bool.not_false,pT],fun h=>by cases h⟩
  rw[dT h1,Bool.not_true,pF]
  by_cases h2:(c.rates.el i).inn≥0∧(c.rates.el i).inn≤100000000
  case neg=>exact⟨false,by rw[dF h2,Bool.not_false,pT],fun h=>by cases h⟩
  rw[dT h2,Bool.not_true,pF]
  by_cases h3:(c.rates.el i).out≥0∧(c.rates.el i).out≤100000000
  case neg=>exact⟨false,by rw[dF h3,Bool.not_false,pT],fun h=>by cases h⟩
  rw[dT h3,Bool.not_true,pF]
  by_cases h0:i=0
  ·subst h0
   rw[show (((0:Nat):Int)==0)=true from rfl,pT]
   by_cases h4:(c.rates.el 0).fill=0
   case neg=>exact⟨false,by rw[show ((c.rates.el 0).fill != 0)=true by simpa using h4,pT],fun h=>by cases h⟩
   rw[show ((c.rates.el 0).fill != 0)=false by simpa using h4,pF,dF (by omega),pF]
   exact ih 1 fu (by omega) (by omega) fun k hk'=>by
    obtain rfl:k=0:=by omega
    exact⟨h1,h2,h3,fun _=>h4,fun h=>by omega⟩
  ·have hw:IntKind.i64.wrap ((i:Int) - 1)=((i - 1:Nat):Int):=by rw[wr (by omega)];omega
   rw[show (((i:Nat):Int)==0)=false by simpa using h0,pF,dT (by omega),pT]
   simp (disch:=omega) only[hw,dT,pT,tnC]
   by_cases h4:(c.rates.el i).fill≤(c.rates.el (i - 1)).fill
   ·exact⟨false,by rw[dT h4,pT],fun h=>by cases h⟩
   rw[dF h4,pF]
   by_cases h5:(c.rates.el i).inn>(c.rates.el (i - 1)).inn
   ·exact⟨false,by rw[dT h5,pT],fun h=>by cases h⟩
   rw[dF h5,pF]
   by_cases h6:(c.rates.el i).out<(c.rates.el (i - 1)).out
   ·exact⟨false,by rw[dT h6,pT],fun h=>by cases h⟩
   rw[dF h6,pF]
   exact ih (i+1) fu (by omega) (by omega) fun k hk'=>by
    by_cases hki:k=i
    ·subst hki
     exact⟨h1,h2,h3,fun h=>absurd h h0,fun _=>⟨by omega,by omega,by omega⟩⟩
    ·exact hk k (by omega)
theorem sB8 (hF:10<F) (c:Con):∃ b,(E F (d+4)).pf 55 [.agg (eCon c)]=some (.ret (.bool b))∧(b=true→ConOk c):=by
 have q1:=sB5 F (d+2) c.space 1 100000000
 have q2:=sH6 F d c.h0 c.h1
 have q3:=sB5 F (d+2) c.rates.len 1 6
 have q4:=sB5 F (d+2) c.gas 0 c.space
 have q5:=sF8 F (d+1) c.fixed
 have q6:=sF8 F (d+1) c.inn
 have q7:=sF8 F (d+1) c.out
 have q8:=sF8 F (d+1) c.cut
 have q9:=sF8 F (d+1) c.lack
 rw[E_pf,tB8]
 simp only[q1,q2,q3,q4,q5,q6,q7,q8,q9,tkOut_ret,tkBool_b]
 by_cases h1:c.space≥1∧c.space≤100000000
 case neg=>exact⟨false,by rw[dF h1,Bool.not_false,pT],fun h=>by cases h⟩
 rw[dT h1,Bool.not_true,pF]
 by_cases h2:(c.h0≥0∧c.h0≤47)∧(c.h1≥0∧c.h1≤47)∧c.h0≤c.h1
 case neg=>exact⟨false,by rw[dF h2,Bool.not_false,pT],fun h=>by cases h⟩
 rw[dT h2,Bool.not_true,pF]
 by_cases h3:((c.rates.len:Nat):Int)≥1∧((c.rates.len:Nat):Int)≤6
 case neg=>exact⟨false,by rw[dF h3,Bool.not_false,pT],fun h=>by cases h⟩
 rw[dT h3,Bool.not_true,pF]
 by_cases h4:c.gas≥0∧c.gas≤c.space
 case neg=>exact⟨false,by rw[dF h4,Bool.not_false,pT],fun h=>by cases h⟩
 rw[dT h4,Bool.not_true,pF]
 by_cases h5:c.fixed≥0∧c.fixed≤10000
 case neg=>exact⟨false,by rw[dF h5,Bool.not_false,pT],fun h=>by cases h⟩
 rw[dT h5,Bool.not_true,pF]
 by_cases h6:c.inn≥0∧c.inn≤10000
 case neg=>exact⟨false,by rw[dF h6,Bool.not_false,pT],fun h=>by cases h⟩
 rw[dT h6,Bool.not_true,pF]
 by_cases h7:c.out≥0∧c.out≤10000
 case neg=>exact⟨false,by rw[dF h7,Bool.not_false,pT],fun h=>by cases h⟩
 rw[dT h7,Bool.not_true,pF]
 by_cases h8:c.cut≥0∧c.cut≤10000
 case neg=>exact⟨false,by rw[dF h8,Bool.not_false,pT],fun h=>by cases h⟩
 rw[dT h8,Bool.not_true,pF]
 by_cases h9:c.lack≥0∧c.lack≤10000
 case neg=>exact⟨false,by rw[dF h9,Bool.not_false,pT],fun h=>by cases h⟩
 rw[dT h9,Bool.not_true,pF]
 obtain⟨b,hb,hr⟩:=lB8 F d (c:=c) (by omega) c.rates.len 0 F (by omega) (by omega) (fun k hk=>by omega)
 exact⟨b,hb,fun h=>⟨h1,h2,by omega,h4,h5,h6,h7,h8,h9,hr h⟩⟩
end Go.Sim.Pl

namespace Go.Sim.Pl
open Go.Sim.Le (cfg E E_pf E_hv)
open Go.Proofs
variable (F d:Nat)
def conA (c:Con) (h:Int):Bool:=c.firm && decide (h≥c.h0∧h≤c.h1)
def spF (l:Sl Con):Nat→Int
 |0=>0
 |i+1=>spF l i+(l.el i).space
def siF (l:Sl Con) (h:Int):Nat→Int
 |0=>0
 |i+1=>siF l h i+if conA (l.el i) h=true then ((l.el i).rates.el 0).inn else 0
def soF (l:Sl Con) (h:Int):Nat→Int
 |0=>0
 |i+1=>soF l h i+if conA (l.el i) h=true then ((l.el i).rates.el ((l.el i).rates.len - 1)).out else 0
theorem sold_in {l:Sl Con} (hc:∀ k,k<l.len→ConOk (l.el k)) (h:Int):∀ i,i≤l.len→(0≤spF l i∧spF l i≤100000000*i)∧(0≤siF l h i∧siF l h i≤100000000*i)∧(0≤soF l h i∧soF l h i≤100000000*i)
 |0,_=>by simp[spF,siF,soF]
 |i+1,hi=>by
  have ih:=sold_in hc h i (by omega)
  have c:=hc i (by omega)
  have c1:=c.space
  have c2:=c.len
  have r0:=(c.rates 0 (by omega)).2.1
  have r1:=(c.rates ((l.el i).rates.len - 1) (by omega)).2.2.1
  simp only[spF,siF,soF]
  split<;>omega
section
variable {l:Sl Con} (hc:∀ k,k<l.len→ConOk (l.el k)) (h8:l.len≤8)
include hc h8
theorem lB9 (h:Int):∀ (j i fu:Nat),i+j=l.len→j<fu→LB9x0 (E F (d+2)) F l h fu i (spF l i) (siF l h i) (soF l h i)=some (.ret (.agg [.int .i64 (spF l l.len),.int .i64 (siF l h l.len),.int .i64 (soF l h l.len)])):=by
 intro j
 induction j with
 |zero =>
  intro i fu hij hf
  obtain⟨fu,rfl⟩:=ex1 (n:=fu) (by omega)
  obtain rfl:i=l.len:=by omega
  rw[LB9x0s,dF (by omega),pF]
 |succ j ih =>
  intro i fu hij hf
  obtain⟨fu,rfl⟩:=ex1 (n:=fu) (by omega)
  have hi:i<l.len:=by omega
  have hS:=wrS (i:=i) (by omega)
  have c:=hc i hi
  have c1:=c.space
  have c2:=c.len
  have b0:=sold_in hc h i (by omega)
  have b1:=sold_in hc h (i+1) (by omega)
  have q:=sH5 F d (l.el i) h
  have e:=ih (i+1) fu (by omega) (by omega)
  simp only[spF,siF,soF] at e b1
  have hw:IntKind.i64.wrap ((((l.el i).rates.len:Nat):Int) - 1)=(((l.el i).rates.len - 1:Nat):Int):=by rw[wr (by omega)];omega
  have r0:=(c.rates 0 (by omega)).2.1
  have r1:=(c.rates ((l.el i).rates.len - 1) (by omega)).2.2.1
  rw[LB9x0s]
  simp (disch:=omega) only[dT,pT,tnC,hS,q,tkOut_ret,tkBool_b,hw]
  unfold conA at e b1
  cases hf1:(l.el i).firm with
  |false =>
   rw[hf1] at e
   rw[pF,wr (by omega)]
   simpa using e
  |true =>
   rw[hf1] at e
   rw[pT]
   by_cases ha:h≥(l.el i).h0∧h≤(l.el i).h1
   ·rw[dT ha] at e ⊢
    rw[pT,wr (n:=spF l i+(l.el i).space) (by omega),wr (n:=siF l h i+((l.el i).rates.el 0).inn) (by omega),wr (n:=soF l h i+_) (by omega)]
    simpa using e
   ·rw[dF ha] at e ⊢
    rw[pF,wr (by omega)]
    simpa using e
theorem sB9 (hF:10<F) (h:Int):(E F (d+3)).pf 56 [sl eCon 11 l,.int .i64 h]=some (.ret (.agg [.int .i64 (spF l l.len),.int .i64 (siF l h l.len),.int .i64 (soF l h l.len)])):=by
 rw[E_pf,tB9]
 exact lB9 F d hc h8 h l.len 0 F (by omega) (by omega)
end
end Go.Sim.Pl

namespace Go.Sim.Pl
open Go.Sim.Le (cfg E E_pf E_hv)
open Go.Proofs
variable (F d:Nat)
def OnceOk (s:Sto):Prop:=spF s.cons s.cons.len≤s.space∧∀ h:Nat,h<48→siF s.cons h s.cons.len≤s.inn∧soF s.cons h s.cons.len≤s.out
structure StoOk (s:Sto):Prop where
 space:0≤s.space∧s.space≤800000000
 inn:0≤s.inn∧s.inn≤800000000
 out:0≤s.out∧s.out≤800000000
 lead:0≤s.lead∧s.lead≤48
 fuel:0≤s.fuel∧s.fuel≤1000
 len:s.cons.len≤8
 cons:∀ k,k<s.cons.len→ConOk (s.cons.el k)
 once:OnceOk s
theorem lD3 (hF:100<F) {s:Sto} (hc:∀ k,k<s.cons.len→ConOk (s.cons.el k)) (h8:s.cons.len≤8):∀ (j i fu:Nat),i+j=48→j<fu→(∀ h:Nat,h<i→spF s.cons s.cons.len≤s.space∧siF s.cons h s.cons.len≤s.inn∧soF s.cons h s.cons.len≤s.out) →
 ∃ b,LD3x0 (E F (d+3)) F s s.cons fu i=some (.ret (.bool b))∧(b=true→OnceOk s):=by
 intro j
 induction j with
 |zero =>
  intro i fu hij hf hk
  obtain⟨fu,rfl⟩:=ex1 (n:=fu) (by omega)
  exact⟨true,by rw[LD3x0s,dF (by omega),pF],fun _=>⟨(hk 0 (by omega)).1,fun h hh=>(hk h (by omega)).2⟩⟩
 |succ j ih =>
  intro i fu hij hf hk
  obtain⟨fu,rfl⟩:=ex1 (n:=fu) (by omega)
  have hS:=wrS (i:=i) (by omega)
  have q:=sB9 F d hc h8 (by omega) i
  rw[LD3x0s,dT (by omega),pT]
  simp only[q,hS,tkOut_ret,tkAgg_a,tkCons_c,tkInt_i,tkNil_n,decide_true,pT]
  by_cases h1:spF s.cons s.cons.len>s.space
  ·exact⟨false,by rw[dT h1,pT],fun h=>by cases h⟩
  rw[dF h1,pF]
  by_cases h2:siF s.cons i s.cons.len>s.inn
  ·exact⟨false,by rw[dT h2,pT],fun h=>by cases h⟩
  rw[dF h2,pF]
  by_cases h3:soF s.cons i s.cons.len>s.out
  ·exact⟨false,by rw[dT h3,pT],fun h=>by cases h⟩
  rw[dF h3,pF]
  exact ih (i+1) fu (by omega) (by omega) fun h hh=>by
   by_cases hhi:h=i
   ·subst hhi;exact⟨by omega,by omega,by omega⟩
   ·exact hk h (by omega)
theorem lD4 (hF:100<F) {l:Sl Con} (h8:l.len≤8):∀ (j i fu:Nat),i+j=l.len→j<fu→(∀ k,k<i→ConOk (l.el k))→∃ b,LD4x0 (E F (d+4)) F l fu i=some (.ret (.bool b))∧(b=true→∀ k,k<l.len→ConOk (l.el k)):=by
 intro j
 induction j with
 |zero =>
  intro i fu hij hf hk
  obtain⟨fu,rfl⟩:=ex1 (n:=fu) (by omega)
  exact⟨true,by rw[LD4x0s,dF (by omega),pF],fun _ k hk'=>hk k (by omega)⟩
 |succ j ih =>
  intro i fu hij hf hk
  obtain⟨fu,rfl⟩:=ex1 (n:=fu) (by omega)
  have hS:=wrS (i:=i) (by omega)
  obtain⟨b,q,hb⟩:=sB8 F d (by omega) (l.el i)
  rw[LD4x0s]
  simp (disch:=omega) only[dT,pT,tnC,hS,q,tkOut_ret,tkBool_b]
  cases b with
  |false=>exact⟨false,by rw[Bool.not_false,pT],fun h=>by cases h⟩
  |true =>
   rw[Bool.not_true,pF]
   exact ih (i+1) fu (by omega) (by omega) fun k hk'=>by
    by_cases hki:k=i
    ·subst hki;exact hb rfl
    ·exact hk k (by omega)
theorem sH1 (hF:100<F) (s:Sto):∃ b,(E F (d+6)).pf 8 [.agg (eSto s)]=some (.ret (.bool b))∧(b=true→StoOk s):=by
 have q1:=sF2 F (d+3) s.space
 have q2:=sF2 F (d+3) s.inn
 have q3:=sF2 F (d+3) s.out
 have q4:=sB5 F (d+4) s.lead 0 48
 have q5:=sB5 F (d+4) s.fuel 0 1000
 rw[E_pf,tH1]
 simp only[q1,q2,q3,q4,q5,tkOut_ret,tkBool_b]
 by_cases h1:s.space≥0∧s.space≤800000000
 case neg=>exact⟨false,by rw[dF h1,Bool.not_false,pT],fun h=>by cases h⟩
 rw[dT h1,Bool.not_true,pF]
 by_cases h2:s.inn≥0∧s.inn≤800000000
 case neg=>exact⟨false,by rw[dF h2,Bool.not_false,pT],fun h=>by cases h⟩
 rw[dT h2,Bool.not_true,pF]
 by_cases h3:s.out≥0∧s.out≤800000000
 case neg=>exact⟨false,by rw[dF h3,Bool.not_false,pT],fun h=>by cases h⟩
 rw[dT h3,Bool.not_true,pF]
 by_cases h4:s.lead≥0∧s.lead≤48
 case neg=>exact⟨false,by rw[dF h4,Bool.not_false,pT],fun h=>by cases h⟩
 rw[dT h4,Bool.not_true,pF]
 by_cases h5:s.fuel≥0∧s.fuel≤1000
 case neg=>exact⟨false,by rw[dF h5,Bool.not_false,pT],fun h=>by cases h⟩
 rw[dT h5,Bool.not_true,pF]
 by_cases h6:((s.cons.len:Nat):Int)>8
 ·exact⟨false,by rw[dT h6,pT],fun h=>by cases h⟩
 rw[dF h6,pF]
 have h8:s.cons.len≤8:=by omega
 obtain⟨b,hb,hr⟩:=lD4 F d hF h8 s.cons.len 0 F (by omega) (by omega) (fun k hk=>by omega)
 have q6:(E F (d+5)).pf 27 [sl eCon 11 s.cons]=some (.ret (.bool b)):=by rw[E_pf,tD4];exact hb
 rw[q6]
 simp only[tkOut_ret,tkBool_b]
 cases b with
 |false=>exact⟨false,by rw[pF],fun h=>by cases h⟩
 |true =>
  have hc:=hr rfl
  obtain⟨b',hb',hr'⟩:=lD3 F (d+1) hF hc h8 48 0 F (by omega) (by omega) (fun h hh=>by omega)
  have q7:(E F (d+5)).pf 28 [.agg (eSto s),sl eCon 11 s.cons]=some (.ret (.bool b')):=by rw[E_pf,tD3];exact hb'
  rw[pT,q7]
  exact⟨b',rfl,fun h=>⟨h1,h2,h3,h4,h5,h8,hc,hr' h⟩⟩
end Go.Sim.Pl

namespace Go.Sim.Pl
open Go.Sim.Le (cfg E E_pf E_hv)
open Go.Proofs
variable (F d:Nat)
def NomOk (n:Int) (x:Nom):Prop:=(0≤x.con∧x.con≤n - 1)∧(0≤x.hour∧x.hour≤47)∧(0≤x.sent∧x.sent≤47)∧-100000000≤x.amount∧x.amount≤100000000
def TrdOk (n:Int) (t:Trd):Prop:=(0≤t.hour∧t.hour≤47)∧(t.back = -1∨(t.hour<t.back∧t.back≤47))∧(0≤t.src∧t.src≤n - 1)∧(0≤t.dst∧t.dst≤n - 1)∧t.src ≠ t.dst∧1≤t.amount∧t.amount≤100000000
def HrOk (h:Hr):Prop:=(0≤h.inn∧h.inn≤800000000)∧(0≤h.out∧h.out≤800000000)∧(0≤h.fin∧h.fin≤800000000)∧0≤h.fout∧h.fout≤800000000
structure DyOk (n:Int) (dy:Dy):Prop where
 hours:∀ k,k<dy.hours.len→HrOk (dy.hours.el k)
 noms:∀ k,k<dy.noms.len→NomOk n (dy.noms.el k)
 trades:∀ k,k<dy.trades.len→TrdOk n (dy.trades.el k)
 len:dy.hours.len≤48∧dy.noms.len≤200∧dy.trades.len≤50
section
variable {n:Int} (hn:0≤n∧n≤8)
include hn
theorem sH7 (x:Nom):∃ b,(E F (d+3)).pf 58 [.agg (eNom x),.int .i64 n]=some (.ret (.bool b))∧(b=true→NomOk n x):=by
 have q1:=sB5 F (d+1) x.con 0 (n - 1)
 have q2:=sF7 F d x.hour
 have q3:=sF7 F d x.sent
 have q4:=sB5 F (d+1) x.amount (-100000000) 100000000
 rw[E_pf,tH7,wr (n:=n - 1) (by omega)]
 simp only[q1,q2,q3,q4,tkOut_ret,tkBool_b]
 by_cases h1:x.con≥0∧x.con≤n - 1
 case neg=>exact⟨false,by rw[dF h1,pF],fun h=>by cases h⟩
 rw[dT h1,pT]
 by_cases h2:x.hour≥0∧x.hour≤47
 case neg=>exact⟨false,by rw[dF h2,pF],fun h=>by cases h⟩
 rw[dT h2,pT]
 by_cases h3:x.sent≥0∧x.sent≤47
 case neg=>exact⟨false,by rw[dF h3,pF],fun h=>by cases h⟩
 rw[dT h3,pT]
 exact⟨_,rfl,fun h=>⟨h1,h2,h3,of_decide_eq_true h⟩⟩
theorem lD5 {l:Sl Nom} (hl:l.len≤200):∀ (j i fu:Nat),i+j=l.len→j<fu→(∀ k,k<i→NomOk n (l.el k))→∃ b,LD5x0 (E F (d+3)) F l n fu i=some (.ret (.bool b))∧(b=true→∀ k,k<l.len→NomOk n (l.el k)):=by
 intro j
 induction j with
 |zero =>
  intro i fu hij hf hk
  obtain⟨fu,rfl⟩:=ex1 (n:=fu) (by omega)
  exact⟨true,by rw[LD5x0s,dF (by omega),pF],fun _ k hk'=>hk k (by omega)⟩
 |succ j ih =>
  intro i fu hij hf hk
  obtain⟨fu,rfl⟩:=ex1 (n:=fu) (by omega)
  have hS:=wrS (i:=i) (by omega)
  obtain⟨b,q,hb⟩:=sH7 F d hn (l.el i)
  rw[LD5x0s]
  simp (disch:=omega) only[dT,pT,tnC,hS,q,tkOut_ret,tkBool_b]
  cases b with
  |false=>exact⟨false,by rw[Bool.not_false,pT],fun h=>by cases h⟩
  |true =>
   rw[Bool.not_true,pF]
   exact ih (i+1) fu (by omega) (by omega) fun k hk'=>by
    by_cases hki:k=i
    ·subst hki;exact hb rfl
    ·exact hk k (by omega)
theorem sH8 (t:Trd):∃ b,(E F (d+3)).pf 29 [.agg (eTrd t),.int .i64 n]=some (.ret (.bool b))∧(b=true→TrdOk n t):=by
 have q1:=sF7 F d t.hour
 have q2:=sF7 F d t.back
 have q3:=sB5 F (d+1) t.src 0 (n - 1)
 have q4:=sB5 F (d+1) t.dst 0 (n - 1)
 have q5:=sB5 F (d+1) t.amount 1 100000000
 have tail:∀ (hb:t.back = -1∨(t.hour<t.back∧t.back≤47)) (h1:t.hour≥0∧t.hour≤47),∃ b,(bif decide (t.src≥0∧t.src≤n - 1) then (bif decide (t.dst≥0∧t.dst≤n - 1) then (bif t.src != t.dst then some (Out.ret (.bool (decide (t.amount≥1∧t.amount≤100000000)))) else some (.ret (.bool false))) else some (.ret (.bool false))) else some (.ret (.bool false)))=some (.ret (.bool b))∧(b=true→TrdOk n t):=by
  intro hb h1
  by_cases h3:t.src≥0∧t.src≤n - 1
  case neg=>exact⟨false,by rw[dF h3,pF],fun h=>by cases h⟩
  rw[dT h3,pT]
  by_cases h4:t.dst≥0∧t.dst≤n - 1
  case neg=>exact⟨false,by rw[dF h4,pF],fun h=>by cases h⟩
  rw[dT h4,pT]
  by_cases h5:t.src=t.dst
  ·exact⟨false,by rw[show (t.src != t.dst)=false by simpa using h5,pF],fun h=>by cases h⟩
  rw[show (t.src != t.dst)=true by simpa using h5,pT]
  exact⟨_,rfl,fun h=>⟨h1,hb,h3,h4,h5,of_decide_eq_true h⟩⟩
 rw[E_pf,tH8,wr (n:=n - 1) (by omega)]
 simp only[q1,q2,q3,q4,q5,tkOut_ret,tkBool_b]
 by_cases h1:t.hour≥0∧t.hour≤47
 case neg=>exact⟨false,by rw[dF h1,pF],fun h=>by cases h⟩
 rw[dT h1,pT]
 by_cases h2:t.back = -1
 ·rw[show (t.back == -1)=true by simpa using h2,pT]
  exact tail (.inl h2) h1
 ·rw[show (t.back == -1)=false by simpa using h2,pF]
  by_cases h3:t.back>t.hour
  case neg=>exact⟨false,by rw[dF h3,pF],fun h=>by cases h⟩
  rw[dT h3,pT]
  by_cases h4:t.back≥0∧t.back≤47
  case neg=>exact⟨false,by rw[dF h4,pF],fun h=>by cases h⟩
  rw[dT h4,pT]
  exact tail (.inr ⟨h3,h4.2⟩) h1
end
end Go.Sim.Pl

namespace Go.Sim.Pl
open Go.Sim.Le (cfg E E_pf E_hv)
open Go.Proofs
variable (F d:Nat)
section
variable {n:Int} (hn:0≤n∧n≤8) (hF:1000<F) {dy:Dy} (hl:dy.hours.len≤48) (hm:dy.noms.len≤200) (ht:dy.trades.len≤50)
include hn hF hl hm ht
theorem lA8x1 (hh:∀ k,k<dy.hours.len→HrOk (dy.hours.el k)):∀ (j i fu:Nat),i+j=dy.trades.len→j<fu→(∀ k,k<i→TrdOk n (dy.trades.el k))→∃ b,LA8x1 (E F (d+4)) F dy n fu i=some (.ret (.bool b))∧(b=true→DyOk n dy):=by
 intro j
 induction j with
 |zero =>
  intro i fu hij hf hk
  obtain⟨fu,rfl⟩:=ex1 (n:=fu) (by omega)
  obtain⟨b,hb,hr⟩:=lD5 F d hn hm dy.noms.len 0 F (by omega) (by omega) (fun k hk=>by omega)
  have q:(E F (d+4)).pf 30 [sl eNom 4 dy.noms,.int .i64 n]=some (.ret (.bool b)):=by rw[E_pf,tD5];exact hb
  rw[LA8x1s,dF (by omega),pF,dT (by omega),pT,dT (by omega),pT,dT (by omega),pT,q]
  exact⟨b,rfl,fun h=>⟨hh,hr h,fun k hk'=>hk k (by omega),hl,hm,ht⟩⟩
 |succ j ih =>
  intro i fu hij hf hk
  obtain⟨fu,rfl⟩:=ex1 (n:=fu) (by omega)
  have hS:=wrS (i:=i) (by omega)
  obtain⟨b,q,hb⟩:=sH8 F (d+1) hn (dy.trades.el i)
  rw[LA8x1s]
  simp (disch:=omega) only[dT,pT,tnC,hS,q,tkOut_ret,tkBool_b]
  cases b with
  |false=>exact⟨false,by rw[Bool.not_false,pT],fun h=>by cases h⟩
  |true =>
   rw[Bool.not_true,pF]
   exact ih (i+1) fu (by omega) (by omega) fun k hk'=>by
    by_cases hki:k=i
    ·subst hki;exact hb rfl
    ·exact hk k (by omega)
theorem lA8x0:∀ (j i fu:Nat),i+j=dy.hours.len→j<fu→(∀ k,k<i→HrOk (dy.hours.el k))→∃ b,LA8x0 (E F (d+4)) F dy n fu i=some (.ret (.bool b))∧(b=true→DyOk n dy):=by
 intro j
 induction j with
 |zero =>
  intro i fu hij hf hk
  obtain⟨fu,rfl⟩:=ex1 (n:=fu) (by omega)
  rw[LA8x0s,dF (by omega),pF]
  exact lA8x1 F d hn hF hl hm ht (fun k hk'=>hk k (by omega)) dy.trades.len 0 F (by omega) (by omega) (fun k hk=>by omega)
 |succ j ih =>
  intro i fu hij hf hk
  obtain⟨fu,rfl⟩:=ex1 (n:=fu) (by omega)
  have hS:=wrS (i:=i) (by omega)
  have q1:=sF2 F (d+2) (dy.hours.el i).inn
  have q2:=sF2 F (d+2) (dy.hours.el i).out
  have q3:=sF2 F (d+2) (dy.hours.el i).fin
  have q4:=sF2 F (d+2) (dy.hours.el i).fout
  rw[LA8x0s]
  simp (disch:=omega) only[dT,pT,tnC,hS,q1,q2,q3,q4,tkOut_ret,tkBool_b]
  by_cases h1:(dy.hours.el i).inn≥0∧(dy.hours.el i).inn≤800000000
  case neg=>exact⟨false,by rw[dF h1,Bool.not_false,pT],fun h=>by cases h⟩
  rw[dT h1,Bool.not_true,pF]
  by_cases h2:(dy.hours.el i).out≥0∧(dy.hours.el i).out≤800000000
  case neg=>exact⟨false,by rw[dF h2,Bool.not_false,pT],fun h=>by cases h⟩
  rw[dT h2,Bool.not_true,pF]
  by_cases h3:(dy.hours.el i).fin≥0∧(dy.hours.el i).fin≤800000000
  case neg=>exact⟨false,by rw[dF h3,Bool.not_false,pT],fun h=>by cases h⟩
  rw[dT h3,Bool.not_true,pF]
  by_cases h4:(dy.hours.el i).fout≥0∧(dy.hours.el i).fout≤800000000
  case neg=>exact⟨false,by rw[dF h4,Bool.not_false,pT],fun h=>by cases h⟩
  rw[dT h4,Bool.not_true,pF]
  exact ih (i+1) fu (by omega) (by omega) fun k hk'=>by
   by_cases hki:k=i
   ·subst hki;exact⟨h1,h2,h3,h4⟩
   ·exact hk k (by omega)
theorem sA8:∃ b,(E F (d+5)).pf 9 [.agg (eDy dy),.int .i64 n]=some (.ret (.bool b))∧(b=true→DyOk n dy):=by
 rw[E_pf,tA8]
 exact lA8x0 F d hn hF hl hm ht dy.hours.len 0 F (by omega) (by omega) (fun k hk=>by omega)
end
end Go.Sim.Pl
