/-
  CreepMoves holds for every input: called with any site, states, day and place, the law returns true, and its arguments read behind the call as before. No condition.
-/
import Derived.Test.YtpgpaficdabmkaaAd
import Derived.KernelRfl
set_option linter.unusedVariables false
set_option linter.unusedSimpArgs false
set_option linter.unusedSectionVars false
/-
  What the evaluator says of these functions (printed by a private program; each row is checked by the kernel).
-/
set_option maxRecDepth 100000
namespace Go.Sim.Cr
open Go.Proofs

theorem t46 (env : Env) (F : Nat) : (evFun Try.prog (cfg F) env 46 []) =
  some (.ret (.agg [(.row false 2 11 (fun u2 => (List.take 11 (List.drop ((Min.min u2 1) * 11) [(.int .i64 (0 : Int)), (.int .i64 (0 : Int)), (.int .i64 (30000 : Int)), (.int .i64 (31000 : Int)), (.int .i64 (400000 : Int)), (.int .i64 (410000 : Int)), (.int .i64 (20000 : Int)), (.int .i64 (399800 : Int)), (.int .i64 (6000 : Int)), (.int .i64 (16000 : Int)), (.int .i64 (3000 : Int)), (.int .i64 (100 : Int)), (.int .i64 (0 : Int)), (.int .i64 (30000 : Int)), (.int .i64 (30500 : Int)), (.int .i64 (300000 : Int)), (.int .i64 (300000 : Int)), (.int .i64 (20000 : Int)), (.int .i64 (290000 : Int)), (.int .i64 (6000 : Int)), (.int .i64 (16000 : Int)), (.int .i64 (3000 : Int))])))), (.row false 3 5 (fun u2 => (List.take 5 (List.drop ((Min.min u2 2) * 5) [(.int .i64 (0 : Int)), (.int .i64 (0 : Int)), (.int .i64 (10 : Int)), (.int .i64 (0 : Int)), (.int .i64 (0 : Int)), (.int .i64 (8000 : Int)), (.int .i64 (20 : Int)), (.int .i64 (50 : Int)), (.int .i64 (0 : Int)), (.int .i64 (5 : Int)), (.int .i64 (14000 : Int)), (.int .i64 (100 : Int)), (.int .i64 (200 : Int)), (.int .i64 (10 : Int)), (.int .i64 (30 : Int))])))), (.row false 2 3 (fun u2 => (List.take 3 (List.drop ((Min.min u2 1) * 3) [(.int .i64 (3000 : Int)), (.int .i64 (1000 : Int)), (.int .i64 (1000 : Int)), (.int .i64 (3200 : Int)), (.int .i64 (1000 : Int)), (.int .i64 (1200 : Int))])))), (.int .i64 (38440 : Int)), (.row false 2 3 (fun u2 => (List.take 3 (List.drop ((Min.min u2 1) * 3) [(.int .i64 (50 : Int)), (.int .i64 (900 : Int)), (.int .i64 (1000 : Int)), (.int .i64 (150 : Int)), (.int .i64 (100 : Int)), (.int .i64 (200 : Int))])))), (.row false 1 3 (fun u2 => [(.int .i64 (40 : Int)), (.int .i64 (0 : Int)), (.int .i64 (1 : Int))]))])) := by kernel_rfl

theorem t47 (env : Env) (F : Nat) : (evFun Try.prog (cfg F) env 47 []) =
  some (.ret (.agg [(.row false 2 2 (fun u2 => (List.take 2 (List.drop ((Min.min u2 1) * 2) [(.int .i64 (10000 : Int)), (.int .i64 (12000 : Int)), (.int .i64 (15000 : Int)), (.int .i64 (15000 : Int))])))), (.row false 2 2 (fun u2 => (List.take 2 (List.drop ((Min.min u2 1) * 2) [(.int .i64 (3100 : Int)), (.int .i64 (3100 : Int)), (.int .i64 (3100 : Int)), (.int .i64 (3100 : Int))]))))])) := by kernel_rfl

theorem t13 (env : Env) (F : Nat) : (evFun Try.prog (cfg F) env 13 []) =
  (tkOut (env 46 []) none (fun v2 => (tkAgg v2 none fun l3 => (tkCons l3 none fun v4 r5 => (tkRow v4 none fun nl6 n7 wd8 g9 => (tkCons r5 none fun v10 r11 => (tkRow v10 none fun nl12 n13 wd14 g15 => (tkCons r11 none fun v16 r17 => (tkRow v16 none fun nl18 n19 wd20 g21 => (tkCons r17 none fun v22 r23 => (tkInt v22 none fun q24 n25 => (tkCons r23 none fun v26 r27 => (tkRow v26 none fun nl28 n29 wd30 g31 => (tkCons r27 none fun v32 r33 => (tkRow v32 none fun nl34 n35 wd36 g37 => (tkNil r33 none ((tkOut (env 24 [(.agg [(.row nl6 n7 wd8 g9), (.row nl12 n13 wd14 g15), (.row nl18 n19 wd20 g21), (.int q24 n25), (.row nl28 n29 wd30 g31), (.row nl34 n35 wd36 g37)])]) none (fun v38 => (tkTup v38 none fun l39 => (tkCons l39 none fun v40 r41 => (tkRow v40 none fun nl42 n43 wd44 g45 => (tkCons r41 none fun v46 r47 => (tkInt v46 none fun q48 n49 => (tkNil r47 none ((tkOut (env 46 []) none (fun v50 => (tkAgg v50 none fun l51 => (tkCons l51 none fun v52 r53 => (tkRow v52 none fun nl54 n55 wd56 g57 => (tkCons r53 none fun v58 r59 => (tkRow v58 none fun nl60 n61 wd62 g63 => (tkCons r59 none fun v64 r65 => (tkRow v64 none fun nl66 n67 wd68 g69 => (tkCons r65 none fun v70 r71 => (tkInt v70 none fun q72 n73 => (tkCons r71 none fun v74 r75 => (tkRow v74 none fun nl76 n77 wd78 g79 => (tkCons r75 none fun v80 r81 => (tkRow v80 none fun nl82 n83 wd84 g85 => (tkNil r81 none ((tkOut (env 47 []) none (fun v86 => (tkAgg v86 none fun l87 => (tkCons l87 none fun v88 r89 => (tkRow v88 none fun nl90 n91 wd92 g93 => (tkCons r89 none fun v94 r95 => (tkRow v94 none fun nl96 n97 wd98 g99 => (tkNil r95 none ((tkOut (env 14 [(.agg [(.row nl54 n55 wd56 g57), (.row nl60 n61 wd62 g63), (.row nl66 n67 wd68 g69), (.int q72 n73), (.row nl76 n77 wd78 g79), (.row nl82 n83 wd84 g85)]), (.row nl42 n43 wd44 g45), (.agg [(.row nl90 n91 wd92 g93), (.row nl96 n97 wd98 g99)])]) none (fun v100 => (tkTup v100 none fun l101 => (tkCons l101 none fun v102 r103 => (tkRow v102 none fun nl104 n105 wd106 g107 => (tkCons r103 none fun v108 r109 => (tkInt v108 none fun q110 n111 => (tkNil r109 none ((tkOut (env 46 []) none (fun v112 => (tkAgg v112 none fun l113 => (tkCons l113 none fun v114 r115 => (tkRow v114 none fun nl116 n117 wd118 g119 => (tkCons r115 none fun v120 r121 => (tkRow v120 none fun nl122 n123 wd124 g125 => (tkCons r121 none fun v126 r127 => (tkRow v126 none fun nl128 n129 wd130 g131 => (tkCons r127 none fun v132 r133 => (tkInt v132 none fun q134 n135 => (tkCons r133 none fun v136 r137 => (tkRow v136 none fun nl138 n139 wd140 g141 => (tkCons r137 none fun v142 r143 => (tkRow v142 none fun nl144 n145 wd146 g147 => (tkNil r143 none ((tkOut (env 37 [(.agg [(.row nl116 n117 wd118 g119), (.row nl122 n123 wd124 g125), (.row nl128 n129 wd130 g131), (.int q134 n135), (.row nl138 n139 wd140 g141), (.row nl144 n145 wd146 g147)]), (.int .i64 (0 : Int)), (.int .i64 (1 : Int))]) none (fun v148 => (tkTup v148 none fun l149 => (tkCons l149 none fun v150 r151 => (tkAgg v150 none fun l152 => (tkCons l152 none fun v153 r154 => (tkInt v153 none fun q155 n156 => (tkCons r154 none fun v157 r158 => (tkInt v157 none fun q159 n160 => (tkNil r158 none ((tkCons r151 none fun v161 r162 => (tkInt v161 none fun q163 n164 => (tkNil r162 none ((tkOut (env 46 []) none (fun v165 => (tkAgg v165 none fun l166 => (tkCons l166 none fun v167 r168 => (tkRow v167 none fun nl169 n170 wd171 g172 => (tkCons r168 none fun v173 r174 => (tkRow v173 none fun nl175 n176 wd177 g178 => (tkCons r174 none fun v179 r180 => (tkRow v179 none fun nl181 n182 wd183 g184 => (tkCons r180 none fun v185 r186 => (tkInt v185 none fun q187 n188 => (tkCons r186 none fun v189 r190 => (tkRow v189 none fun nl191 n192 wd193 g194 => (tkCons r190 none fun v195 r196 => (tkRow v195 none fun nl197 n198 wd199 g200 => (tkNil r196 none ((tkOut (env 15 [(.agg [(.row nl169 n170 wd171 g172), (.row nl175 n176 wd177 g178), (.row nl181 n182 wd183 g184), (.int q187 n188), (.row nl191 n192 wd193 g194), (.row nl197 n198 wd199 g200)]), (.row nl104 n105 wd106 g107), (.int .i64 (40 : Int)), (.int .i64 (0 : Int))]) none (fun v201 => (tkTup v201 none fun l202 => (tkCons l202 none fun v203 r204 => (tkAgg v203 none fun l205 => (tkCons l205 none fun v206 r207 => (tkInt v206 none fun q208 n209 => (tkCons r207 none fun v210 r211 => (tkInt v210 none fun q212 n213 => (tkNil r211 none ((tkCons r204 none fun v214 r215 => (tkInt v214 none fun q216 n217 => (tkNil r215 none ((tkOut (env 46 []) none (fun v218 => (tkAgg v218 none fun l219 => (tkCons l219 none fun v220 r221 => (tkRow v220 none fun nl222 n223 wd224 g225 => (tkCons r221 none fun v226 r227 => (tkRow v226 none fun nl228 n229 wd230 g231 => (tkCons r227 none fun v232 r233 => (tkRow v232 none fun nl234 n235 wd236 g237 => (tkCons r233 none fun v238 r239 => (tkInt v238 none fun q240 n241 => (tkCons r239 none fun v242 r243 => (tkRow v242 none fun nl244 n245 wd246 g247 => (tkCons r243 none fun v248 r249 => (tkRow v248 none fun nl250 n251 wd252 g253 => (tkNil r249 none ((tkOut (env 47 []) none (fun v254 => (tkAgg v254 none fun l255 => (tkCons l255 none fun v256 r257 => (tkRow v256 none fun nl258 n259 wd260 g261 => (tkCons r257 none fun v262 r263 => (tkRow v262 none fun nl264 n265 wd266 g267 => (tkNil r263 none ((tkOut (env 30 [(.agg [(.row nl222 n223 wd224 g225), (.row nl228 n229 wd230 g231), (.row nl234 n235 wd236 g237), (.int q240 n241), (.row nl244 n245 wd246 g247), (.row nl250 n251 wd252 g253)]), (.row false 1 2 (fun u268 => [(.row nl258 n259 wd260 g261), (.row nl264 n265 wd266 g267)]))]) none (fun v268 => (tkTup v268 none fun l269 => (tkCons l269 none fun v270 r271 => (tkAgg v270 none fun l272 => (tkCons l272 none fun v273 r274 => (tkInt v273 none fun q275 n276 => (tkCons r274 none fun v277 r278 => (tkInt v277 none fun q279 n280 => (tkCons r278 none fun v281 r282 => (tkInt v281 none fun q283 n284 => (tkCons r282 none fun v285 r286 => (tkInt v285 none fun q287 n288 => (tkNil r286 none ((tkCons r271 none fun v289 r290 => (tkAgg v289 none fun l291 => (tkCons l291 none fun v292 r293 => (tkInt v292 none fun q294 n295 => (tkCons r293 none fun v296 r297 => (tkInt v296 none fun q298 n299 => (tkCons r297 none fun v300 r301 => (tkInt v300 none fun q302 n303 => (tkCons r301 none fun v304 r305 => (tkInt v304 none fun q306 n307 => (tkNil r305 none ((tkCons r290 none fun v308 r309 => (tkInt v308 none fun q310 n311 => (tkNil r309 none ((tkOut (env 46 []) none (fun v312 => (tkAgg v312 none fun l313 => (tkCons l313 none fun v314 r315 => (tkRow v314 none fun nl316 n317 wd318 g319 => (tkCons r315 none fun v320 r321 => (tkRow v320 none fun nl322 n323 wd324 g325 => (tkCons r321 none fun v326 r327 => (tkRow v326 none fun nl328 n329 wd330 g331 => (tkCons r327 none fun v332 r333 => (tkInt v332 none fun q334 n335 => (tkCons r333 none fun v336 r337 => (tkRow v336 none fun nl338 n339 wd340 g341 => (tkCons r337 none fun v342 r343 => (tkRow v342 none fun nl344 n345 wd346 g347 => (tkNil r343 none ((tkOut (env 41 [(.agg [(.row nl316 n317 wd318 g319), (.row nl322 n323 wd324 g325), (.row nl328 n329 wd330 g331), (.int q334 n335), (.row nl338 n339 wd340 g341), (.row nl344 n345 wd346 g347)]), (.int .i64 (0 : Int)), (.agg [(.int .i64 (10000 : Int)), (.int .i64 (12000 : Int))]), (.agg [(.int .i64 (3100 : Int)), (.int .i64 (3100 : Int))])]) none (fun v348 => (tkTup v348 none fun l349 => (tkCons l349 none fun v350 r351 => (tkInt v350 none fun q352 n353 => (tkCons r351 none fun v354 r355 => (tkInt v354 none fun q356 n357 => (tkNil r355 none ((bif (decide (q48 = .i64)) then (bif (n49 != (0 : Int)) then some (.ret (.bool false))
                        else (bif (decide (q110 = .i64)) then (bif (n111 != (0 : Int)) then some (.ret (.bool false))
                        else (bif (decide (q163 = .i64)) then (bif (n164 != (0 : Int)) then some (.ret (.bool false))
                        else (bif (decide (q216 = .i64)) then (bif (n217 != (0 : Int)) then some (.ret (.bool false))
                        else (bif (decide (q310 = .i64)) then (bif (n311 != (0 : Int)) then some (.ret (.bool false))
                        else (bif (decide (q356 = .i64)) then (bif (n357 != (0 : Int)) then some (.ret (.bool false))
                        else (bif (((n105 : Nat) : Int) != (2 : Int)) then some (.ret (.bool false))
                        else (bif (decide (q352 = .i64)) then (bif (n353 != (2 : Int)) then some (.ret (.bool false))
                        else (bif (wd106 == 6) then (bif (decide ((0 : Int) < ((n105 : Nat) : Int))) then (bif ((List.length (List.take 6 (g107 0))) == 6) then (tkCons (List.take 6 (g107 0)) none fun v358 r359 => (tkInt v358 none fun q360 n361 => (tkCons r359 none fun v362 r363 => (tkInt v362 none fun q364 n365 => (tkCons r363 none fun v366 r367 => (tkInt v366 none fun q368 n369 => (tkCons r367 none fun v370 r371 => (tkInt v370 none fun q372 n373 => (tkCons r371 none fun v374 r375 => (tkInt v374 none fun q376 n377 => (tkCons r375 none fun v378 r379 => (tkInt v378 none fun q380 n381 => (tkNil r379 none ((bif (decide (q360 = .i64)) then (bif (decide (q364 = .i64)) then (bif (decide (q368 = .i64)) then (bif (decide (q372 = .i64)) then (bif (decide (q376 = .i64)) then (bif (decide (q380 = .i64)) then (bif ((n361 == (30000 : Int)) && ((n365 == (31030 : Int)) && ((n369 == (399904 : Int)) && ((n373 == (409992 : Int)) && ((n377 == (8 : Int)) && ((n381 == (99 : Int)) && true)))))) then (bif (decide (q155 = .i64)) then (bif (decide (q159 = .i64)) then (bif ((n156 == (38500 : Int)) && ((n160 == (40000 : Int)) && true)) then (bif (decide (q208 = .i64)) then (bif (decide (q212 = .i64)) then (bif ((n209 == (0 : Int)) && ((n213 == (2 : Int)) && true)) then (bif (decide (q275 = .i64)) then (bif (decide (q279 = .i64)) then (bif (decide (q283 = .i64)) then (bif (decide (q287 = .i64)) then (bif ((n276 == (0 : Int)) && ((n280 == (7 : Int)) && ((n284 == (0 : Int)) && ((n288 == (0 : Int)) && true)))) then (bif (decide (q294 = .i64)) then (bif (decide (q298 = .i64)) then (bif (decide (q302 = .i64)) then (bif (decide (q306 = .i64)) then some (.ret (.bool ((n295 == (0 : Int)) && ((n299 == (1 : Int)) && ((n303 == (0 : Int)) && ((n307 == (0 : Int)) && true))))))
                        else none)
                        else none)
                        else none)
                        else none)
                        else some (.ret (.bool false)))
                        else none)
                        else none)
                        else none)
                        else none)
                        else some (.ret (.bool false)))
                        else none)
                        else none)
                        else some (.ret (.bool false)))
                        else none)
                        else none)
                        else some (.ret (.bool false)))
                        else none)
                        else none)
                        else none)
                        else none)
                        else none)
                        else none)))))))))))))))
                        else none)
                        else none)
                        else none))
                        else none)))
                        else none))
                        else none))
                        else none))
                        else none))
                        else none))
                        else none)))))))))
                        (fun p348 => (tkIfc p348 none fun t349 x350 => (bif (flatP (.iface t349 x350)) then some (.pan (.iface t349 x350))
                        else none))))))))))))))))))))
                        (fun p312 => (tkIfc p312 none fun t313 x314 => (bif (flatP (.iface t313 x314)) then some (.pan (.iface t313 x314))
                        else none))))))))))))))))))))))))))))))))))
                        (fun p268 => (tkIfc p268 none fun t269 x270 => (bif (flatP (.iface t269 x270)) then some (.pan (.iface t269 x270))
                        else none))))))))))))
                        (fun p254 => (tkIfc p254 none fun t255 x256 => (bif (flatP (.iface t255 x256)) then some (.pan (.iface t255 x256))
                        else none))))))))))))))))))))
                        (fun p218 => (tkIfc p218 none fun t219 x220 => (bif (flatP (.iface t219 x220)) then some (.pan (.iface t219 x220))
                        else none))))))))))))))))))
                        (fun p201 => (tkIfc p201 none fun t202 x203 => (bif (flatP (.iface t202 x203)) then some (.pan (.iface t202 x203))
                        else none))))))))))))))))))))
                        (fun p165 => (tkIfc p165 none fun t166 x167 => (bif (flatP (.iface t166 x167)) then some (.pan (.iface t166 x167))
                        else none))))))))))))))))))
                        (fun p148 => (tkIfc p148 none fun t149 x150 => (bif (flatP (.iface t149 x150)) then some (.pan (.iface t149 x150))
                        else none))))))))))))))))))))
                        (fun p112 => (tkIfc p112 none fun t113 x114 => (bif (flatP (.iface t113 x114)) then some (.pan (.iface t113 x114))
                        else none))))))))))))
                        (fun p100 => (tkIfc p100 none fun t101 x102 => (bif (flatP (.iface t101 x102)) then some (.pan (.iface t101 x102))
                        else none))))))))))))
                        (fun p86 => (tkIfc p86 none fun t87 x88 => (bif (flatP (.iface t87 x88)) then some (.pan (.iface t87 x88))
                        else none))))))))))))))))))))
                        (fun p50 => (tkIfc p50 none fun t51 x52 => (bif (flatP (.iface t51 x52)) then some (.pan (.iface t51 x52))
                        else none))))))))))))
                        (fun p38 => (tkIfc p38 none fun t39 x40 => (bif (flatP (.iface t39 x40)) then some (.pan (.iface t39 x40))
                        else none))))))))))))))))))))
  (fun p2 => (tkIfc p2 none fun t3 x4 => (bif (flatP (.iface t3 x4)) then some (.pan (.iface t3 x4))
      else none)))) := by kernel_rfl

end Go.Sim.Cr

/-
  The examples that each statement looks at.
-/
namespace Go.Sim.Cr
open Go.Proofs
variable (F d : Nat)
/-- A list that is written out. -/
def lst {α : Type} (z : α) (l : List α) : Sl α := ⟨false, l.length, fun i => l.getD (min i (l.length - 1)) z⟩
def gate0 : Span := ⟨6000, 16000⟩
def cavA : Cav := ⟨0, 0, ⟨30000, 31000⟩, ⟨400000, 410000⟩, 20000, 399800, gate0, 3000⟩
def cavZ : Cav := ⟨100, 0, ⟨30000, 30500⟩, ⟨300000, 300000⟩, 20000, 290000, gate0, 3000⟩
def row0 : Row := ⟨0, ⟨0, 10⟩, ⟨0, 0⟩⟩
def heat0 : Heat := ⟨3000, ⟨1000, 1000⟩⟩
def ring0 : Ring := ⟨50, ⟨900, 1000⟩⟩
/-- The site of the examples. -/
def site0 : Site where
  cavs := lst cavA [cavA, cavZ]
  rows := lst row0 [row0, ⟨8000, ⟨20, 50⟩, ⟨0, 5⟩⟩, ⟨14000, ⟨100, 200⟩, ⟨10, 30⟩⟩]
  heats := lst heat0 [heat0, ⟨3200, ⟨1000, 1200⟩⟩]
  wall := 38440
  rings := lst ring0 [ring0, ⟨150, ⟨100, 200⟩⟩]
  houses := ⟨false, 1, fun _ => ⟨40, 0, 1⟩⟩
def day0 : Day := ⟨lst zSpan [⟨10000, 12000⟩, ⟨15000, 15000⟩], lst zSpan [⟨3100, 3100⟩, ⟨3100, 3100⟩]⟩
theorem lst_eq {α : Type} (e : α → List V) (wd : Nat) (z : α) (l : List α) (cs : List V) (n : Nat) (hn : l.length = n + 1) (h : ∀ k, k ≤ n → (cs.drop (k * wd)).take wd = e (l.getD k z)) :
    V.row false (n + 1) wd (fun u => (cs.drop (min u n * wd)).take wd) = sl e wd (lst z l) := by
  show V.row false (n + 1) wd _ = V.row false l.length wd fun i => e (l.getD (min i (l.length - 1)) z)
  rw [hn]
  congr 1
  funext u
  rw [h _ (Nat.min_le_right _ _)]
  rfl
theorem s46 : E F (d + 1) 46 [] = some (.ret (.agg (eSite site0))) := by
  rw [E_succ, t46]
  have e1 := lst_eq eCav 11 cavA [cavA, cavZ] (eCav cavA ++ eCav cavZ) 1 rfl (by intro k hk; match k, hk with | 0, _ => rfl | 1, _ => rfl)
  have e2 := lst_eq eRow 5 row0 [row0, ⟨8000, ⟨20, 50⟩, ⟨0, 5⟩⟩, ⟨14000, ⟨100, 200⟩, ⟨10, 30⟩⟩] (eRow row0 ++ eRow ⟨8000, ⟨20, 50⟩, ⟨0, 5⟩⟩ ++ eRow ⟨14000, ⟨100, 200⟩, ⟨10, 30⟩⟩) 2 rfl (by intro k hk; match k, hk with | 0, _ => rfl | 1, _ => rfl | 2, _ => rfl)
  have e3 := lst_eq eHeat 3 heat0 [heat0, ⟨3200, ⟨1000, 1200⟩⟩] (eHeat heat0 ++ eHeat ⟨3200, ⟨1000, 1200⟩⟩) 1 rfl (by intro k hk; match k, hk with | 0, _ => rfl | 1, _ => rfl)
  have e4 := lst_eq eRing 3 ring0 [ring0, ⟨150, ⟨100, 200⟩⟩] (eRing ring0 ++ eRing ⟨150, ⟨100, 200⟩⟩) 1 rfl (by intro k hk; match k, hk with | 0, _ => rfl | 1, _ => rfl)
  show _ = some (Out.ret (.agg [sl eCav 11 (lst cavA [cavA, cavZ]), sl eRow 5 (lst row0 [row0, ⟨8000, ⟨20, 50⟩, ⟨0, 5⟩⟩, ⟨14000, ⟨100, 200⟩, ⟨10, 30⟩⟩]), sl eHeat 3 (lst heat0 [heat0, ⟨3200, ⟨1000, 1200⟩⟩]), .int .i64 38440, sl eRing 3 (lst ring0 [ring0, ⟨150, ⟨100, 200⟩⟩]), sl eHouse 3 site0.houses]))
  rw [← e1, ← e2, ← e3, ← e4]
  rfl
theorem s47 : E F (d + 1) 47 [] = some (.ret (.agg (eDay day0))) := by
  rw [E_succ, t47]
  have e1 := lst_eq eSpan 2 zSpan [⟨10000, 12000⟩, ⟨15000, 15000⟩] (eSpan ⟨10000, 12000⟩ ++ eSpan ⟨15000, 15000⟩) 1 rfl (by intro k hk; match k, hk with | 0, _ => rfl | 1, _ => rfl)
  have e2 := lst_eq eSpan 2 zSpan [⟨3100, 3100⟩, ⟨3100, 3100⟩] (eSpan ⟨3100, 3100⟩ ++ eSpan ⟨3100, 3100⟩) 1 rfl (by intro k hk; match k, hk with | 0, _ => rfl | 1, _ => rfl)
  show _ = some (Out.ret (.agg [sl eSpan 2 (lst zSpan [⟨10000, 12000⟩, ⟨15000, 15000⟩]), sl eSpan 2 (lst zSpan [⟨3100, 3100⟩, ⟨3100, 3100⟩])]))
  rw [← e1, ← e2]
  rfl
theorem site0xb : siteB site0 = true := by decide +kernel
theorem day0xok : DayOk site0 day0 := by decide +kernel
theorem far0 : farDay site0 day0 = false := by decide +kernel
def m0 : Sl Stt := moved site0 (begin site0) day0
theorem m0xat : SameStt (m0.el 0) ⟨⟨30000, 31030⟩, ⟨399904, 409992⟩, ⟨8, 99⟩⟩ := by decide +kernel
theorem dist0 : distI cavA cavZ = 100000 := by decide +kernel
theorem sunk0 : (sunk site0 m0 40 0).lo = 0 ∧ (sunk site0 m0 40 0).hi = 2 := by decide +kernel
theorem states0 : StatesOk site0 m0 := by decide +kernel
abbrev days0 : Sl Day := ⟨false, 1, fun _ => day0⟩
theorem faults0 : faults site0 days0 = (⟨0, 7, 0, 0⟩, ⟨0, 1, 0, 0⟩) := by kernel_rfl
theorem keeps0 : keeps site0 0 ⟨10000, 12000⟩ ⟨3100, 3100⟩ 60 = 2 := by decide +kernel
theorem small0 (hF : 67108864 < F) : Small site0 F := by
  constructor
  · show 2 < 4611686018427387904; omega
  · show 3 < 4611686018427387904; omega
  · show 2 < 4611686018427387904; omega
  · show 2 < 4611686018427387904; omega
  · show 1 < 4611686018427387904; omega
  · show 2 < F; omega
  · show 3 < F; omega
  · show 2 < F; omega
  · show 2 < F; omega
  · show 1 < F; omega
section
variable {R : Type}
/-! The same laws, not by definition alone (so that the kernel does not look into what is called). -/
theorem pOut (v : V) (f : R) (k kp : V → R) : tkOut (some (.ret v)) f k kp = k v := Eq.trans (Eq.refl _) (Eq.refl _)
theorem pBool (b : Bool) (f : R) (k : Bool → R) : tkBool (.bool b) f k = k b := Eq.trans (Eq.refl _) (Eq.refl _)
theorem pInt (q : IntKind) (n : Int) (f : R) (k : IntKind → Int → R) : tkInt (.int q n) f k = k q n := Eq.trans (Eq.refl _) (Eq.refl _)
theorem pAgg (l : List V) (f : R) (k : List V → R) : tkAgg (.agg l) f k = k l := Eq.trans (Eq.refl _) (Eq.refl _)
theorem pTup (l : List V) (f : R) (k : List V → R) : tkTup (.tup l) f k = k l := Eq.trans (Eq.refl _) (Eq.refl _)
theorem pRow (a : Bool) (n wd : Nat) (g : Nat → List V) (f : R) (k : Bool → Nat → Nat → (Nat → List V) → R) : tkRow (.row a n wd g) f k = k a n wd g := Eq.trans (Eq.refl _) (Eq.refl _)
theorem pCons (v : V) (l : List V) (f : R) (k : V → List V → R) : tkCons (v :: l) f k = k v l := Eq.trans (Eq.refl _) (Eq.refl _)
theorem pNil (f k : R) : tkNil [] f k = k := Eq.trans (Eq.refl _) (Eq.refl _)
theorem pIfc (t : TypeId) (v : V) (f : R) (k : TypeId → V → R) : tkIfc (.iface t v) f k = k t v := Eq.trans (Eq.refl _) (Eq.refl _)
theorem pT {α : Type} (a b : α) : (bif true then a else b) = a := Eq.trans (Eq.refl _) (Eq.refl _)
theorem pF {α : Type} (a b : α) : (bif false then a else b) = b := Eq.trans (Eq.refl _) (Eq.refl _)
end
section
variable (hF : 67108864 < F)
include hF
theorem x24 : E F (d + 7) 24 [.agg (eSite site0)] = some (.ret (.tup [sl eStt 6 (begin site0), .int .i64 0])) := by
  have e24 := s24 F d site0 (small0 F hF) (by omega)
  rwa [site0xb, cond_true] at e24
theorem hB0 : (begin site0).len < Big := by show 2 < 4611686018427387904; omega
theorem pB0 : day0.press.len < Big := by show 2 < 4611686018427387904; omega
theorem wB0 : day0.warm.len < Big := by show 2 < 4611686018427387904; omega
theorem hF0 : (begin site0).len < F := by show 2 < F; omega
theorem pF0 : day0.press.len < F := by show 2 < F; omega
theorem wF0 : day0.warm.len < F := by show 2 < F; omega
theorem x14 : E F (d + 8) 14 [.agg (eSite site0), sl eStt 6 (begin site0), .agg (eDay day0)] = some (.ret (.tup [sl eStt 6 m0, .int .i64 0])) := by
  have hstart : StatesOk site0 (begin site0) := begin_ok ((siteB_iff _).1 site0xb)
  have e14 := s14 F d site0 (begin site0) day0 (small0 F hF) (hB0 F hF) (hF0 F hF) (pB0 F hF) (wB0 F hF) (pF0 F hF) (wF0 F hF) (by omega)
  rw [site0xb, decide_eq_true hstart, decide_eq_true day0xok, far0] at e14
  exact e14
theorem x37 : E F (d + 7) 37 [.agg (eSite site0), .int .i64 0, .int .i64 1] = some (.ret (.tup [.agg [.int .i64 38500, .int .i64 40000], .int .i64 0])) := by
  have h1 : (decide ((0 : Int) ≤ 0 ∧ (0 : Int) < (site0.cavs.len : Int)) && (decide ((0 : Int) ≤ 1 ∧ (1 : Int) < (site0.cavs.len : Int)) && !decide ((0 : Int) = 1))) = true := by decide
  have e37 := s37 F d site0 0 1 (small0 F hF) hF
  rw [site0xb, h1] at e37
  refine e37.trans ?_
  have h2 : thickOf site0 (0 : Int).toNat (1 : Int).toNat (site0.cavs.el (0 : Int).toNat).rad (site0.cavs.el (1 : Int).toNat).rad = [.int .i64 (distI cavA cavZ - 31000 - 30500), .int .i64 (distI cavA cavZ - 30000 - 30000)] := rfl
  rw [h2, dist0]
  rfl
theorem x15 : ∃ p : Span, (p.lo = 0 ∧ p.hi = 2) ∧ E F (d + 7) 15 [.agg (eSite site0), sl eStt 6 m0, .int .i64 40, .int .i64 0] = some (.ret (.tup [.agg (eSpan p), .int .i64 0])) := by
  have hp : decide (Place 40 0) = true := by decide
  have e15 := s15 F d site0 m0 40 0 (small0 F hF) (show (begin site0).len < Big from hB0 F hF) (show (begin site0).len < F from hF0 F hF) (by omega)
  rw [site0xb, decide_eq_true states0, hp] at e15
  exact ⟨sunk site0 m0 40 0, sunk0, e15⟩
theorem x30 : E F (d + 10) 30 [.agg (eSite site0), sl eDay 2 days0] = some (.ret (.tup [.agg (eFault ⟨0, 7, 0, 0⟩), .agg (eFault ⟨0, 1, 0, 0⟩), .int .i64 0])) := by
  have h1 : decide (60 < days0.len) = false := by decide
  have h2 : DaysOk site0 days0 := fun _ _ => day0xok
  have e30 := s30 F d site0 days0 (small0 F hF) (by intro i _; exact ⟨by show 2 ≤ 10; omega, by show 2 ≤ 10; omega⟩) (by show 1 < 4611686018427387904; omega) (by show 1 < F; omega) hF
  rw [h1, site0xb, decide_eq_true h2, faults0] at e30
  exact e30
theorem x41 : E F (d + 8) 41 [.agg (eSite site0), .int .i64 0, .agg [.int .i64 10000, .int .i64 12000], .agg [.int .i64 3100, .int .i64 3100]] = some (.ret (.tup [.int .i64 2, .int .i64 0])) := by
  have h1 : (decide ((0 : Int) ≤ 0 ∧ (0 : Int) < (site0.cavs.len : Int)) && (decide (SpanIn ⟨10000, 12000⟩ 0 50000) && decide (SpanIn ⟨3100, 3100⟩ 0 10000))) = true := by decide
  have e41 := s41 F d site0 0 ⟨10000, 12000⟩ ⟨3100, 3100⟩ (small0 F hF) hF
  rw [site0xb, h1, show (0 : Int).toNat = 0 from rfl, keeps0] at e41
  exact e41
set_option maxRecDepth 100000 in
/-- The examples are as they should be. -/
theorem s13 : E F (d + 11) 13 [] = some (.ret (.bool true)) := by
  obtain ⟨u, ⟨u1, u2⟩, e15⟩ := x15 F (d + 3) hF
  have e24 := x24 F (d + 3) hF
  have e14 := x14 F (d + 2) hF
  have e37 := x37 F (d + 3) hF
  have e30 := x30 F d hF
  have e41 := x41 F (d + 2) hF
  obtain ⟨q1, q2, q3, q4, q5, q6⟩ := m0xat
  have hm : m0.len = 2 := rfl
  rw [E_succ, t13]
  generalize hmm : m0 = m at *
  generalize hss : site0 = s at *
  simp only [s46 F (d + 9), s47 F (d + 9), hss, pOut, pAgg, pTup, pCons, pRow, pInt, pNil, e24, e14, e37, e15, e30, e41]
  have b0 : ((0 : Int) != 0) = false := rfl
  have b1 : (((m.len : Nat) : Int) != 2) = false := by rw [hm]; rfl
  have b22 : ((2 : Int) != 2) = false := rfl
  have b6 : (6 == 6) = true := rfl
  have bl : decide ((0 : Int) < ((m.len : Nat) : Int)) = true := by rw [hm]; rfl
  have bt : ((List.take 6 (eStt (m.el 0))).length == 6) = true := rfl
  have ht : List.take 6 (eStt (m.el 0)) = eStt (m.el 0) := rfl
  simp only [decide_true, pT, pF, b0, b1, b22, b6, bl, bt]
  simp only [ht, pCons, pInt, pNil, decide_true, pT, q1, q2, q3, q4, q5, q6, u1, u2]
  rfl
end
end Go.Sim.Cr

/-
  What the evaluator says of these functions (printed by a private program; each row is checked by the kernel).
-/
set_option maxRecDepth 100000
namespace Go.Sim.Cr
open Go.Proofs

noncomputable def L16x0 (env : Env) (F : Nat) (s : Site) (fu : Nat) (i0 : Int) : Option Out := atLoop Try.prog (cfg F) env 16 [.r, .r, .l, .r, .d] [] fu { tm := tmL 324 0 [(1, (.optr 0 0 0)), (3, (.int .i64 i0))], hp := [(.box 28 (eSite s) true)] }
noncomputable def L16x1 (env : Env) (F : Nat) (s : Site) (m0 : Nat) (fu : Nat) (i0 : Int) (i1 : Int) (i2 : Int) (i3 : Int) (i4 : Int) (i5 : Int) (i6 : Int) (i7 : Int) (i8 : Int) (i9 : Int) (i10 : Int) (i11 : Int) (i12 : Int) : Option Out := atLoop Try.prog (cfg F) env 16 [.r, .r, .l, .r, .d, .d, .r, .l, .d, .r, .r, .r, .d] [m0] fu { tm := tmL 324 0 [(1, (.optr 0 0 0)), (3, (.int .i64 i0)), (4, (.optr 1 0 0)), (5, (.int .i64 i1))], hp := [(.box 28 (eSite s) true), (.box 57 [(.int .i64 i2), (.int .i64 i3), (.int .i64 i4), (.int .i64 i5), (.int .i64 i6), (.int .i64 i7), (.int .i64 i8), (.int .i64 i9), (.int .i64 i10), (.int .i64 i11), (.int .i64 i12)] true)] }
noncomputable def L16x2 (env : Env) (F : Nat) (s : Site) (fu : Nat) (i0 : Int) : Option Out := atLoop Try.prog (cfg F) env 16 [.r, .r, .r, .l, .r, .d] [] fu { tm := tmL 324 0 [(1, (.optr 0 0 0)), (6, (.int .i64 i0))], hp := [(.box 28 (eSite s) true)] }
noncomputable def L16x3 (env : Env) (F : Nat) (s : Site) (fu : Nat) (i0 : Int) : Option Out := atLoop Try.prog (cfg F) env 16 [.r, .r, .r, .r, .l, .r, .d] [] fu { tm := tmL 324 0 [(1, (.optr 0 0 0)), (8, (.int .i64 i0))], hp := [(.box 28 (eSite s) true)] }
noncomputable def L16x4 (env : Env) (F : Nat) (s : Site) (fu : Nat) (i0 : Int) : Option Out := atLoop Try.prog (cfg F) env 16 [.r, .r, .r, .r, .r, .l, .r, .d] [] fu { tm := tmL 324 0 [(1, (.optr 0 0 0)), (10, (.int .i64 i0))], hp := [(.box 28 (eSite s) true)] }
noncomputable def L16x5 (env : Env) (F : Nat) (s : Site) (fu : Nat) (i0 : Int) : Option Out := atLoop Try.prog (cfg F) env 16 [.r, .r, .r, .r, .r, .r, .l, .r, .d] [] fu { tm := tmL 324 0 [(1, (.optr 0 0 0)), (12, (.int .i64 i0))], hp := [(.box 28 (eSite s) true)] }
theorem t16 (env : Env) (F : Nat) (s : Site) : (evFun Try.prog (cfg F) env 16 [(.agg (eSite s))]) =
  (tkOut (env 54 [(.int .i64 (((Sl.len (Site.cavs s)) : Nat) : Int)), (.int .i64 (1 : Int)), (.int .i64 (5 : Int))]) none (fun v3 => (tkBool v3 none fun b4 => (bif (!b4) then some (.ret (.bool false))
      else (tkOut (env 54 [(.int .i64 (((Sl.len (Site.rows s)) : Nat) : Int)), (.int .i64 (1 : Int)), (.int .i64 (8 : Int))]) none (fun v5 => (tkBool v5 none fun b6 => (bif (!b6) then some (.ret (.bool false))
            else (tkOut (env 54 [(.int .i64 (((Sl.len (Site.heats s)) : Nat) : Int)), (.int .i64 (1 : Int)), (.int .i64 (8 : Int))]) none (fun v7 => (tkBool v7 none fun b8 => (bif (!b8) then some (.ret (.bool false))
                  else (tkOut (env 54 [(.int .i64 (Site.wall s)), (.int .i64 (0 : Int)), (.int .i64 (1000000 : Int))]) none (fun v9 => (tkBool v9 none fun b10 => (bif (!b10) then some (.ret (.bool false))
                        else (bif (decide ((((Sl.len (Site.rings s)) : Nat) : Int) > (8 : Int))) then some (.ret (.bool false))
                          else (bif (decide ((((Sl.len (Site.houses s)) : Nat) : Int) > (5 : Int))) then some (.ret (.bool false))
                            else (bif (decide ((0 : Int) < (((Sl.len (Site.rows s)) : Nat) : Int))) then (bif ((Row.deficit (Sl.el (Site.rows s) 0)) != (0 : Int)) then some (.ret (.bool false))
                                else (L16x0 env F s F (0 : Int)))
                              else none))))))
                    (fun p9 => (tkIfc p9 none fun t10 x11 => (bif (flatP (.iface t10 x11)) then some (.pan (.iface t10 x11))
                        else none)))))))
              (fun p7 => (tkIfc p7 none fun t8 x9 => (bif (flatP (.iface t8 x9)) then some (.pan (.iface t8 x9))
                  else none)))))))
        (fun p5 => (tkIfc p5 none fun t6 x7 => (bif (flatP (.iface t6 x7)) then some (.pan (.iface t6 x7))
            else none)))))))
  (fun p3 => (tkIfc p3 none fun t4 x5 => (bif (flatP (.iface t4 x5)) then some (.pan (.iface t4 x5))
      else none)))) := by kernel_rfl
theorem L16x0s (env : Env) (F : Nat) (s : Site) (fu : Nat) (i0 : Int) : L16x0 env F s (fu + 1) i0 =
  (bif (decide (i0 < (((Sl.len (Site.cavs s)) : Nat) : Int))) then (bif (decide ((0 : Int) ≤ i0)) then (bif (decide (i0 < (((Sl.len (Site.cavs s)) : Nat) : Int))) then (tkOut (env 18 [(.int .i64 (Cav.x (Sl.el (Site.cavs s) (Int.toNat i0)))), (.int .i64 (Cav.y (Sl.el (Site.cavs s) (Int.toNat i0))))]) none (fun v5 => (tkBool v5 none fun b6 => (bif (!b6) then some (.ret (.bool false))
            else (tkOut (env 43 [(.agg (eSpan (Cav.rad (Sl.el (Site.cavs s) (Int.toNat i0))))), (.int .i64 (0 : Int)), (.int .i64 (200000 : Int))]) none (fun v7 => (tkBool v7 none fun b8 => (bif (!b8) then some (.ret (.bool false))
                  else (tkOut (env 43 [(.agg (eSpan (Cav.vol (Sl.el (Site.cavs s) (Int.toNat i0))))), (.int .i64 (0 : Int)), (.int .i64 (10000000 : Int))]) none (fun v9 => (tkBool v9 none fun b10 => (bif (!b10) then some (.ret (.bool false))
                        else (tkOut (env 54 [(.int .i64 (Cav.rock (Sl.el (Site.cavs s) (Int.toNat i0)))), (.int .i64 (0 : Int)), (.int .i64 (50000 : Int))]) none (fun v11 => (tkBool v11 none fun b12 => (bif (!b12) then some (.ret (.bool false))
                              else (tkOut (env 54 [(.int .i64 (Cav.floor (Sl.el (Site.cavs s) (Int.toNat i0)))), (.int .i64 (0 : Int)), (.int .i64 (10000000 : Int))]) none (fun v13 => (tkBool v13 none fun b14 => (bif (!b14) then some (.ret (.bool false))
                                    else (tkOut (env 43 [(.agg (eSpan (Cav.gate (Sl.el (Site.cavs s) (Int.toNat i0))))), (.int .i64 (0 : Int)), (.int .i64 (50000 : Int))]) none (fun v15 => (tkBool v15 none fun b16 => (bif (!b16) then some (.ret (.bool false))
                                          else (tkOut (env 54 [(.int .i64 (Cav.change (Sl.el (Site.cavs s) (Int.toNat i0)))), (.int .i64 (0 : Int)), (.int .i64 (50000 : Int))]) none (fun v17 => (tkBool v17 none fun b18 => (bif (!b18) then some (.ret (.bool false))
                                                else (L16x1 env F s fu F i0 (0 : Int) (Cav.x (Sl.el (Site.cavs s) (Int.toNat i0))) (Cav.y (Sl.el (Site.cavs s) (Int.toNat i0))) (Span.lo (Cav.rad (Sl.el (Site.cavs s) (Int.toNat i0)))) (Span.hi (Cav.rad (Sl.el (Site.cavs s) (Int.toNat i0)))) (Span.lo (Cav.vol (Sl.el (Site.cavs s) (Int.toNat i0)))) (Span.hi (Cav.vol (Sl.el (Site.cavs s) (Int.toNat i0)))) (Cav.rock (Sl.el (Site.cavs s) (Int.toNat i0))) (Cav.floor (Sl.el (Site.cavs s) (Int.toNat i0))) (Span.lo (Cav.gate (Sl.el (Site.cavs s) (Int.toNat i0)))) (Span.hi (Cav.gate (Sl.el (Site.cavs s) (Int.toNat i0)))) (Cav.change (Sl.el (Site.cavs s) (Int.toNat i0)))))))
                                            (fun p17 => (tkIfc p17 none fun t18 x19 => (bif (flatP (.iface t18 x19)) then some (.pan (.iface t18 x19))
                                                else none)))))))
                                      (fun p15 => (tkIfc p15 none fun t16 x17 => (bif (flatP (.iface t16 x17)) then some (.pan (.iface t16 x17))
                                          else none)))))))
                                (fun p13 => (tkIfc p13 none fun t14 x15 => (bif (flatP (.iface t14 x15)) then some (.pan (.iface t14 x15))
                                    else none)))))))
                          (fun p11 => (tkIfc p11 none fun t12 x13 => (bif (flatP (.iface t12 x13)) then some (.pan (.iface t12 x13))
                              else none)))))))
                    (fun p9 => (tkIfc p9 none fun t10 x11 => (bif (flatP (.iface t10 x11)) then some (.pan (.iface t10 x11))
                        else none)))))))
              (fun p7 => (tkIfc p7 none fun t8 x9 => (bif (flatP (.iface t8 x9)) then some (.pan (.iface t8 x9))
                  else none)))))))
        (fun p5 => (tkIfc p5 none fun t6 x7 => (bif (flatP (.iface t6 x7)) then some (.pan (.iface t6 x7))
            else none))))
      else none)
    else none)
  else (L16x2 env F s F (0 : Int))) := by kernel_rfl
theorem L16x1s (env : Env) (F : Nat) (s : Site) (m0 : Nat) (fu : Nat) (i0 : Int) (i1 : Int) (i2 : Int) (i3 : Int) (i4 : Int) (i5 : Int) (i6 : Int) (i7 : Int) (i8 : Int) (i9 : Int) (i10 : Int) (i11 : Int) (i12 : Int) : L16x1 env F s m0 (fu + 1) i0 i1 i2 i3 i4 i5 i6 i7 i8 i9 i10 i11 i12 =
  (bif (decide (i1 < i0)) then (bif (decide ((0 : Int) ≤ i1)) then (bif (decide (i1 < (((Sl.len (Site.cavs s)) : Nat) : Int))) then (bif ((Cav.x (Sl.el (Site.cavs s) (Int.toNat i1))) == i2) then (bif (decide ((0 : Int) ≤ i1)) then (bif (decide (i1 < (((Sl.len (Site.cavs s)) : Nat) : Int))) then (bif ((Cav.y (Sl.el (Site.cavs s) (Int.toNat i1))) == i3) then some (.ret (.bool false))
              else (L16x1 env F s m0 fu i0 (IntKind.wrap .i64 (i1 + (1 : Int))) i2 i3 i4 i5 i6 i7 i8 i9 i10 i11 i12))
            else none)
          else none)
        else (L16x1 env F s m0 fu i0 (IntKind.wrap .i64 (i1 + (1 : Int))) i2 i3 i4 i5 i6 i7 i8 i9 i10 i11 i12))
      else none)
    else none)
  else (L16x0 env F s m0 (IntKind.wrap .i64 (i0 + (1 : Int))))) := by kernel_rfl
theorem L16x2s (env : Env) (F : Nat) (s : Site) (fu : Nat) (i0 : Int) : L16x2 env F s (fu + 1) i0 =
  (bif (decide (i0 < (((Sl.len (Site.rows s)) : Nat) : Int))) then (bif (decide ((0 : Int) ≤ i0)) then (bif (decide (i0 < (((Sl.len (Site.rows s)) : Nat) : Int))) then (bif (decide ((Row.deficit (Sl.el (Site.rows s) (Int.toNat i0))) > (50000 : Int))) then some (.ret (.bool false))
        else (tkOut (env 43 [(.agg (eSpan (Row.rate (Sl.el (Site.rows s) (Int.toNat i0))))), (.int .i64 (0 : Int)), (.int .i64 (100000 : Int))]) none (fun v5 => (tkBool v5 none fun b6 => (bif (!b6) then some (.ret (.bool false))
              else (tkOut (env 43 [(.agg (eSpan (Row.spall (Sl.el (Site.rows s) (Int.toNat i0))))), (.int .i64 (0 : Int)), (.int .i64 (1000 : Int))]) none (fun v7 => (tkBool v7 none fun b8 => (bif (!b8) then some (.ret (.bool false))
                    else (bif (decide (i0 > (0 : Int))) then (bif (decide ((0 : Int) ≤ (IntKind.wrap .i64 (i0 - (1 : Int))))) then (bif (decide ((IntKind.wrap .i64 (i0 - (1 : Int))) < (((Sl.len (Site.rows s)) : Nat) : Int))) then (bif (decide ((Row.deficit (Sl.el (Site.rows s) (Int.toNat i0))) ≤ (Row.deficit (Sl.el (Site.rows s) (Int.toNat (IntKind.wrap .i64 (i0 - (1 : Int)))))))) then some (.ret (.bool false))
                            else (bif (decide ((0 : Int) ≤ (IntKind.wrap .i64 (i0 - (1 : Int))))) then (bif (decide ((IntKind.wrap .i64 (i0 - (1 : Int))) < (((Sl.len (Site.rows s)) : Nat) : Int))) then (tkOut (env 55 [(.agg (eSpan (Row.rate (Sl.el (Site.rows s) (Int.toNat (IntKind.wrap .i64 (i0 - (1 : Int)))))))), (.agg (eSpan (Row.rate (Sl.el (Site.rows s) (Int.toNat i0)))))]) none (fun v9 => (tkBool v9 none fun b10 => (bif (!b10) then some (.ret (.bool false))
                                      else (bif (decide ((0 : Int) ≤ (IntKind.wrap .i64 (i0 - (1 : Int))))) then (bif (decide ((IntKind.wrap .i64 (i0 - (1 : Int))) < (((Sl.len (Site.rows s)) : Nat) : Int))) then (tkOut (env 55 [(.agg (eSpan (Row.spall (Sl.el (Site.rows s) (Int.toNat (IntKind.wrap .i64 (i0 - (1 : Int)))))))), (.agg (eSpan (Row.spall (Sl.el (Site.rows s) (Int.toNat i0)))))]) none (fun v11 => (tkBool v11 none fun b12 => (bif (!b12) then some (.ret (.bool false))
                                                else (L16x2 env F s fu (IntKind.wrap .i64 (i0 + (1 : Int)))))))
                                            (fun p11 => (tkIfc p11 none fun t12 x13 => (bif (flatP (.iface t12 x13)) then some (.pan (.iface t12 x13))
                                                else none))))
                                          else none)
                                        else none))))
                                  (fun p9 => (tkIfc p9 none fun t10 x11 => (bif (flatP (.iface t10 x11)) then some (.pan (.iface t10 x11))
                                      else none))))
                                else none)
                              else none))
                          else none)
                        else none)
                      else (L16x2 env F s fu (IntKind.wrap .i64 (i0 + (1 : Int))))))))
                (fun p7 => (tkIfc p7 none fun t8 x9 => (bif (flatP (.iface t8 x9)) then some (.pan (.iface t8 x9))
                    else none)))))))
          (fun p5 => (tkIfc p5 none fun t6 x7 => (bif (flatP (.iface t6 x7)) then some (.pan (.iface t6 x7))
              else none)))))
      else none)
    else none)
  else (L16x3 env F s F (0 : Int))) := by kernel_rfl
theorem L16x3s (env : Env) (F : Nat) (s : Site) (fu : Nat) (i0 : Int) : L16x3 env F s (fu + 1) i0 =
  (bif (decide (i0 < (((Sl.len (Site.heats s)) : Nat) : Int))) then (bif (decide ((0 : Int) ≤ i0)) then (bif (decide (i0 < (((Sl.len (Site.heats s)) : Nat) : Int))) then (tkOut (env 54 [(.int .i64 (Heat.warmth (Sl.el (Site.heats s) (Int.toNat i0)))), (.int .i64 (0 : Int)), (.int .i64 (10000 : Int))]) none (fun v5 => (tkBool v5 none fun b6 => (bif (!b6) then some (.ret (.bool false))
            else (tkOut (env 43 [(.agg (eSpan (Heat.factor (Sl.el (Site.heats s) (Int.toNat i0))))), (.int .i64 (0 : Int)), (.int .i64 (10000 : Int))]) none (fun v7 => (tkBool v7 none fun b8 => (bif (!b8) then some (.ret (.bool false))
                  else (bif (decide (i0 > (0 : Int))) then (bif (decide ((0 : Int) ≤ (IntKind.wrap .i64 (i0 - (1 : Int))))) then (bif (decide ((IntKind.wrap .i64 (i0 - (1 : Int))) < (((Sl.len (Site.heats s)) : Nat) : Int))) then (bif (decide ((Heat.warmth (Sl.el (Site.heats s) (Int.toNat i0))) ≤ (Heat.warmth (Sl.el (Site.heats s) (Int.toNat (IntKind.wrap .i64 (i0 - (1 : Int)))))))) then some (.ret (.bool false))
                          else (bif (decide ((0 : Int) ≤ (IntKind.wrap .i64 (i0 - (1 : Int))))) then (bif (decide ((IntKind.wrap .i64 (i0 - (1 : Int))) < (((Sl.len (Site.heats s)) : Nat) : Int))) then (tkOut (env 55 [(.agg (eSpan (Heat.factor (Sl.el (Site.heats s) (Int.toNat (IntKind.wrap .i64 (i0 - (1 : Int)))))))), (.agg (eSpan (Heat.factor (Sl.el (Site.heats s) (Int.toNat i0)))))]) none (fun v9 => (tkBool v9 none fun b10 => (bif (!b10) then some (.ret (.bool false))
                                    else (L16x3 env F s fu (IntKind.wrap .i64 (i0 + (1 : Int)))))))
                                (fun p9 => (tkIfc p9 none fun t10 x11 => (bif (flatP (.iface t10 x11)) then some (.pan (.iface t10 x11))
                                    else none))))
                              else none)
                            else none))
                        else none)
                      else none)
                    else (L16x3 env F s fu (IntKind.wrap .i64 (i0 + (1 : Int))))))))
              (fun p7 => (tkIfc p7 none fun t8 x9 => (bif (flatP (.iface t8 x9)) then some (.pan (.iface t8 x9))
                  else none)))))))
        (fun p5 => (tkIfc p5 none fun t6 x7 => (bif (flatP (.iface t6 x7)) then some (.pan (.iface t6 x7))
            else none))))
      else none)
    else none)
  else (L16x4 env F s F (0 : Int))) := by kernel_rfl
theorem L16x4s (env : Env) (F : Nat) (s : Site) (fu : Nat) (i0 : Int) : L16x4 env F s (fu + 1) i0 =
  (bif (decide (i0 < (((Sl.len (Site.rings s)) : Nat) : Int))) then (bif (decide ((0 : Int) ≤ i0)) then (bif (decide (i0 < (((Sl.len (Site.rings s)) : Nat) : Int))) then (tkOut (env 54 [(.int .i64 (Ring.away (Sl.el (Site.rings s) (Int.toNat i0)))), (.int .i64 (0 : Int)), (.int .i64 (40000 : Int))]) none (fun v5 => (tkBool v5 none fun b6 => (bif (!b6) then some (.ret (.bool false))
            else (tkOut (env 43 [(.agg (eSpan (Ring.share (Sl.el (Site.rings s) (Int.toNat i0))))), (.int .i64 (0 : Int)), (.int .i64 (1000000 : Int))]) none (fun v7 => (tkBool v7 none fun b8 => (bif (!b8) then some (.ret (.bool false))
                  else (bif (decide (i0 > (0 : Int))) then (bif (decide ((0 : Int) ≤ (IntKind.wrap .i64 (i0 - (1 : Int))))) then (bif (decide ((IntKind.wrap .i64 (i0 - (1 : Int))) < (((Sl.len (Site.rings s)) : Nat) : Int))) then (bif (decide ((Ring.away (Sl.el (Site.rings s) (Int.toNat i0))) ≤ (Ring.away (Sl.el (Site.rings s) (Int.toNat (IntKind.wrap .i64 (i0 - (1 : Int)))))))) then some (.ret (.bool false))
                          else (L16x4 env F s fu (IntKind.wrap .i64 (i0 + (1 : Int)))))
                        else none)
                      else none)
                    else (L16x4 env F s fu (IntKind.wrap .i64 (i0 + (1 : Int))))))))
              (fun p7 => (tkIfc p7 none fun t8 x9 => (bif (flatP (.iface t8 x9)) then some (.pan (.iface t8 x9))
                  else none)))))))
        (fun p5 => (tkIfc p5 none fun t6 x7 => (bif (flatP (.iface t6 x7)) then some (.pan (.iface t6 x7))
            else none))))
      else none)
    else none)
  else (L16x5 env F s F (0 : Int))) := by kernel_rfl
theorem L16x5s (env : Env) (F : Nat) (s : Site) (fu : Nat) (i0 : Int) : L16x5 env F s (fu + 1) i0 =
  (bif (decide (i0 < (((Sl.len (Site.houses s)) : Nat) : Int))) then (bif (decide ((0 : Int) ≤ i0)) then (bif (decide (i0 < (((Sl.len (Site.houses s)) : Nat) : Int))) then (bif (decide ((0 : Int) ≤ i0)) then (bif (decide (i0 < (((Sl.len (Site.houses s)) : Nat) : Int))) then (tkOut (env 18 [(.int .i64 (House.x (Sl.el (Site.houses s) (Int.toNat i0)))), (.int .i64 (House.y (Sl.el (Site.houses s) (Int.toNat i0))))]) none (fun v5 => (tkBool v5 none fun b6 => (bif (!b6) then some (.ret (.bool false))
                else (bif (decide ((0 : Int) ≤ i0)) then (bif (decide (i0 < (((Sl.len (Site.houses s)) : Nat) : Int))) then (tkOut (env 54 [(.int .i64 (House.most (Sl.el (Site.houses s) (Int.toNat i0)))), (.int .i64 (0 : Int)), (.int .i64 (1000000 : Int))]) none (fun v7 => (tkBool v7 none fun b8 => (bif (!b8) then some (.ret (.bool false))
                          else (L16x5 env F s fu (IntKind.wrap .i64 (i0 + (1 : Int)))))))
                      (fun p7 => (tkIfc p7 none fun t8 x9 => (bif (flatP (.iface t8 x9)) then some (.pan (.iface t8 x9))
                          else none))))
                    else none)
                  else none))))
            (fun p5 => (tkIfc p5 none fun t6 x7 => (bif (flatP (.iface t6 x7)) then some (.pan (.iface t6 x7))
                else none))))
          else none)
        else none)
      else none)
    else none)
  else some (.ret (.bool true))) := by kernel_rfl

end Go.Sim.Cr

/-
  The specification's sites are the program's.
-/
namespace Go.Sim.Cr
open Go.Proofs
variable (F d : Nat)
theorem cNb (a b : Bool) : (bif !a then some (Out.ret (.bool false)) else some (.ret (.bool b))) = some (.ret (.bool (a && b))) := by cases a <;> rfl
theorem predI {i : Nat} (h : i < 4611686018427387904) : IntKind.i64.wrap (((i + 1 : Nat) : Int) - 1) = (i : Int) := by rw [wr (by omega)]; omega
def houseP (s : Site) (i : Nat) : Bool := decide (Place (s.houses.el i).x (s.houses.el i).y) && decide (0 ≤ (s.houses.el i).most ∧ (s.houses.el i).most ≤ 1000000)
def rowP (s : Site) : Nat → Bool
  | 0 => !decide ((s.rows.el 0).deficit > 50000) && (decide (SpanIn (s.rows.el 0).rate 0 100000) && decide (SpanIn (s.rows.el 0).spall 0 1000))
  | j + 1 => !decide ((s.rows.el (j + 1)).deficit > 50000) && (decide (SpanIn (s.rows.el (j + 1)).rate 0 100000) && (decide (SpanIn (s.rows.el (j + 1)).spall 0 1000) &&
      (!decide ((s.rows.el (j + 1)).deficit ≤ (s.rows.el j).deficit) && (decide ((s.rows.el j).rate.lo ≤ (s.rows.el (j + 1)).rate.lo ∧ (s.rows.el j).rate.hi ≤ (s.rows.el (j + 1)).rate.hi) &&
        decide ((s.rows.el j).spall.lo ≤ (s.rows.el (j + 1)).spall.lo ∧ (s.rows.el j).spall.hi ≤ (s.rows.el (j + 1)).spall.hi)))))
def heatP (s : Site) : Nat → Bool
  | 0 => decide (0 ≤ (s.heats.el 0).warmth ∧ (s.heats.el 0).warmth ≤ 10000) && decide (SpanIn (s.heats.el 0).factor 0 10000)
  | j + 1 => decide (0 ≤ (s.heats.el (j + 1)).warmth ∧ (s.heats.el (j + 1)).warmth ≤ 10000) && (decide (SpanIn (s.heats.el (j + 1)).factor 0 10000) &&
      (!decide ((s.heats.el (j + 1)).warmth ≤ (s.heats.el j).warmth) && decide ((s.heats.el j).factor.lo ≤ (s.heats.el (j + 1)).factor.lo ∧ (s.heats.el j).factor.hi ≤ (s.heats.el (j + 1)).factor.hi)))
def ringP (s : Site) : Nat → Bool
  | 0 => decide (0 ≤ (s.rings.el 0).away ∧ (s.rings.el 0).away ≤ 40000) && decide (SpanIn (s.rings.el 0).share 0 1000000)
  | j + 1 => decide (0 ≤ (s.rings.el (j + 1)).away ∧ (s.rings.el (j + 1)).away ≤ 40000) && (decide (SpanIn (s.rings.el (j + 1)).share 0 1000000) && !decide ((s.rings.el (j + 1)).away ≤ (s.rings.el j).away))
theorem l16x5 (s : Site) (hs : Small s F) : ∀ n i fu, s.houses.len = i + n → n < fu → L16x5 (E F (d + 2)) F s fu (i : Int) = some (.ret (.bool (allF (houseP s) true n i))) := by
  have hB := hs.houses
  intro n
  induction n with
  | zero =>
    intro i fu h hf
    obtain ⟨fu, rfl⟩ : ∃ k, fu = k + 1 := ⟨fu - 1, by omega⟩
    rw [L16x5s]
    simp only [Int.ofNat_lt, show ¬ i < s.houses.len by omega, decide_false, cond_false, allF]
  | succ n ih =>
    intro i fu h hf
    obtain ⟨fu, rfl⟩ : ∃ k, fu = k + 1 := ⟨fu - 1, by omega⟩
    rw [L16x5s]
    simp only [Int.ofNat_lt, show i < s.houses.len by omega, decide_true, cond_true, Int.natCast_nonneg, Int.toNat_natCast, s18, s54, tkOut_ret, tkBool_b, wrS (show i < Big by omega), ih (i + 1) fu (by omega) (by omega), cNb, allF, houseP, Bool.and_assoc]
theorem gt0 (j : Nat) : decide (((j + 1 : Nat) : Int) > 0) = true := decide_eq_true (by omega)
theorem l16x4 (s : Site) (hs : Small s F) : ∀ n i fu, s.rings.len = i + n → n < fu → L16x4 (E F (d + 2)) F s fu (i : Int) = some (.ret (.bool (allF (ringP s) (allF (houseP s) true s.houses.len 0) n i))) := by
  have hB := hs.rings
  intro n
  induction n with
  | zero =>
    intro i fu h hf
    obtain ⟨fu, rfl⟩ : ∃ k, fu = k + 1 := ⟨fu - 1, by omega⟩
    rw [L16x4s]
    simp only [Int.ofNat_lt, show ¬ i < s.rings.len by omega, decide_false, cond_false, allF]
    exact l16x5 F d s hs s.houses.len 0 F (by omega) hs.housesF
  | succ n ih =>
    intro i fu h hf
    obtain ⟨fu, rfl⟩ : ∃ k, fu = k + 1 := ⟨fu - 1, by omega⟩
    rw [L16x4s]
    simp only [Int.ofNat_lt, show i < s.rings.len by omega, decide_true, cond_true, Int.natCast_nonneg, Int.toNat_natCast, s54, s43, tkOut_ret, tkBool_b, wrS (show i < Big by omega), ih (i + 1) fu (by omega) (by omega), allF]
    cases i with
    | zero => simp only [Int.natCast_zero, show decide ((0 : Int) > 0) = false from rfl, cond_false, cNb, ringP, Bool.and_assoc]
    | succ j =>
      simp only [gt0, cond_true, wrP j (by omega), Int.natCast_nonneg, Int.ofNat_lt, show j < s.rings.len by omega, decide_true, Int.toNat_natCast, cNand, cNb, Bool.not_not, ringP, Bool.and_assoc]
theorem l16x3 (s : Site) (hs : Small s F) : ∀ n i fu, s.heats.len = i + n → n < fu → L16x3 (E F (d + 2)) F s fu (i : Int) = some (.ret (.bool (allF (heatP s) (allF (ringP s) (allF (houseP s) true s.houses.len 0) s.rings.len 0) n i))) := by
  have hB := hs.heats
  intro n
  induction n with
  | zero =>
    intro i fu h hf
    obtain ⟨fu, rfl⟩ : ∃ k, fu = k + 1 := ⟨fu - 1, by omega⟩
    rw [L16x3s]
    simp only [Int.ofNat_lt, show ¬ i < s.heats.len by omega, decide_false, cond_false, allF]
    exact l16x4 F d s hs s.rings.len 0 F (by omega) hs.ringsF
  | succ n ih =>
    intro i fu h hf
    obtain ⟨fu, rfl⟩ : ∃ k, fu = k + 1 := ⟨fu - 1, by omega⟩
    rw [L16x3s]
    simp only [Int.ofNat_lt, show i < s.heats.len by omega, decide_true, cond_true, Int.natCast_nonneg, Int.toNat_natCast, s54, s43, s55, tkOut_ret, tkBool_b, wrS (show i < Big by omega), ih (i + 1) fu (by omega) (by omega), allF]
    cases i with
    | zero => simp only [Int.natCast_zero, show decide ((0 : Int) > 0) = false from rfl, cond_false, cNb, heatP, Bool.and_assoc]
    | succ j =>
      simp only [gt0, cond_true, wrP j (by omega), Int.natCast_nonneg, Int.ofNat_lt, show j < s.heats.len by omega, decide_true, Int.toNat_natCast, cNand, cNb, Bool.not_not, heatP, Bool.and_assoc]
theorem l16x2 (s : Site) (hs : Small s F) : ∀ n i fu, s.rows.len = i + n → n < fu → L16x2 (E F (d + 2)) F s fu (i : Int) = some (.ret (.bool (allF (rowP s) (allF (heatP s) (allF (ringP s) (allF (houseP s) true s.houses.len 0) s.rings.len 0) s.heats.len 0) n i))) := by
  have hB := hs.rows
  intro n
  induction n with
  | zero =>
    intro i fu h hf
    obtain ⟨fu, rfl⟩ : ∃ k, fu = k + 1 := ⟨fu - 1, by omega⟩
    rw [L16x2s]
    simp only [Int.ofNat_lt, show ¬ i < s.rows.len by omega, decide_false, cond_false, allF]
    exact l16x3 F d s hs s.heats.len 0 F (by omega) hs.heatsF
  | succ n ih =>
    intro i fu h hf
    obtain ⟨fu, rfl⟩ : ∃ k, fu = k + 1 := ⟨fu - 1, by omega⟩
    rw [L16x2s]
    simp only [Int.ofNat_lt, show i < s.rows.len by omega, decide_true, cond_true, Int.natCast_nonneg, Int.toNat_natCast, s54, s43, s55, tkOut_ret, tkBool_b, wrS (show i < Big by omega), ih (i + 1) fu (by omega) (by omega), allF]
    cases i with
    | zero => simp only [Int.natCast_zero, show decide ((0 : Int) > 0) = false from rfl, cond_false, cNand, cNb, Bool.not_not, rowP, Bool.and_assoc]
    | succ j =>
      simp only [gt0, cond_true, wrP j (by omega), Int.natCast_nonneg, Int.ofNat_lt, show j < s.rows.len by omega, decide_true, Int.toNat_natCast, cNand, cNb, Bool.not_not, rowP, Bool.and_assoc]
def sameB (s : Site) (i k : Nat) : Bool := decide ((s.cavs.el k).x = (s.cavs.el i).x) && decide ((s.cavs.el k).y = (s.cavs.el i).y)
theorem l16x1 (s : Site) (hs : Small s F) (m0 i : Nat) (hi : i < s.cavs.len) (R : Bool) (a2 a3 a4 a5 a6 a7 a8 a9 a10 : Int) (hO : L16x0 (E F (d + 2)) F s m0 ((i + 1 : Nat) : Int) = some (.ret (.bool R))) : ∀ n k fu, i = k + n → n < fu →
    L16x1 (E F (d + 2)) F s m0 fu (i : Int) (k : Int) (s.cavs.el i).x (s.cavs.el i).y a2 a3 a4 a5 a6 a7 a8 a9 a10 = some (.ret (.bool (!anyF (sameB s i) n k && R))) := by
  have hB := hs.cavs
  intro n
  induction n with
  | zero =>
    intro k fu h hf
    obtain ⟨fu, rfl⟩ : ∃ k, fu = k + 1 := ⟨fu - 1, by omega⟩
    rw [L16x1s]
    simp only [Int.ofNat_lt, show ¬ k < i by omega, decide_false, cond_false, anyF, wrS (show i < Big by omega), hO, Bool.not_false, Bool.true_and]
  | succ n ih =>
    intro k fu h hf
    obtain ⟨fu, rfl⟩ : ∃ k, fu = k + 1 := ⟨fu - 1, by omega⟩
    rw [L16x1s]
    simp only [Int.ofNat_lt, show k < i by omega, show k < s.cavs.len by omega, decide_true, cond_true, Int.natCast_nonneg, Int.toNat_natCast, anyF, wrS (show k < Big by omega), ih (k + 1) fu (by omega) (by omega), beqI, sameB]
    cases decide ((s.cavs.el k).x = (s.cavs.el i).x) <;> cases decide ((s.cavs.el k).y = (s.cavs.el i).y) <;> rfl
def cavP (s : Site) (i : Nat) : Bool := decide (CavOk (s.cavs.el i)) && !anyF (sameB s i) i 0
def allP (s : Site) : Bool := allF (rowP s) (allF (heatP s) (allF (ringP s) (allF (houseP s) true s.houses.len 0) s.rings.len 0) s.heats.len 0) s.rows.len 0
theorem l16x0 (s : Site) (hs : Small s F) : ∀ n i fu, s.cavs.len = i + n → n < fu → L16x0 (E F (d + 2)) F s fu (i : Int) = some (.ret (.bool (allF (cavP s) (allP s) n i))) := by
  have hB := hs.cavs
  have hC := hs.cavsF
  intro n
  induction n with
  | zero =>
    intro i fu h hf
    obtain ⟨fu, rfl⟩ : ∃ k, fu = k + 1 := ⟨fu - 1, by omega⟩
    rw [L16x0s]
    simp only [Int.ofNat_lt, show ¬ i < s.cavs.len by omega, decide_false, cond_false, allF]
    exact l16x2 F d s hs s.rows.len 0 F (by omega) hs.rowsF
  | succ n ih =>
    intro i fu h hf
    obtain ⟨fu, rfl⟩ : ∃ k, fu = k + 1 := ⟨fu - 1, by omega⟩
    rw [L16x0s]
    have g := fun a2 a3 a4 a5 a6 a7 a8 a9 a10 => l16x1 F d s hs fu i (by omega) (allF (cavP s) (allP s) n (i + 1)) a2 a3 a4 a5 a6 a7 a8 a9 a10 (ih (i + 1) fu (by omega) (by omega)) i 0 F (by omega) (by omega)
    simp only [Int.natCast_zero] at g
    simp only [Int.ofNat_lt, show i < s.cavs.len by omega, decide_true, cond_true, Int.natCast_nonneg, Int.toNat_natCast, s18, s54, s43, tkOut_ret, tkBool_b, g, cNb, allF, cavP, CavOk, Bool.decide_and, Bool.and_assoc]
theorem sp_eq (s : Site) : (decide (1 ≤ (s.cavs.len : Int) ∧ (s.cavs.len : Int) ≤ 5) && (decide (1 ≤ (s.rows.len : Int) ∧ (s.rows.len : Int) ≤ 8) && (decide (1 ≤ (s.heats.len : Int) ∧ (s.heats.len : Int) ≤ 8) && (decide (0 ≤ s.wall ∧ s.wall ≤ 1000000) &&
    (!decide ((s.rings.len : Int) > 8) && (!decide ((s.houses.len : Int) > 5) && (decide ((s.rows.el 0).deficit = 0) && allF (cavP s) (allP s) s.cavs.len 0))))))) = siteB s := by
  apply b2
  rw [siteB_iff]
  simp only [allP, cavP, houseP, Bool.and_eq_true, allF_0, decide_eq_true_iff, Bool.not_eq_true', decide_eq_false_iff_not, and_true]
  constructor
  · rintro ⟨h1, h2, h3, h4, h5, h6, h7, h8, h9, h10, h11, h12⟩
    have rows : ∀ i, i < s.rows.len → 0 ≤ (s.rows.el i).deficit ∧ rowB s i = true := by
      intro i
      induction i with
      | zero =>
        intro hi
        have g := h9 0 hi
        simp only [rowP, rowB, rowStep, Bool.and_eq_true, decide_eq_true_iff, Bool.not_eq_true', decide_eq_false_iff_not] at g ⊢
        exact ⟨by omega, by omega, g.2.1, g.2.2, h7⟩
      | succ j ih =>
        intro hi
        have g := h9 (j + 1) hi
        have g0 := (ih (by omega)).1
        simp only [rowP, rowB, rowStep, Bool.and_eq_true, decide_eq_true_iff, Bool.not_eq_true', decide_eq_false_iff_not] at g ⊢
        exact ⟨by omega, by omega, g.2.1, g.2.2.1, by omega, g.2.2.2.2.1, g.2.2.2.2.2⟩
    refine ⟨by omega, by omega, fun i hi => (h8 i hi).1, ?_, h4, by omega, fun i hi => h12 i hi, fun i hi => (rows i hi).2, ?_, ?_, by omega, by omega, by omega, by omega, by omega⟩
    · intro i k hi hk he
      have := (h8 i hi).2
      have ha : anyF (sameB s i) i 0 = true := (anyF_eq _ _ _).2 ⟨k, Nat.zero_le _, by omega, by simp only [sameB, Bool.and_eq_true, decide_eq_true_iff]; exact he⟩
      rw [ha] at this; cases this
    · intro i hi
      have g := h10 i hi
      cases i with
      | zero => simp only [heatP, heatB, heatStep, Bool.and_eq_true, decide_eq_true_iff] at g ⊢; exact ⟨g.1, g.2, trivial⟩
      | succ j =>
        simp only [heatP, heatB, heatStep, Bool.and_eq_true, decide_eq_true_iff, Bool.not_eq_true', decide_eq_false_iff_not] at g ⊢
        exact ⟨g.1, g.2.1, by omega, g.2.2.2⟩
    · intro i hi
      have g := h11 i hi
      cases i with
      | zero => simp only [ringP, ringB, ringStep, Bool.and_eq_true, decide_eq_true_iff] at g ⊢; exact ⟨g.1, g.2, trivial⟩
      | succ j =>
        simp only [ringP, ringB, ringStep, Bool.and_eq_true, decide_eq_true_iff, Bool.not_eq_true', decide_eq_false_iff_not] at g ⊢
        exact ⟨g.1, g.2.1, by omega⟩
  · intro h
    have g0 : (s.rows.el 0).deficit = 0 := by
      have := h.row 0 h.rows1
      simp only [rowB, rowStep, Bool.and_eq_true, decide_eq_true_iff] at this
      exact this.2.2.2
    have a1 := h.cavs1
    have a2 := h.cavs5
    have a3 := h.rows1
    have a4 := h.rows8
    have a5 := h.heats1
    have a6 := h.heats8
    have a7 := h.rings8
    have a8 := h.houses5
    refine ⟨by omega, by omega, by omega, h.wall, by omega, by omega, g0, fun i hi => ⟨h.cav i hi, ?_⟩, fun i hi => ?_, fun i hi => ?_, fun i hi => ?_, fun i hi => h.house i hi⟩
    · cases ha : anyF (sameB s i) i 0 with
      | false => rfl
      | true =>
        obtain ⟨k, _, hk, e⟩ := (anyF_eq _ _ _).1 ha
        simp only [sameB, Bool.and_eq_true, decide_eq_true_iff] at e
        exact (h.apart i k hi (by omega) e).elim
    · have g := h.row i hi
      cases i with
      | zero =>
        simp only [rowP, rowB, rowStep, Bool.and_eq_true, decide_eq_true_iff, Bool.not_eq_true', decide_eq_false_iff_not] at g ⊢
        exact ⟨by omega, g.2.1, g.2.2.1⟩
      | succ j =>
        simp only [rowP, rowB, rowStep, Bool.and_eq_true, decide_eq_true_iff, Bool.not_eq_true', decide_eq_false_iff_not] at g ⊢
        exact ⟨by omega, g.2.1, g.2.2.1, by omega, g.2.2.2.2.1, g.2.2.2.2.2⟩
    · have g := h.heat i hi
      cases i with
      | zero => simp only [heatP, heatB, heatStep, Bool.and_eq_true, decide_eq_true_iff] at g ⊢; exact ⟨g.1, g.2.1⟩
      | succ j =>
        simp only [heatP, heatB, heatStep, Bool.and_eq_true, decide_eq_true_iff, Bool.not_eq_true', decide_eq_false_iff_not] at g ⊢
        exact ⟨g.1, g.2.1, by omega, g.2.2.2⟩
    · have g := h.ring i hi
      cases i with
      | zero => simp only [ringP, ringB, ringStep, Bool.and_eq_true, decide_eq_true_iff] at g ⊢; exact ⟨g.1, g.2.1⟩
      | succ j =>
        simp only [ringP, ringB, ringStep, Bool.and_eq_true, decide_eq_true_iff, Bool.not_eq_true', decide_eq_false_iff_not] at g ⊢
        exact ⟨g.1, g.2.1, by omega⟩
/-- The specification's sites are the program's. -/
theorem s16 (s : Site) (hs : Small s F) : E F (d + 3) 16 [.agg (eSite s)] = some (.ret (.bool (siteB s))) := by
  have hC := hs.cavsF
  rw [E_succ, t16, ← sp_eq]
  simp only [s54, tkOut_ret, tkBool_b]
  cases h1 : decide (1 ≤ (s.cavs.len : Int) ∧ (s.cavs.len : Int) ≤ 5) <;> simp only [Bool.not_false, Bool.not_true, cond_true, cond_false, Bool.false_and, Bool.true_and]
  cases h2 : decide (1 ≤ (s.rows.len : Int) ∧ (s.rows.len : Int) ≤ 8) <;> simp only [Bool.not_false, Bool.not_true, cond_true, cond_false, Bool.false_and, Bool.true_and]
  have hr : 0 < s.rows.len := by have := of_decide_eq_true h2; omega
  simp only [zlt hr, cond_true, show L16x0 (E F (d + 2)) F s F 0 = _ from l16x0 F d s hs s.cavs.len 0 F (by omega) hs.cavsF, bne, beqI, cNb, cNand, Bool.not_not]
end Go.Sim.Cr

/-
  What the evaluator says of these functions (printed by a private program; each row is checked by the kernel).
-/
set_option maxRecDepth 100000
namespace Go.Sim.Cr
open Go.Proofs

theorem t3 (env : Env) (F : Nat) (s : Site) (l : Sl Stt) (d : Day) (x : Int) (y : Int) : (evFun Try.prog (cfg F) env 3 [(.agg (eSite s)), (sl eStt 6 l), (.agg (eDay d)), (.int .i64 x), (.int .i64 y)]) =
  (tkOut (env 11 [(.agg (eSite s))]) none (fun v7 => (tkBool v7 none fun b8 => (bif (!b8) then (tkOut (env 13 []) none (fun v9 => (tkBool v9 none fun b10 => some (.ret (.bool b10))))
        (fun p9 => (tkIfc p9 none fun t10 x11 => (bif (flatP (.iface t10 x11)) then some (.pan (.iface t10 x11))
            else none))))
      else (bif (decide ((((Sl.len l) : Nat) : Int) > (10 : Int))) then (tkOut (env 13 []) none (fun v9 => (tkBool v9 none fun b10 => some (.ret (.bool b10))))
          (fun p9 => (tkIfc p9 none fun t10 x11 => (bif (flatP (.iface t10 x11)) then some (.pan (.iface t10 x11))
              else none))))
        else (tkOut (env 12 [(.row false 1 2 (fun u9 => [(sl eSpan 2 (Day.press d)), (sl eSpan 2 (Day.warm d))])), (.int .i64 (1 : Int))]) none (fun v9 => (tkBool v9 none fun b10 => (bif (!b10) then (tkOut (env 13 []) none (fun v11 => (tkBool v11 none fun b12 => some (.ret (.bool b12))))
                (fun p11 => (tkIfc p11 none fun t12 x13 => (bif (flatP (.iface t12 x13)) then some (.pan (.iface t12 x13))
                    else none))))
              else (tkOut (env 14 [(.agg (eSite s)), (sl eStt 6 l), (.agg [(sl eSpan 2 (Day.press d)), (sl eSpan 2 (Day.warm d))])]) none (fun v11 => (tkTup v11 none fun l12 => (tkCons l12 none fun v13 r14 => (tkRow v13 none fun nl15 n16 wd17 g18 => (tkCons r14 none fun v19 r20 => (tkInt v19 none fun q21 n22 => (tkNil r20 none ((tkOut (env 15 [(.agg (eSite s)), (sl eStt 6 l), (.int .i64 x), (.int .i64 y)]) none (fun v23 => (tkTup v23 none fun l24 => (tkCons l24 none fun v25 r26 => (tkAgg v25 none fun l27 => (tkCons l27 none fun v28 r29 => (tkInt v28 none fun q30 n31 => (tkCons r29 none fun v32 r33 => (tkInt v32 none fun q34 n35 => (tkNil r33 none ((tkCons r26 none fun v36 r37 => (tkInt v36 none fun q38 n39 => (tkNil r37 none ((tkOut (env 16 [(.agg (eSite s))]) none (fun v40 => (tkBool v40 none fun b41 => (bif (!b41) then (bif (decide (q21 = .i64)) then (bif (n22 == (2 : Int)) then (bif (decide (q38 = .i64)) then (bif (n39 == (2 : Int)) then (bif (((n16 : Nat) : Int) == (0 : Int)) then (bif (decide (q30 = .i64)) then (bif (decide (q34 = .i64)) then (bif ((n31 == (0 : Int)) && ((n35 == (0 : Int)) && true)) then (tkOut (env 13 []) none (fun v42 => (tkBool v42 none fun b43 => some (.ret (.bool b43))))
                                                                            (fun p42 => (tkIfc p42 none fun t43 x44 => (bif (flatP (.iface t43 x44)) then some (.pan (.iface t43 x44))
                                                                                else none))))
                                                                          else some (.ret (.bool false)))
                                                                        else none)
                                                                      else none)
                                                                    else some (.ret (.bool false)))
                                                                  else some (.ret (.bool false)))
                                                                else none)
                                                              else some (.ret (.bool false)))
                                                            else none)
                                                          else (tkOut (env 17 [(.agg (eSite s)), (sl eStt 6 l)]) none (fun v42 => (tkBool v42 none fun b43 => (bif (!b43) then (bif (decide (q21 = .i64)) then (bif (n22 == (2 : Int)) then (bif (decide (q38 = .i64)) then (bif (n39 == (2 : Int)) then (bif (((n16 : Nat) : Int) == (0 : Int)) then (bif (decide (q30 = .i64)) then (bif (decide (q34 = .i64)) then (bif ((n31 == (0 : Int)) && ((n35 == (0 : Int)) && true)) then (tkOut (env 13 []) none (fun v44 => (tkBool v44 none fun b45 => some (.ret (.bool b45))))
                                                                                  (fun p44 => (tkIfc p44 none fun t45 x46 => (bif (flatP (.iface t45 x46)) then some (.pan (.iface t45 x46))
                                                                                      else none))))
                                                                                else some (.ret (.bool false)))
                                                                              else none)
                                                                            else none)
                                                                          else some (.ret (.bool false)))
                                                                        else some (.ret (.bool false)))
                                                                      else none)
                                                                    else some (.ret (.bool false)))
                                                                  else none)
                                                                else (tkOut (env 18 [(.int .i64 x), (.int .i64 y)]) none (fun v44 => (tkBool v44 none fun b45 => (bif (!b45) then (bif (decide (q38 = .i64)) then (bif (n39 != (2 : Int)) then some (.ret (.bool false))
                                                                          else (bif (decide (q30 = .i64)) then (bif (decide (q34 = .i64)) then (bif (!((n31 == (0 : Int)) && ((n35 == (0 : Int)) && true))) then some (.ret (.bool false))
                                                                                else (tkOut (env 20 [(.agg (eSite s)), (.agg [(sl eSpan 2 (Day.press d)), (sl eSpan 2 (Day.warm d))])]) none (fun v46 => (tkBool v46 none fun b47 => (bif (!b47) then (bif (decide (q21 = .i64)) then (bif (n22 == (2 : Int)) then (bif (((n16 : Nat) : Int) == (0 : Int)) then (tkOut (env 13 []) none (fun v48 => (tkBool v48 none fun b49 => some (.ret (.bool b49))))
                                                                                              (fun p48 => (tkIfc p48 none fun t49 x50 => (bif (flatP (.iface t49 x50)) then some (.pan (.iface t49 x50))
                                                                                                  else none))))
                                                                                            else some (.ret (.bool false)))
                                                                                          else some (.ret (.bool false)))
                                                                                        else none)
                                                                                      else (tkOut (env 21 [(.agg (eSite s)), (sl eStt 6 l), (.agg [(sl eSpan 2 (Day.press d)), (sl eSpan 2 (Day.warm d))])]) none (fun v48 => (tkTup v48 none fun l49 => (tkCons l49 none fun v50 r51 => (tkRow v50 none fun nl52 n53 wd54 g55 => (tkCons r51 none fun v56 r57 => (tkBool v56 none fun b58 => (tkNil r57 none ((bif (!b58) then (bif (decide (q21 = .i64)) then (bif (n22 == (7 : Int)) then (bif (((n16 : Nat) : Int) == (0 : Int)) then (tkOut (env 13 []) none (fun v59 => (tkBool v59 none fun b60 => some (.ret (.bool b60))))
                                                                                                              (fun p59 => (tkIfc p59 none fun t60 x61 => (bif (flatP (.iface t60 x61)) then some (.pan (.iface t60 x61))
                                                                                                                  else none))))
                                                                                                            else some (.ret (.bool false)))
                                                                                                          else some (.ret (.bool false)))
                                                                                                        else none)
                                                                                                      else (bif (decide (q21 = .i64)) then (bif (n22 == (0 : Int)) then (tkOut (env 22 [(.row nl15 n16 wd17 g18), (.row nl52 n53 wd54 g55)]) none (fun v59 => (tkBool v59 none fun b60 => (bif b60 then (tkOut (env 13 []) none (fun v61 => (tkBool v61 none fun b62 => some (.ret (.bool b62))))
                                                                                                                  (fun p61 => (tkIfc p61 none fun t62 x63 => (bif (flatP (.iface t62 x63)) then some (.pan (.iface t62 x63))
                                                                                                                      else none))))
                                                                                                                else some (.ret (.bool false)))))
                                                                                                            (fun p59 => (tkIfc p59 none fun t60 x61 => (bif (flatP (.iface t60 x61)) then some (.pan (.iface t60 x61))
                                                                                                                else none))))
                                                                                                          else some (.ret (.bool false)))
                                                                                                        else none))))))))))
                                                                                        (fun p48 => (tkIfc p48 none fun t49 x50 => (bif (flatP (.iface t49 x50)) then some (.pan (.iface t49 x50))
                                                                                            else none)))))))
                                                                                  (fun p46 => (tkIfc p46 none fun t47 x48 => (bif (flatP (.iface t47 x48)) then some (.pan (.iface t47 x48))
                                                                                      else none)))))
                                                                              else none)
                                                                            else none))
                                                                        else none)
                                                                      else (bif (decide (q38 = .i64)) then (bif (n39 != (0 : Int)) then some (.ret (.bool false))
                                                                          else (tkOut (env 19 [(.agg (eSite s)), (sl eStt 6 l), (.int .i64 x), (.int .i64 y)]) none (fun v46 => (tkAgg v46 none fun l47 => (tkCons l47 none fun v48 r49 => (tkInt v48 none fun q50 n51 => (tkCons r49 none fun v52 r53 => (tkInt v52 none fun q54 n55 => (tkNil r53 none ((bif (decide (q30 = q50)) then (bif (decide (q34 = q54)) then (bif (!((n31 == n51) && ((n35 == n55) && true))) then some (.ret (.bool false))
                                                                                              else (tkOut (env 20 [(.agg (eSite s)), (.agg [(sl eSpan 2 (Day.press d)), (sl eSpan 2 (Day.warm d))])]) none (fun v56 => (tkBool v56 none fun b57 => (bif (!b57) then (bif (decide (q21 = .i64)) then (bif (n22 == (2 : Int)) then (bif (((n16 : Nat) : Int) == (0 : Int)) then (tkOut (env 13 []) none (fun v58 => (tkBool v58 none fun b59 => some (.ret (.bool b59))))
                                                                                                            (fun p58 => (tkIfc p58 none fun t59 x60 => (bif (flatP (.iface t59 x60)) then some (.pan (.iface t59 x60))
                                                                                                                else none))))
                                                                                                          else some (.ret (.bool false)))
                                                                                                        else some (.ret (.bool false)))
                                                                                                      else none)
                                                                                                    else (tkOut (env 21 [(.agg (eSite s)), (sl eStt 6 l), (.agg [(sl eSpan 2 (Day.press d)), (sl eSpan 2 (Day.warm d))])]) none (fun v58 => (tkTup v58 none fun l59 => (tkCons l59 none fun v60 r61 => (tkRow v60 none fun nl62 n63 wd64 g65 => (tkCons r61 none fun v66 r67 => (tkBool v66 none fun b68 => (tkNil r67 none ((bif (!b68) then (bif (decide (q21 = .i64)) then (bif (n22 == (7 : Int)) then (bif (((n16 : Nat) : Int) == (0 : Int)) then (tkOut (env 13 []) none (fun v69 => (tkBool v69 none fun b70 => some (.ret (.bool b70))))
                                                                                                                            (fun p69 => (tkIfc p69 none fun t70 x71 => (bif (flatP (.iface t70 x71)) then some (.pan (.iface t70 x71))
                                                                                                                                else none))))
                                                                                                                          else some (.ret (.bool false)))
                                                                                                                        else some (.ret (.bool false)))
                                                                                                                      else none)
                                                                                                                    else (bif (decide (q21 = .i64)) then (bif (n22 == (0 : Int)) then (tkOut (env 22 [(.row nl15 n16 wd17 g18), (.row nl62 n63 wd64 g65)]) none (fun v69 => (tkBool v69 none fun b70 => (bif b70 then (tkOut (env 13 []) none (fun v71 => (tkBool v71 none fun b72 => some (.ret (.bool b72))))
                                                                                                                                (fun p71 => (tkIfc p71 none fun t72 x73 => (bif (flatP (.iface t72 x73)) then some (.pan (.iface t72 x73))
                                                                                                                                    else none))))
                                                                                                                              else some (.ret (.bool false)))))
                                                                                                                          (fun p69 => (tkIfc p69 none fun t70 x71 => (bif (flatP (.iface t70 x71)) then some (.pan (.iface t70 x71))
                                                                                                                              else none))))
                                                                                                                        else some (.ret (.bool false)))
                                                                                                                      else none))))))))))
                                                                                                      (fun p58 => (tkIfc p58 none fun t59 x60 => (bif (flatP (.iface t59 x60)) then some (.pan (.iface t59 x60))
                                                                                                          else none)))))))
                                                                                                (fun p56 => (tkIfc p56 none fun t57 x58 => (bif (flatP (.iface t57 x58)) then some (.pan (.iface t57 x58))
                                                                                                    else none)))))
                                                                                            else none)
                                                                                          else none)))))))))
                                                                            (fun p46 => (tkIfc p46 none fun t47 x48 => (bif (flatP (.iface t47 x48)) then some (.pan (.iface t47 x48))
                                                                                else none)))))
                                                                        else none))))
                                                                  (fun p44 => (tkIfc p44 none fun t45 x46 => (bif (flatP (.iface t45 x46)) then some (.pan (.iface t45 x46))
                                                                      else none)))))))
                                                            (fun p42 => (tkIfc p42 none fun t43 x44 => (bif (flatP (.iface t43 x44)) then some (.pan (.iface t43 x44))
                                                                else none)))))))
                                                      (fun p40 => (tkIfc p40 none fun t41 x42 => (bif (flatP (.iface t41 x42)) then some (.pan (.iface t41 x42))
                                                          else none))))))))))))))))))
                              (fun p23 => (tkIfc p23 none fun t24 x25 => (bif (flatP (.iface t24 x25)) then some (.pan (.iface t24 x25))
                                  else none))))))))))))
                (fun p11 => (tkIfc p11 none fun t12 x13 => (bif (flatP (.iface t12 x13)) then some (.pan (.iface t12 x13))
                    else none)))))))
          (fun p9 => (tkIfc p9 none fun t10 x11 => (bif (flatP (.iface t10 x11)) then some (.pan (.iface t10 x11))
              else none))))))))
  (fun p7 => (tkIfc p7 none fun t8 x9 => (bif (flatP (.iface t8 x9)) then some (.pan (.iface t8 x9))
      else none)))) := by kernel_rfl

noncomputable def L5x0 (env : Env) (F : Nat) (s : Site) (l : Sl Day) (fu : Nat) (q0 : IntKind) (i1 : Int) (i2 : Int) (i3 : Int) (q4 : IntKind) (i5 : Int) (q6 : IntKind) (i7 : Int) (q8 : IntKind) (i9 : Int) (q10 : IntKind) (i11 : Int) (q12 : IntKind) (i13 : Int) (q14 : IntKind) (i15 : Int) (q16 : IntKind) (i17 : Int) (q18 : IntKind) (i19 : Int) : Option Out := atLoop Try.prog (cfg F) env 5 [.r, .r, .r, .r, .r, .l, .r, .d] [] fu { tm := tmL 86 0 [(1, (sl eDay 2 l)), (2, (.optr 0 0 0)), (5, (.optr 1 0 0)), (6, (.optr 2 0 0)), (7, (.int q0 i1)), (8, (.int .i64 i2)), (9, (.int .i64 i3))], hp := [(.box 28 (eSite s) true), (.box 71 [(.int q4 i5), (.int q6 i7), (.int q8 i9), (.int q10 i11)] true), (.box 71 [(.int q12 i13), (.int q14 i15), (.int q16 i17), (.int q18 i19)] true)] }
theorem t5 (env : Env) (F : Nat) (s : Site) (l : Sl Day) : (evFun Try.prog (cfg F) env 5 [(.agg (eSite s)), (sl eDay 2 l)]) =
  (tkOut (env 11 [(.agg (eSite s))]) none (fun v4 => (tkBool v4 none fun b5 => (bif (!b5) then (tkOut (env 13 []) none (fun v6 => (tkBool v6 none fun b7 => some (.ret (.bool b7))))
        (fun p6 => (tkIfc p6 none fun t7 x8 => (bif (flatP (.iface t7 x8)) then some (.pan (.iface t7 x8))
            else none))))
      else (tkOut (env 12 [(sl eDay 2 l), (.int .i64 (12 : Int))]) none (fun v6 => (tkBool v6 none fun b7 => (bif (!b7) then (tkOut (env 13 []) none (fun v8 => (tkBool v8 none fun b9 => some (.ret (.bool b9))))
              (fun p8 => (tkIfc p8 none fun t9 x10 => (bif (flatP (.iface t9 x10)) then some (.pan (.iface t9 x10))
                  else none))))
            else (tkOut (env 30 [(.agg (eSite s)), (sl eDay 2 l)]) none (fun v8 => (tkTup v8 none fun l9 => (tkCons l9 none fun v10 r11 => (tkAgg v10 none fun l12 => (tkCons l12 none fun v13 r14 => (tkInt v13 none fun q15 n16 => (tkCons r14 none fun v17 r18 => (tkInt v17 none fun q19 n20 => (tkCons r18 none fun v21 r22 => (tkInt v21 none fun q23 n24 => (tkCons r22 none fun v25 r26 => (tkInt v25 none fun q27 n28 => (tkNil r26 none ((tkCons r11 none fun v29 r30 => (tkAgg v29 none fun l31 => (tkCons l31 none fun v32 r33 => (tkInt v32 none fun q34 n35 => (tkCons r33 none fun v36 r37 => (tkInt v36 none fun q38 n39 => (tkCons r37 none fun v40 r41 => (tkInt v40 none fun q42 n43 => (tkCons r41 none fun v44 r45 => (tkInt v44 none fun q46 n47 => (tkNil r45 none ((tkCons r30 none fun v48 r49 => (tkInt v48 none fun q50 n51 => (tkNil r49 none ((bif (decide ((((Sl.len l) : Nat) : Int) > (60 : Int))) then (L5x0 env F s l F q50 n51 (3 : Int) (0 : Int) q15 n16 q19 n20 q23 n24 q27 n28 q34 n35 q38 n39 q42 n43 q46 n47)
                                                                    else (tkOut (env 16 [(.agg (eSite s))]) none (fun v52 => (tkBool v52 none fun b53 => (bif (!b53) then (L5x0 env F s l F q50 n51 (2 : Int) (0 : Int) q15 n16 q19 n20 q23 n24 q27 n28 q34 n35 q38 n39 q42 n43 q46 n47)
                                                                          else (L5x0 env F s l F q50 n51 (0 : Int) (0 : Int) q15 n16 q19 n20 q23 n24 q27 n28 q34 n35 q38 n39 q42 n43 q46 n47))))
                                                                      (fun p52 => (tkIfc p52 none fun t53 x54 => (bif (flatP (.iface t53 x54)) then some (.pan (.iface t53 x54))
                                                                          else none)))))))))))))))))))))))))))))))))))
              (fun p8 => (tkIfc p8 none fun t9 x10 => (bif (flatP (.iface t9 x10)) then some (.pan (.iface t9 x10))
                  else none)))))))
        (fun p6 => (tkIfc p6 none fun t7 x8 => (bif (flatP (.iface t7 x8)) then some (.pan (.iface t7 x8))
            else none)))))))
  (fun p4 => (tkIfc p4 none fun t5 x6 => (bif (flatP (.iface t5 x6)) then some (.pan (.iface t5 x6))
      else none)))) := by kernel_rfl
theorem L5x0s (env : Env) (F : Nat) (s : Site) (l : Sl Day) (fu : Nat) (q0 : IntKind) (i1 : Int) (i2 : Int) (i3 : Int) (q4 : IntKind) (i5 : Int) (q6 : IntKind) (i7 : Int) (q8 : IntKind) (i9 : Int) (q10 : IntKind) (i11 : Int) (q12 : IntKind) (i13 : Int) (q14 : IntKind) (i15 : Int) (q16 : IntKind) (i17 : Int) (q18 : IntKind) (i19 : Int) : L5x0 env F s l (fu + 1) q0 i1 i2 i3 q4 i5 q6 i7 q8 i9 q10 i11 q12 i13 q14 i15 q16 i17 q18 i19 =
  (bif (decide (i3 < (((Sl.len l) : Nat) : Int))) then (bif (i2 == (0 : Int)) then (bif (decide ((0 : Int) ≤ i3)) then (bif (decide (i3 < (((Sl.len l) : Nat) : Int))) then (tkOut (env 20 [(.agg (eSite s)), (.agg [(sl eSpan 2 (Day.press (Sl.el l (Int.toNat i3)))), (sl eSpan 2 (Day.warm (Sl.el l (Int.toNat i3))))])]) none (fun v25 => (tkBool v25 none fun b26 => (bif (!b26) then (L5x0 env F s l fu q0 i1 (2 : Int) (IntKind.wrap .i64 (i3 + (1 : Int))) q4 i5 q6 i7 q8 i9 q10 i11 q12 i13 q14 i15 q16 i17 q18 i19)
              else (L5x0 env F s l fu q0 i1 i2 (IntKind.wrap .i64 (i3 + (1 : Int))) q4 i5 q6 i7 q8 i9 q10 i11 q12 i13 q14 i15 q16 i17 q18 i19))))
          (fun p25 => (tkIfc p25 none fun t26 x27 => (bif (flatP (.iface t26 x27)) then some (.pan (.iface t26 x27))
              else none))))
        else none)
      else none)
    else (bif (i2 != (0 : Int)) then (bif (decide (q0 = .i64)) then (bif (i1 == i2) then (bif (decide (q4 = .i64)) then (bif (decide (q6 = .i64)) then (bif (decide (q8 = .i64)) then (bif (decide (q10 = .i64)) then (bif ((i5 == (0 : Int)) && ((i7 == (0 : Int)) && ((i9 == (0 : Int)) && ((i11 == (0 : Int)) && true)))) then (bif (decide (q12 = .i64)) then (bif (decide (q14 = .i64)) then (bif (decide (q16 = .i64)) then (bif (decide (q18 = .i64)) then (bif ((i13 == (0 : Int)) && ((i15 == (0 : Int)) && ((i17 == (0 : Int)) && ((i19 == (0 : Int)) && true)))) then (tkOut (env 13 []) none (fun v25 => (tkBool v25 none fun b26 => some (.ret (.bool b26))))
                                (fun p25 => (tkIfc p25 none fun t26 x27 => (bif (flatP (.iface t26 x27)) then some (.pan (.iface t26 x27))
                                    else none))))
                              else some (.ret (.bool false)))
                            else none)
                          else none)
                        else none)
                      else none)
                    else some (.ret (.bool false)))
                  else none)
                else none)
              else none)
            else none)
          else some (.ret (.bool false)))
        else none)
      else (bif (decide (q0 = .i64)) then (bif (i1 == (0 : Int)) then (tkOut (env 31 [(.agg (eSite s)), (sl eDay 2 l), (.bool false)]) none (fun v25 => (tkAgg v25 none fun l26 => (tkCons l26 none fun v27 r28 => (tkInt v27 none fun q29 n30 => (tkCons r28 none fun v31 r32 => (tkInt v31 none fun q33 n34 => (tkCons r32 none fun v35 r36 => (tkInt v35 none fun q37 n38 => (tkCons r36 none fun v39 r40 => (tkInt v39 none fun q41 n42 => (tkNil r40 none ((bif (decide (q4 = q29)) then (bif (decide (q6 = q33)) then (bif (decide (q8 = q37)) then (bif (decide (q10 = q41)) then (bif ((i5 == n30) && ((i7 == n34) && ((i9 == n38) && ((i11 == n42) && true)))) then (tkOut (env 31 [(.agg (eSite s)), (sl eDay 2 l), (.bool true)]) none (fun v43 => (tkAgg v43 none fun l44 => (tkCons l44 none fun v45 r46 => (tkInt v45 none fun q47 n48 => (tkCons r46 none fun v49 r50 => (tkInt v49 none fun q51 n52 => (tkCons r50 none fun v53 r54 => (tkInt v53 none fun q55 n56 => (tkCons r54 none fun v57 r58 => (tkInt v57 none fun q59 n60 => (tkNil r58 none ((bif (decide (q12 = q47)) then (bif (decide (q14 = q51)) then (bif (decide (q16 = q55)) then (bif (decide (q18 = q59)) then (bif ((i13 == n48) && ((i15 == n52) && ((i17 == n56) && ((i19 == n60) && true)))) then (tkOut (env 13 []) none (fun v61 => (tkBool v61 none fun b62 => some (.ret (.bool b62))))
                                                                            (fun p61 => (tkIfc p61 none fun t62 x63 => (bif (flatP (.iface t62 x63)) then some (.pan (.iface t62 x63))
                                                                                else none))))
                                                                          else some (.ret (.bool false)))
                                                                        else none)
                                                                      else none)
                                                                    else none)
                                                                  else none)))))))))))))
                                            (fun p43 => (tkIfc p43 none fun t44 x45 => (bif (flatP (.iface t44 x45)) then some (.pan (.iface t44 x45))
                                                else none))))
                                          else some (.ret (.bool false)))
                                        else none)
                                      else none)
                                    else none)
                                  else none)))))))))))))
            (fun p25 => (tkIfc p25 none fun t26 x27 => (bif (flatP (.iface t26 x27)) then some (.pan (.iface t26 x27))
                else none))))
          else some (.ret (.bool false)))
        else none)))
  else (bif (i2 != (0 : Int)) then (bif (decide (q0 = .i64)) then (bif (i1 == i2) then (bif (decide (q4 = .i64)) then (bif (decide (q6 = .i64)) then (bif (decide (q8 = .i64)) then (bif (decide (q10 = .i64)) then (bif ((i5 == (0 : Int)) && ((i7 == (0 : Int)) && ((i9 == (0 : Int)) && ((i11 == (0 : Int)) && true)))) then (bif (decide (q12 = .i64)) then (bif (decide (q14 = .i64)) then (bif (decide (q16 = .i64)) then (bif (decide (q18 = .i64)) then (bif ((i13 == (0 : Int)) && ((i15 == (0 : Int)) && ((i17 == (0 : Int)) && ((i19 == (0 : Int)) && true)))) then (tkOut (env 13 []) none (fun v25 => (tkBool v25 none fun b26 => some (.ret (.bool b26))))
                              (fun p25 => (tkIfc p25 none fun t26 x27 => (bif (flatP (.iface t26 x27)) then some (.pan (.iface t26 x27))
                                  else none))))
                            else some (.ret (.bool false)))
                          else none)
                        else none)
                      else none)
                    else none)
                  else some (.ret (.bool false)))
                else none)
              else none)
            else none)
          else none)
        else some (.ret (.bool false)))
      else none)
    else (bif (decide (q0 = .i64)) then (bif (i1 == (0 : Int)) then (tkOut (env 31 [(.agg (eSite s)), (sl eDay 2 l), (.bool false)]) none (fun v25 => (tkAgg v25 none fun l26 => (tkCons l26 none fun v27 r28 => (tkInt v27 none fun q29 n30 => (tkCons r28 none fun v31 r32 => (tkInt v31 none fun q33 n34 => (tkCons r32 none fun v35 r36 => (tkInt v35 none fun q37 n38 => (tkCons r36 none fun v39 r40 => (tkInt v39 none fun q41 n42 => (tkNil r40 none ((bif (decide (q4 = q29)) then (bif (decide (q6 = q33)) then (bif (decide (q8 = q37)) then (bif (decide (q10 = q41)) then (bif ((i5 == n30) && ((i7 == n34) && ((i9 == n38) && ((i11 == n42) && true)))) then (tkOut (env 31 [(.agg (eSite s)), (sl eDay 2 l), (.bool true)]) none (fun v43 => (tkAgg v43 none fun l44 => (tkCons l44 none fun v45 r46 => (tkInt v45 none fun q47 n48 => (tkCons r46 none fun v49 r50 => (tkInt v49 none fun q51 n52 => (tkCons r50 none fun v53 r54 => (tkInt v53 none fun q55 n56 => (tkCons r54 none fun v57 r58 => (tkInt v57 none fun q59 n60 => (tkNil r58 none ((bif (decide (q12 = q47)) then (bif (decide (q14 = q51)) then (bif (decide (q16 = q55)) then (bif (decide (q18 = q59)) then (bif ((i13 == n48) && ((i15 == n52) && ((i17 == n56) && ((i19 == n60) && true)))) then (tkOut (env 13 []) none (fun v61 => (tkBool v61 none fun b62 => some (.ret (.bool b62))))
                                                                          (fun p61 => (tkIfc p61 none fun t62 x63 => (bif (flatP (.iface t62 x63)) then some (.pan (.iface t62 x63))
                                                                              else none))))
                                                                        else some (.ret (.bool false)))
                                                                      else none)
                                                                    else none)
                                                                  else none)
                                                                else none)))))))))))))
                                          (fun p43 => (tkIfc p43 none fun t44 x45 => (bif (flatP (.iface t44 x45)) then some (.pan (.iface t44 x45))
                                              else none))))
                                        else some (.ret (.bool false)))
                                      else none)
                                    else none)
                                  else none)
                                else none)))))))))))))
          (fun p25 => (tkIfc p25 none fun t26 x27 => (bif (flatP (.iface t26 x27)) then some (.pan (.iface t26 x27))
              else none))))
        else some (.ret (.bool false)))
      else none))) := by kernel_rfl

theorem t8 (env : Env) (F : Nat) (s : Site) (i : Int) (j : Int) : (evFun Try.prog (cfg F) env 8 [(.agg (eSite s)), (.int .i64 i), (.int .i64 j)]) =
  (tkOut (env 11 [(.agg (eSite s))]) none (fun v5 => (tkBool v5 none fun b6 => (bif (!b6) then (tkOut (env 13 []) none (fun v7 => (tkBool v7 none fun b8 => some (.ret (.bool b8))))
        (fun p7 => (tkIfc p7 none fun t8 x9 => (bif (flatP (.iface t8 x9)) then some (.pan (.iface t8 x9))
            else none))))
      else (tkOut (env 36 [(.agg (eSite s))]) none (fun v7 => (tkInt v7 none fun q8 n9 => (tkOut (env 37 [(.agg (eSite s)), (.int .i64 i), (.int .i64 j)]) none (fun v10 => (tkTup v10 none fun l11 => (tkCons l11 none fun v12 r13 => (tkAgg v12 none fun l14 => (tkCons l14 none fun v15 r16 => (tkInt v15 none fun q17 n18 => (tkCons r16 none fun v19 r20 => (tkInt v19 none fun q21 n22 => (tkNil r20 none ((tkCons r13 none fun v23 r24 => (tkInt v23 none fun q25 n26 => (tkNil r24 none ((tkOut (env 24 [(.agg (eSite s))]) none (fun v27 => (tkTup v27 none fun l28 => (tkCons l28 none fun v29 r30 => (tkRow v29 none fun nl31 n32 wd33 g34 => (tkCons r30 none fun v35 r36 => (tkInt v35 none fun q37 n38 => (tkNil r36 none ((tkOut (env 16 [(.agg (eSite s))]) none (fun v39 => (tkBool v39 none fun b40 => (bif (!b40) then (bif (decide (q8 = .i64)) then (bif (n9 == (2 : Int)) then (bif (decide (q25 = .i64)) then (bif (n26 == (2 : Int)) then (bif (decide (q37 = .i64)) then (bif (n38 == (2 : Int)) then (bif (decide (q17 = .i64)) then (bif (decide (q21 = .i64)) then (bif ((n18 == (0 : Int)) && ((n22 == (0 : Int)) && true)) then (bif (((n32 : Nat) : Int) == (0 : Int)) then (tkOut (env 13 []) none (fun v41 => (tkBool v41 none fun b42 => some (.ret (.bool b42))))
                                                                            (fun p41 => (tkIfc p41 none fun t42 x43 => (bif (flatP (.iface t42 x43)) then some (.pan (.iface t42 x43))
                                                                                else none))))
                                                                          else some (.ret (.bool false)))
                                                                        else some (.ret (.bool false)))
                                                                      else none)
                                                                    else none)
                                                                  else some (.ret (.bool false)))
                                                                else none)
                                                              else some (.ret (.bool false)))
                                                            else none)
                                                          else some (.ret (.bool false)))
                                                        else none)
                                                      else (bif (decide (q8 = .i64)) then (bif (n9 != (0 : Int)) then some (.ret (.bool false))
                                                          else (bif (decide (q37 = .i64)) then (bif (n38 != (0 : Int)) then some (.ret (.bool false))
                                                              else (tkOut (env 38 [(.agg (eSite s))]) none (fun v41 => (tkRow v41 none fun nl42 n43 wd44 g45 => (tkOut (env 22 [(.row nl31 n32 wd33 g34), (.row nl42 n43 wd44 g45)]) none (fun v46 => (tkBool v46 none fun b47 => (bif (!b47) then some (.ret (.bool false))
                                                                        else (tkOut (env 39 [(.agg (eSite s)), (.int .i64 i)]) none (fun v48 => (tkBool v48 none fun b49 => (bif (!b49) then (bif (decide (q25 = .i64)) then (bif (n26 == (2 : Int)) then (bif (decide (q17 = .i64)) then (bif (decide (q21 = .i64)) then (bif ((n18 == (0 : Int)) && ((n22 == (0 : Int)) && true)) then (tkOut (env 13 []) none (fun v50 => (tkBool v50 none fun b51 => some (.ret (.bool b51))))
                                                                                          (fun p50 => (tkIfc p50 none fun t51 x52 => (bif (flatP (.iface t51 x52)) then some (.pan (.iface t51 x52))
                                                                                              else none))))
                                                                                        else some (.ret (.bool false)))
                                                                                      else none)
                                                                                    else none)
                                                                                  else some (.ret (.bool false)))
                                                                                else none)
                                                                              else (tkOut (env 39 [(.agg (eSite s)), (.int .i64 j)]) none (fun v50 => (tkBool v50 none fun b51 => (bif (!b51) then (bif (decide (q25 = .i64)) then (bif (n26 == (2 : Int)) then (bif (decide (q17 = .i64)) then (bif (decide (q21 = .i64)) then (bif ((n18 == (0 : Int)) && ((n22 == (0 : Int)) && true)) then (tkOut (env 13 []) none (fun v52 => (tkBool v52 none fun b53 => some (.ret (.bool b53))))
                                                                                                (fun p52 => (tkIfc p52 none fun t53 x54 => (bif (flatP (.iface t53 x54)) then some (.pan (.iface t53 x54))
                                                                                                    else none))))
                                                                                              else some (.ret (.bool false)))
                                                                                            else none)
                                                                                          else none)
                                                                                        else some (.ret (.bool false)))
                                                                                      else none)
                                                                                    else (bif (i == j) then (bif (decide (q25 = .i64)) then (bif (n26 == (2 : Int)) then (bif (decide (q17 = .i64)) then (bif (decide (q21 = .i64)) then (bif ((n18 == (0 : Int)) && ((n22 == (0 : Int)) && true)) then (tkOut (env 13 []) none (fun v52 => (tkBool v52 none fun b53 => some (.ret (.bool b53))))
                                                                                                  (fun p52 => (tkIfc p52 none fun t53 x54 => (bif (flatP (.iface t53 x54)) then some (.pan (.iface t53 x54))
                                                                                                      else none))))
                                                                                                else some (.ret (.bool false)))
                                                                                              else none)
                                                                                            else none)
                                                                                          else some (.ret (.bool false)))
                                                                                        else none)
                                                                                      else (bif (decide (q25 = .i64)) then (bif (n26 == (0 : Int)) then (bif (decide ((0 : Int) ≤ i)) then (bif (decide (i < (((Sl.len (Site.cavs s)) : Nat) : Int))) then (bif (decide ((0 : Int) ≤ j)) then (bif (decide (j < (((Sl.len (Site.cavs s)) : Nat) : Int))) then (tkOut (env 40 [(.agg (eSite s)), (.int .i64 i), (.int .i64 j), (.agg (eSpan (Cav.rad (Sl.el (Site.cavs s) (Int.toNat i))))), (.agg (eSpan (Cav.rad (Sl.el (Site.cavs s) (Int.toNat j)))))]) none (fun v52 => (tkAgg v52 none fun l53 => (tkCons l53 none fun v54 r55 => (tkInt v54 none fun q56 n57 => (tkCons r55 none fun v58 r59 => (tkInt v58 none fun q60 n61 => (tkNil r59 none ((bif (decide (q17 = q56)) then (bif (decide (q21 = q60)) then (bif ((n18 == n57) && ((n22 == n61) && true)) then (tkOut (env 13 []) none (fun v62 => (tkBool v62 none fun b63 => some (.ret (.bool b63))))
                                                                                                                        (fun p62 => (tkIfc p62 none fun t63 x64 => (bif (flatP (.iface t63 x64)) then some (.pan (.iface t63 x64))
                                                                                                                            else none))))
                                                                                                                      else some (.ret (.bool false)))
                                                                                                                    else none)
                                                                                                                  else none)))))))))
                                                                                                    (fun p52 => (tkIfc p52 none fun t53 x54 => (bif (flatP (.iface t53 x54)) then some (.pan (.iface t53 x54))
                                                                                                        else none))))
                                                                                                  else none)
                                                                                                else none)
                                                                                              else none)
                                                                                            else none)
                                                                                          else some (.ret (.bool false)))
                                                                                        else none)))))
                                                                                (fun p50 => (tkIfc p50 none fun t51 x52 => (bif (flatP (.iface t51 x52)) then some (.pan (.iface t51 x52))
                                                                                    else none)))))))
                                                                          (fun p48 => (tkIfc p48 none fun t49 x50 => (bif (flatP (.iface t49 x50)) then some (.pan (.iface t49 x50))
                                                                              else none)))))))
                                                                    (fun p46 => (tkIfc p46 none fun t47 x48 => (bif (flatP (.iface t47 x48)) then some (.pan (.iface t47 x48))
                                                                        else none))))))
                                                                (fun p41 => (tkIfc p41 none fun t42 x43 => (bif (flatP (.iface t42 x43)) then some (.pan (.iface t42 x43))
                                                                    else none)))))
                                                            else none))
                                                        else none))))
                                                  (fun p39 => (tkIfc p39 none fun t40 x41 => (bif (flatP (.iface t40 x41)) then some (.pan (.iface t40 x41))
                                                      else none))))))))))))
                                    (fun p27 => (tkIfc p27 none fun t28 x29 => (bif (flatP (.iface t28 x29)) then some (.pan (.iface t28 x29))
                                        else none))))))))))))))))))
            (fun p10 => (tkIfc p10 none fun t11 x12 => (bif (flatP (.iface t11 x12)) then some (.pan (.iface t11 x12))
                else none))))))
        (fun p7 => (tkIfc p7 none fun t8 x9 => (bif (flatP (.iface t8 x9)) then some (.pan (.iface t8 x9))
            else none)))))))
  (fun p5 => (tkIfc p5 none fun t6 x7 => (bif (flatP (.iface t6 x7)) then some (.pan (.iface t6 x7))
      else none)))) := by kernel_rfl

end Go.Sim.Cr

/-
  CreepMoves: the law answers true.
-/
namespace Go.Sim.Cr
open Go.Proofs
variable (F d : Nat)
abbrev ShortS (s : Site) : Prop := s.cavs.len ≤ 10 ∧ s.rows.len ≤ 12 ∧ s.heats.len ≤ 12 ∧ s.rings.len ≤ 12 ∧ s.houses.len ≤ 10
theorem small_of {s : Site} (h : ShortS s) (hF : 67108864 < F) : Small s F := by
  constructor
  · show s.cavs.len < 4611686018427387904; omega
  · show s.rows.len < 4611686018427387904; omega
  · show s.heats.len < 4611686018427387904; omega
  · show s.rings.len < 4611686018427387904; omega
  · show s.houses.len < 4611686018427387904; omega
  all_goals omega
theorem sameStt_refl (l : Sl Stt) : decide (l.len = l.len ∧ ∀ i, i < l.len → SameStt (l.el i) (l.el i)) = true := decide_eq_true ⟨rfl, fun _ _ => ⟨rfl, rfl, rfl, rfl, rfl, rfl⟩⟩
theorem z00 : ((0 : Int) == 0) = true := rfl
theorem z22 : ((2 : Int) == 2) = true := rfl
theorem z77 : ((7 : Int) == 7) = true := rfl
theorem z0 : (((0 : Nat) : Int) == 0) = true := rfl
theorem eqS2 (a b : Int) : ((a == a) && ((b == b) && true)) = true := by simp
set_option maxRecDepth 100000 in
theorem s3 (s : Site) (l : Sl Stt) (y : Day) (x z : Int) (hF : 2147483648 < F) : E F (d + 12) 3 [.agg (eSite s), sl eStt 6 l, .agg (eDay y), .int .i64 x, .int .i64 z] = some (.ret (.bool true)) := by
  have k := s13 F d (by omega)
  rw [E_succ, t3]
  simp only [s11 F (d + 10), pOut, pBool]
  by_cases h0 : ShortS s
  · have hs := small_of F h0 (by omega)
    by_cases h1 : l.len ≤ 10
    · have e12 : E F (d + 11) 12 [.row false 1 2 (fun _ => [sl eSpan 2 y.press, sl eSpan 2 y.warm]), .int .i64 1] = _ := s12 F (d + 10) ⟨false, 1, fun _ => y⟩ 1 (by show 1 < 4611686018427387904; omega) (by show 1 < F; omega)
      simp only [decide_eq_true h0, Bool.not_true, pF, decide_eq_false (show ¬ (l.len : Int) > 10 by omega), e12, pOut, pBool]
      by_cases h2 : Few ⟨false, 1, fun _ => y⟩ 1
      · have hd := h2.1 0 (by show 0 < 1; omega)
        have p1 : y.press.len ≤ 10 := hd.1
        have p2 : y.warm.len ≤ 10 := hd.2
        have hB : l.len < Big := by show l.len < 4611686018427387904; omega
        have hp : y.press.len < Big := by show y.press.len < 4611686018427387904; omega
        have hw : y.warm.len < Big := by show y.warm.len < 4611686018427387904; omega
        have e14 := s14 F (d + 3) s l y hs hB (by omega) hp hw (by omega) (by omega) (by omega)
        have e15 := s15 F (d + 4) s l x z hs hB (by omega) (by omega)
        have e16 := s16 F (d + 8) s hs
        have e17 := s17 F (d + 9) s l hB (by omega)
        have e18 := s18 F (d + 9) x z
        simp only [decide_eq_true h2, Bool.not_true, pF, e14, e15, e16, e17, e18, pOut, pBool]
        cases h3 : siteB s with
        | false => simp only [Bool.false_and, pF, Bool.not_false, pT, pTup, pCons, pRow, pInt, pNil, pAgg, pOut, decide_true, z22, z0, z00, Bool.and_self, k, pBool]
        | true =>
          have hS := (siteB_iff s).1 h3
          have h5 := hS.cavs5
          by_cases h4 : StatesOk s l
          · have e20 := s20 F (d + 9) s y hs.cavs hs.cavsF
            by_cases h6 : Place x z
            · have e19 := s19 F (d + 9) s l x z hS h4 h6 (by omega)
              by_cases h7 : DayOk s y
              · have e21 := s21 F (d + 7) s l y hS h4 h7 (by omega)
                have e22 := s22 F (d + 10) (moved s l y) (moved s l y) hB (show l.len < F by omega)
                rw [sameStt_refl] at e22
                cases h8 : farDay s y with
                | true =>
                  simp only [moveR, h8, pT] at e21
                  simp only [decide_eq_true h4, decide_eq_true h6, decide_eq_true h7, Bool.and_self, pT, pF, Bool.not_true, Bool.not_false, pTup, pCons, pRow, pInt, pNil, pAgg, pOut, pBool, decide_true, z77, z22, z0, z00, bne, e19, e20, e21, eqS2, k]
                | false =>
                  simp only [moveR, h8, pF] at e21
                  simp only [decide_eq_true h4, decide_eq_true h6, decide_eq_true h7, Bool.and_self, pT, pF, Bool.not_true, Bool.not_false, pTup, pCons, pRow, pInt, pNil, pAgg, pOut, pBool, decide_true, z77, z22, z0, z00, bne, e19, e20, e21, e22, eqS2, k]
              · simp only [decide_eq_true h4, decide_eq_true h6, decide_eq_false h7, Bool.and_self, Bool.and_false, pT, pF, Bool.not_true, Bool.not_false, pTup, pCons, pRow, pInt, pNil, pAgg, pOut, pBool, decide_true, z77, z22, z0, z00, bne, e19, e20, eqS2, k]
            · by_cases h7 : DayOk s y
              · have e21 := s21 F (d + 7) s l y hS h4 h7 (by omega)
                have e22 := s22 F (d + 10) (moved s l y) (moved s l y) hB (show l.len < F by omega)
                rw [sameStt_refl] at e22
                cases h8 : farDay s y with
                | true =>
                  simp only [moveR, h8, pT] at e21
                  simp only [decide_eq_true h4, decide_eq_false h6, decide_eq_true h7, Bool.and_self, Bool.and_false, pT, pF, Bool.not_true, Bool.not_false, pTup, pCons, pRow, pInt, pNil, pAgg, pOut, pBool, decide_true, z77, z22, z0, z00, bne, e20, e21, eqS2, k]
                | false =>
                  simp only [moveR, h8, pF] at e21
                  simp only [decide_eq_true h4, decide_eq_false h6, decide_eq_true h7, Bool.and_self, Bool.and_false, pT, pF, Bool.not_true, Bool.not_false, pTup, pCons, pRow, pInt, pNil, pAgg, pOut, pBool, decide_true, z77, z22, z0, z00, bne, e20, e21, e22, eqS2, k]
              · simp only [decide_eq_true h4, decide_eq_false h6, decide_eq_false h7, Bool.and_self, Bool.and_false, pT, pF, Bool.not_true, Bool.not_false, pTup, pCons, pRow, pInt, pNil, pAgg, pOut, pBool, decide_true, z77, z22, z0, z00, bne, e20, eqS2, k]
          · simp only [decide_eq_false h4, Bool.false_and, Bool.and_false, Bool.true_and, pF, pT, Bool.not_true, Bool.not_false, pTup, pCons, pRow, pInt, pNil, pAgg, pOut, decide_true, z22, z0, z00, Bool.and_self, k, pBool]
      · simp only [decide_eq_false h2, Bool.not_false, pT, k, pOut, pBool]
    · simp only [decide_eq_true h0, Bool.not_true, pF, decide_eq_true (show (l.len : Int) > 10 by omega), pT, k, pOut, pBool]
  · simp only [decide_eq_false h0, Bool.not_false, pT, k, pOut, pBool]
end Go.Sim.Cr

/-
  CreepMoves: the row.
-/
namespace Go.Proofs.Ytpgpaficdabmkaa
open Go.ChangeShapes Go.WideShapes Go.ChangeAt Go.RowKit Go.Sim Go.Sim.Cr
set_option maxRecDepth 100000 in
theorem moves_fit (cs : List V) (h : ArgsFit [(true, shSite), (false, [.row shStt]), (true, shDay), (false, [i8]), (false, [i8])] cs) : E 4294967296 12 3 cs = some (.ret (.bool true)) := by
  obtain ⟨l, cs1, rfl, h1, g1⟩ := h
  obtain ⟨s2, c2, cs2, e2, rfl, h2, g2⟩ := g1
  obtain ⟨l3, cs3, rfl, h3, g3⟩ := g2
  obtain ⟨s4, c4, cs4, e4, rfl, h4, g4⟩ := g3
  obtain ⟨s5, c5, cs5, e5, rfl, h5, g5⟩ := g4
  injection e2 with e2 _; subst e2
  injection e4 with e4 _; subst e4
  injection e5 with e5 _; subst e5
  obtain rfl : cs5 = [] := g5
  obtain ⟨s, rfl⟩ := decSite l h1
  obtain ⟨t, rfl, _, _⟩ := fitRow decStt h2
  obtain ⟨y, rfl⟩ := decDay l3 h3
  obtain ⟨a, rfl, _⟩ := fitInt h4
  obtain ⟨b, rfl, _⟩ := fitInt h5
  exact s3 4294967296 0 s t y a b (by omega)
set_option maxRecDepth 100000 in
theorem creepMoves_lifted (os : Os) (started : os.Started) (H : Type) (enc : TypeId × Value → H) :
    ReturnsInHanded {} Try.checked os 3 .any (Rows.creepMovesSpec.pre6 enc Try.prog Try.f3 Rows.creepMovesRow.domain false) (Rows.creepMovesSpec.post enc Try.prog Try.f3 false true false false) := by
  refine returnsInHanded_of_change (C := Try.checked) own started (by kernel_rfl) Try.func3
    (ChangeSpec.witness6 (enc := enc) (C := Try.checked) false ⟨#[], #[.agg #[.slice none 0 0, .slice none 0 0, .slice none 0 0, .int .i64 0, .slice none 0 0, .slice none 0 0], .slice none 0 0, .agg #[.slice none 0 0, .slice none 0 0], .int .i64 0, .int .i64 0], []⟩ 8 (by kernel_rfl) (by kernel_rfl) (by kernel_rfl) (by kernel_rfl)) ?_
  intro W base args ds gs before hval hW _ _
  exact law_contract (tb := 4) (okE 4294967296 12) (by kernel_rfl) moves_fit
    ⟨rfl, fun H ds h => by match ds, h with | [_, _, _, _, _], _ => exact ⟨rfl, rfl, rfl⟩⟩ (by kernel_rfl) (by kernel_rfl) laid (by decide +kernel) W base args ds gs before hval hW
theorem creepMoves_holds : Rows.CreepMovesSaid :=
  OpenClaim.holds_of_wide 3 Try.f3 rfl rfl rfl rfl rfl rfl rfl ⟨rfl, rfl, rfl, rfl, rfl⟩ rfl rfl rfl rfl rfl (by kernel_rfl) Try.func3 (by kernel_rfl)
    (of_decide_eq_true (by kernel_rfl)) (by unfold Func.isWrapper; first | (rw [if_pos (by decide +kernel)]; kernel_rfl) | (rw [if_neg (by decide +kernel)]; exact ⟨rfl, rfl⟩))
    (fun os started H enc _ => creepMoves_lifted os started H enc)
#print axioms creepMoves_holds
end Go.Proofs.Ytpgpaficdabmkaa
