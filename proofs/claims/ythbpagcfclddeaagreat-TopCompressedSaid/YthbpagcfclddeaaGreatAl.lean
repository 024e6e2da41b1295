import Derived.Test.YthbpagcfclddeaaGreatAk
set_option linter.unusedVariables false
set_option linter.unusedSimpArgs false
set_option linter.unusedSectionVars false

set_option maxRecDepth 100000
namespace Go.Sim.Le
open Go.RowKit Go.Proofs
abbrev seP : V := .row false 4 1 (rowGet1 [.row false 11 1 (tg [-118, -108, -98, -80, -60, -40, -30, -10, 15, 40, 65]), .row false 11 1 (tg [-118, -100, -80, -60, -40, -15, 10, 35, 60, 90, 1000000000000000]), .row false 11 1 (tg [-100, -100, -100, -75, -50, -25, 0, 30, 1000000000000000, 1000000000000000, 1000000000000000]), .row false 11 1 (tg [1000000000000000, 1000000000000000, 1000000000000000, 1000000000000000, 0, 0, 0, 1000000000000000, 1000000000000000, 1000000000000000, 1000000000000000])])
theorem k_e (env : Env) (F : Nat) (fu : Nat) : A3 env F (fu + 1) (-1) [.box 32 [.osl 3 0 11, .osl 4 0 11, .osl 5 0 11, .osl 6 0 11] true, .arr 3 1 11 (tg [-118, -108, -98, -80, -60, -40, -30, -10, 15, 40, 65]) true, .arr 3 1 11 (tg [-118, -100, -80, -60, -40, -15, 10, 35, 60, 90, 1000000000000000]) true, .arr 3 1 11 (tg [-100, -100, -100, -75, -50, -25, 0, 30, 1000000000000000, 1000000000000000, 1000000000000000]) true, .arr 3 1 11 (tg [1000000000000000, 1000000000000000, 1000000000000000, 1000000000000000, 0, 0, 0, 1000000000000000, 1000000000000000, 1000000000000000, 1000000000000000]) true] = some (.ret seP) := by kernel_rfl
theorem c58 (F d : Nat) : (E (F + 3000) (d + 59)).pf 58 [seL, seN] = some (.ret seP) := by
 have e : E (F + 3000) (d + 58) = Q F d := by
  have h := QE_eq (F + 2993) d 57
  rw [show d + 1 + 57 = d + 58 by omega] at h
  exact h
 rw [E_pf, e]
 refine Eq.trans (k_0 (Q F d) (F + 3000)) ?_
 refine Eq.trans (k3x0 F d (F + 3000) (F + 2999)) ?_
 refine Eq.trans (k3x1 F d (F + 3000) (F + 2998)) ?_
 refine Eq.trans (k3x2 F d (F + 3000) (F + 2997)) ?_
 refine Eq.trans (k3x3 F d (F + 3000) (F + 2996)) ?_
 refine Eq.trans (k3x4 F d (F + 3000) (F + 2995)) ?_
 refine Eq.trans (k3x5 F d (F + 3000) (F + 2994)) ?_
 refine Eq.trans (k3x6 F d (F + 3000) (F + 2993)) ?_
 refine Eq.trans (k3x7 F d (F + 3000) (F + 2992)) ?_
 refine Eq.trans (k3x8 F d (F + 3000) (F + 2991)) ?_
 refine Eq.trans (k3x9 F d (F + 3000) (F + 2990)) ?_
 refine Eq.trans (k3x10 F d (F + 3000) (F + 2989)) ?_
 refine Eq.trans (k3xe (Q F d) (F + 3000) (F + 2988)) ?_
 refine Eq.trans (k2 (Q F d) (F + 3000) (F + 2999)) ?_
 refine Eq.trans (k2x0 F d (F + 3000) (F + 2999) (F + 2999)) ?_
 refine Eq.trans (k2x1 F d (F + 3000) (F + 2999) (F + 2998)) ?_
 refine Eq.trans (k2x2 F d (F + 3000) (F + 2999) (F + 2997)) ?_
 refine Eq.trans (k2x3 F d (F + 3000) (F + 2999) (F + 2996)) ?_
 refine Eq.trans (k2x4 F d (F + 3000) (F + 2999) (F + 2995)) ?_
 refine Eq.trans (k2x5 F d (F + 3000) (F + 2999) (F + 2994)) ?_
 refine Eq.trans (k2x6 F d (F + 3000) (F + 2999) (F + 2993)) ?_
 refine Eq.trans (k2x7 F d (F + 3000) (F + 2999) (F + 2992)) ?_
 refine Eq.trans (k2x8 F d (F + 3000) (F + 2999) (F + 2991)) ?_
 refine Eq.trans (k2x9 F d (F + 3000) (F + 2999) (F + 2990)) ?_
 refine Eq.trans (k2x10 F d (F + 3000) (F + 2999) (F + 2989)) ?_
 refine Eq.trans (k2xe (Q F d) (F + 3000) (F + 2999) (F + 2988)) ?_
 refine Eq.trans (k1 (Q F d) (F + 3000) (F + 2998)) ?_
 refine Eq.trans (k1x0 F d (F + 3000) (F + 2998) (F + 2999)) ?_
 refine Eq.trans (k1x1 F d (F + 3000) (F + 2998) (F + 2998)) ?_
 refine Eq.trans (k1x2 F d (F + 3000) (F + 2998) (F + 2997)) ?_
 refine Eq.trans (k1x3 F d (F + 3000) (F + 2998) (F + 2996)) ?_
 refine Eq.trans (k1x4 F d (F + 3000) (F + 2998) (F + 2995)) ?_
 refine Eq.trans (k1x5 F d (F + 3000) (F + 2998) (F + 2994)) ?_
 refine Eq.trans (k1x6 F d (F + 3000) (F + 2998) (F + 2993)) ?_
 refine Eq.trans (k1x7 F d (F + 3000) (F + 2998) (F + 2992)) ?_
 refine Eq.trans (k1x8 F d (F + 3000) (F + 2998) (F + 2991)) ?_
 refine Eq.trans (k1x9 F d (F + 3000) (F + 2998) (F + 2990)) ?_
 refine Eq.trans (k1x10 F d (F + 3000) (F + 2998) (F + 2989)) ?_
 refine Eq.trans (k1xe (Q F d) (F + 3000) (F + 2998) (F + 2988)) ?_
 refine Eq.trans (k0 (Q F d) (F + 3000) (F + 2997)) ?_
 refine Eq.trans (k0x0 F d (F + 3000) (F + 2997) (F + 2999)) ?_
 refine Eq.trans (k0x1 F d (F + 3000) (F + 2997) (F + 2998)) ?_
 refine Eq.trans (k0x2 F d (F + 3000) (F + 2997) (F + 2997)) ?_
 refine Eq.trans (k0x3 F d (F + 3000) (F + 2997) (F + 2996)) ?_
 refine Eq.trans (k0x4 F d (F + 3000) (F + 2997) (F + 2995)) ?_
 refine Eq.trans (k0x5 F d (F + 3000) (F + 2997) (F + 2994)) ?_
 refine Eq.trans (k0x6 F d (F + 3000) (F + 2997) (F + 2993)) ?_
 refine Eq.trans (k0x7 F d (F + 3000) (F + 2997) (F + 2992)) ?_
 refine Eq.trans (k0x8 F d (F + 3000) (F + 2997) (F + 2991)) ?_
 refine Eq.trans (k0x9 F d (F + 3000) (F + 2997) (F + 2990)) ?_
 refine Eq.trans (k0x10 F d (F + 3000) (F + 2997) (F + 2989)) ?_
 refine Eq.trans (k0xe (Q F d) (F + 3000) (F + 2997) (F + 2988)) ?_
 exact (k_e (Q F d) (F + 3000) (F + 2996))
end Go.Sim.Le


set_option maxRecDepth 100000
namespace Go.Sim.Le
open Go.RowKit Go.Proofs
noncomputable def L9024x0 (env : Env) (F : Nat) (sp : Int) (st : Int) (e1 : Int) (e2 : Int) (nr : Nat) (nd : Nat) (wn : Nat) (nn : Nat) (gr : Nat → List V) (gd : Nat → List V) (gn : Nat → List V) (fu : Nat) (b0 : Bool) (k1 : Nat) (k2 : Nat) (g3 : Nat → List V) : Option Out := atLoop Tryz.prog (cfg F) env 24 [.r, .r, .r, .r, .r, .r, .r, .l, .r, .d] [] fu { tm := tmL 77 0 [(1, (.row false nn wn gn)), (2, (.optr 0 0 0)), (7, (.optr 1 0 0)), (8, (.optr 2 0 0)), (9, (.row true 0 0 (fun u18 => []))), (10, (.int .i64 st)), (42, (.int .i64 ((nd : Nat) : Int))), (43, (.int .i64 (0 : Int)))], hp := [(.box 79 [(.int .i64 sp), (.int .i64 st), (.int .i64 e1), (.int .i64 e2), (.row false nr 3 gr), (.row false nd 8 gd)] true), (.box 139 [(.int .i64 sp), (.int .i64 st), (.int .i64 e1), (.int .i64 e2), (.row false nr 3 gr), (.row false nd 8 gd), .nilm] false), (.box 140 [(.row b0 k1 k2 g3)] true)] }
theorem t9024 (env : Env) (F : Nat) (sp : Int) (st : Int) (e1 : Int) (e2 : Int) (nr : Nat) (nd : Nat) (wn : Nat) (nn : Nat) (gr : Nat → List V) (gd : Nat → List V) (gn : Nat → List V) : (evFun Tryz.prog (Go.Sim.Le.cfg F) env 24 [(.agg [(.int .i64 sp), (.int .i64 st), (.int .i64 e1), (.int .i64 e2), (.row false nr 3 gr), (.row false nd 8 gd)]), (.row false nn wn gn)]) =
 (tkOut (Go.Sim.Env.pf env 56 [(.agg [(.int .i64 sp), (.int .i64 st), (.int .i64 e1), (.int .i64 e2), (.row false nr 3 gr), (.row false nd 8 gd)])]) none (fun v13 => (tkBool v13 none fun b14 => (bif (!b14) then some (.ret (.tup [(.row true 0 0 (fun u15 => [])), (.int .i64 (0 : Int)), (.int .i64 (2 : Int))]))
   else (tkOut (Go.Sim.Env.pf env 57 [(.agg [(.int .i64 sp), (.int .i64 st), (.int .i64 e1), (.int .i64 e2), (.row false nr 3 gr), (.row false nd 8 gd)]), (.row false nn wn gn)]) none (fun v15 => (tkBool v15 none fun b16 => (bif (!b16) then some (.ret (.tup [(.row true 0 0 (fun u17 => [])), (.int .i64 (0 : Int)), (.int .i64 (2 : Int))]))
      else (tkOut (Go.Sim.Env.pf env 58 [(.rptr 1 7 (fun u17 => [(.int .i64 sp), (.int .i64 st), (.int .i64 e1), (.int .i64 e2), (.row false nr 3 gr), (.row false nd 8 gd), .nilm]) 0 0), (.row false nn wn gn)]) none (fun v17 => (tkRow v17 none fun nl18 n19 wd20 g21 => (bif (wd20 == 1) then (bif (decide ((0 : Int) < ((n19 : Nat) : Int))) then (tkCons (g21 0) none fun v22 r23 => (tkRow v22 none fun nl24 n25 wd26 g27 => (bif (wd26 == 1) then (bif (decide ((0 : Int) ≤ st)) then (bif (decide (st < ((n25 : Nat) : Int))) then (tkCons (g27 (Int.toNat st)) none fun v28 r29 => (tkInt v28 none fun q30 n31 => (bif (decide (q30 = .i64)) then (bif (n31 == (1000000000000000 : Int)) then some (.ret (.tup [(.row true 0 0 (fun u32 => [])), (.int .i64 (0 : Int)), (.int .i64 (5 : Int))]))
            else (L9024x0 env F sp st e1 e2 nr nd wn nn gr gd gn F nl18 n19 wd20 g21))
            else none)))
            else none)
            else none)
            else none)))
          else none)
         else none)))
       (fun p17 => (tkIfc p17 none fun t18 x19 => (bif (flatP (.iface t18 x19)) then some (.pan (.iface t18 x19))
         else none)))))))
    (fun p15 => (tkIfc p15 none fun t16 x17 => (bif (flatP (.iface t16 x17)) then some (.pan (.iface t16 x17))
      else none)))))))
 (fun p13 => (tkIfc p13 none fun t14 x15 => (bif (flatP (.iface t14 x15)) then some (.pan (.iface t14 x15))
   else none)))) := by kernel_rfl
noncomputable abbrev Q' (F d : Nat) : Env := QE (F + 3000) (E (F + 3000) (d + 1)) 58
theorem k24x56 (F d : Nat) : (Q' F d).pf 56 [.agg seC] = some (.ret (.bool true)) := by kernel_rfl
theorem k24x57 (F d : Nat) : (Q' F d).pf 57 [.agg seC, seN] = some (.ret (.bool true)) := by kernel_rfl
end Go.Sim.Le


set_option maxRecDepth 100000
namespace Go.Sim.Le
open Go.RowKit Go.Proofs
theorem k24 (F d G fu : Nat) : L9024x0 (Q' F d) G 10 4 4 6 2 3 1 3 (rowGet seR 3 2) (rowGet seD 8 3) (rowGet [.int .i64 0, .int .i64 (-1), .int .i64 0] 1 3) (fu + 4) false 4 1 (rowGet1 [.row false 11 1 (tg [-118, -108, -98, -80, -60, -40, -30, -10, 15, 40, 65]), .row false 11 1 (tg [-118, -100, -80, -60, -40, -15, 10, 35, 60, 90, 1000000000000000]), .row false 11 1 (tg [-100, -100, -100, -75, -50, -25, 0, 30, 1000000000000000, 1000000000000000, 1000000000000000]), .row false 11 1 (tg [1000000000000000, 1000000000000000, 1000000000000000, 1000000000000000, 0, 0, 0, 1000000000000000, 1000000000000000, 1000000000000000, 1000000000000000])]) = some (.ret (.tup [.row false 3 1 (tg [-4, 2, 3]), .int .i64 (-30), .int .i64 0])) := by kernel_rfl
end Go.Sim.Le


set_option maxRecDepth 100000
namespace Go.Sim.Le
open Go.RowKit Go.Proofs
open Go.Sim.Pl (tkOut_ret tkBool_b tkAgg_a tkTup_t tkCons_c tkInt_i tkRow_r tkNil_n)
theorem t9007 (env : Env) (F : Nat) : (evFun Tryz.prog (Go.Sim.Le.cfg F) env 7 []) =
 (tkOut (Go.Sim.Env.pf env 20 []) none (fun v2 => (tkAgg v2 none fun l3 => (tkCons l3 none fun v4 r5 => (tkInt v4 none fun q6 n7 => (tkCons r5 none fun v8 r9 => (tkInt v8 none fun q10 n11 => (tkCons r9 none fun v12 r13 => (tkInt v12 none fun q14 n15 => (tkCons r13 none fun v16 r17 => (tkInt v16 none fun q18 n19 => (tkCons r17 none fun v20 r21 => (tkInt v20 none fun q22 n23 => (tkCons r21 none fun v24 r25 => (tkInt v24 none fun q26 n27 => (tkCons r25 none fun v28 r29 => (tkInt v28 none fun q30 n31 => (tkCons r29 none fun v32 r33 => (tkInt v32 none fun q34 n35 => (tkCons r33 none fun v36 r37 => (tkInt v36 none fun q38 n39 => (tkCons r37 none fun v40 r41 => (tkInt v40 none fun q42 n43 => (tkCons r41 none fun v44 r45 => (tkInt v44 none fun q46 n47 => (tkNil r45 none ((tkOut (Go.Sim.Env.pf env 21 []) none (fun v48 => (tkAgg v48 none fun l49 => (tkCons l49 none fun v50 r51 => (tkInt v50 none fun q52 n53 => (tkCons r51 none fun v54 r55 => (tkInt v54 none fun q56 n57 => (tkCons r55 none fun v58 r59 => (tkInt v58 none fun q60 n61 => (tkCons r59 none fun v62 r63 => (tkInt v62 none fun q64 n65 => (tkCons r63 none fun v66 r67 => (tkInt v66 none fun q68 n69 => (tkCons r67 none fun v70 r71 => (tkInt v70 none fun q72 n73 => (tkCons r71 none fun v74 r75 => (tkInt v74 none fun q76 n77 => (tkCons r75 none fun v78 r79 => (tkInt v78 none fun q80 n81 => (tkNil r79 none ((tkOut (Go.Sim.Env.pf env 8 [(.agg [(.int q6 n7), (.int q10 n11), (.int q14 n15), (.int q18 n19), (.int q22 n23), (.int q26 n27), (.int q30 n31), (.int q34 n35), (.int q38 n39), (.int q42 n43), (.int q46 n47)]), (.agg [(.int q52 n53), (.int q56 n57), (.int q60 n61), (.int q64 n65), (.int q68 n69), (.int q72 n73), (.int q76 n77), (.int q80 n81)])]) none (fun v82 => (tkTup v82 none fun l83 => (tkCons l83 none fun v84 r85 => (tkAgg v84 none fun l86 => (tkCons l86 none fun v87 r88 => (tkInt v87 none fun q89 n90 => (tkCons r88 none fun v91 r92 => (tkInt v91 none fun q93 n94 => (tkNil r92 none ((tkCons r85 none fun v95 r96 => (tkAgg v95 none fun l97 => (tkCons l97 none fun v98 r99 => (tkInt v98 none fun q100 n101 => (tkCons r99 none fun v102 r103 => (tkInt v102 none fun q104 n105 => (tkNil r103 none ((tkCons r96 none fun v106 r107 => (tkInt v106 none fun q108 n109 => (tkNil r107 none ((tkOut (Go.Sim.Env.pf env 23 []) none (fun v110 => (tkAgg v110 none fun l111 => (tkCons l111 none fun v112 r113 => (tkInt v112 none fun q114 n115 => (tkCons r113 none fun v116 r117 => (tkInt v116 none fun q118 n119 => (tkCons r117 none fun v120 r121 => (tkRow v120 none fun nl122 n123 wd124 g125 => (tkNil r121 none ((tkOut (Go.Sim.Env.pf env 22 [(.agg [(.int q114 n115), (.int q118 n119), (.row nl122 n123 wd124 g125)]), (.int .i64 (281 : Int))]) none (fun v126 => (tkTup v126 none fun l127 => (tkCons l127 none fun v128 r129 => (tkInt v128 none fun q130 n131 => (tkCons r129 none fun v132 r133 => (tkInt v132 none fun q134 n135 => (tkNil r133 none ((tkOut (Go.Sim.Env.pf env 25 []) none (fun v136 => (tkAgg v136 none fun l137 => (tkCons l137 none fun v138 r139 => (tkInt v138 none fun q140 n141 => (tkCons r139 none fun v142 r143 => (tkInt v142 none fun q144 n145 => (tkCons r143 none fun v146 r147 => (tkInt v146 none fun q148 n149 => (tkCons r147 none fun v150 r151 => (tkInt v150 none fun q152 n153 => (tkCons r151 none fun v154 r155 => (tkRow v154 none fun nl156 n157 wd158 g159 => (tkCons r155 none fun v160 r161 => (tkRow v160 none fun nl162 n163 wd164 g165 => (tkNil r161 none ((tkOut (Go.Sim.Env.pf env 24 [(.agg [(.int q140 n141), (.int q144 n145), (.int q148 n149), (.int q152 n153), (.row nl156 n157 wd158 g159), (.row nl162 n163 wd164 g165)]), (.row false 3 1 (fun u166 => (List.take 1 (List.drop ((Min.min u166 2) * 1) [(.int .i64 (0 : Int)), (.int .i64 (-(1 : Int))), (.int .i64 (0 : Int))]))))]) none (fun v166 => (tkTup v166 none fun l167 => (tkCons l167 none fun v168 r169 => (tkRow v168 none fun nl170 n171 wd172 g173 => (tkCons r169 none fun v174 r175 => (tkInt v174 none fun q176 n177 => (tkCons r175 none fun v178 r179 => (tkInt v178 none fun q180 n181 => (tkNil r179 none ((bif (decide (q108 = .i64)) then (bif (n109 == (0 : Int)) then (bif (decide (q134 = .i64)) then (bif (n135 == (0 : Int)) then (bif (decide (q180 = .i64)) then (bif (n181 == (0 : Int)) then (bif (decide (q89 = .i64)) then (bif (decide (q93 = .i64)) then (bif ((n90 == (236949 : Int)) && ((n94 == (55 : Int)) && true)) then (bif (decide (q100 = .i64)) then (bif (decide (q104 = .i64)) then (bif ((n101 == (128867 : Int)) && ((n105 == (25 : Int)) && true)) then (bif (decide (q130 = .i64)) then (bif (n131 == (1 : Int)) then (tkOut (Go.Sim.Env.pf env 26 [(.row nl170 n171 wd172 g173), (.row false 3 1 (fun u182 => (List.take 1 (List.drop ((Min.min u182 2) * 1) [(.int .i64 (3 : Int)), (.int .i64 (2 : Int)), (.int .i64 (-(4 : Int)))]))))]) none (fun v182 => (tkBool v182 none fun b183 => (bif b183 then (bif (decide (q176 = .i64)) then some (.ret (.bool (n177 == (-(30 : Int)))))
            else none)
            else some (.ret (.bool false)))))
            (fun p182 => (tkIfc p182 none fun t183 x184 => (bif (flatP (.iface t183 x184)) then some (.pan (.iface t183 x184))
            else none))))
            else some (.ret (.bool false)))
            else none)
            else some (.ret (.bool false)))
            else none)
            else none)
            else some (.ret (.bool false)))
            else none)
            else none)
            else some (.ret (.bool false)))
            else none)
            else some (.ret (.bool false)))
            else none)
            else some (.ret (.bool false)))
            else none)))))))))))
            (fun p166 => (tkIfc p166 none fun t167 x168 => (bif (flatP (.iface t167 x168)) then some (.pan (.iface t167 x168))
            else none))))))))))))))))))))
            (fun p136 => (tkIfc p136 none fun t137 x138 => (bif (flatP (.iface t137 x138)) then some (.pan (.iface t137 x138))
            else none))))))))))))
            (fun p126 => (tkIfc p126 none fun t127 x128 => (bif (flatP (.iface t127 x128)) then some (.pan (.iface t127 x128))
            else none))))))))))))))
            (fun p110 => (tkIfc p110 none fun t111 x112 => (bif (flatP (.iface t111 x112)) then some (.pan (.iface t111 x112))
            else none))))))))))))))))))))))))))
            (fun p82 => (tkIfc p82 none fun t83 x84 => (bif (flatP (.iface t83 x84)) then some (.pan (.iface t83 x84))
            else none))))))))))))))))))))))))
            (fun p48 => (tkIfc p48 none fun t49 x50 => (bif (flatP (.iface t49 x50)) then some (.pan (.iface t49 x50))
            else none))))))))))))))))))))))))))))))
 (fun p2 => (tkIfc p2 none fun t3 x4 => (bif (flatP (.iface t3 x4)) then some (.pan (.iface t3 x4))
   else none)))) := by kernel_rfl
abbrev wellV : V := (.agg [(.int .i64 (5 : Int)), (.int .i64 (2 : Int)), (.row false 6 9 (fun u2 => (List.take 9 (List.drop ((Min.min u2 5) * 9) [(.int .i64 (0 : Int)), (.int .i64 (2 : Int)), (.bool true), (.bool false), (.int .i64 (100 : Int)), (.int .i64 (180 : Int)), (.bool false), (.int .i64 (2 : Int)), (.int .i64 (30 : Int)), (.int .i64 (2 : Int)), (.int .i64 (4 : Int)), (.bool true), (.bool false), (.int .i64 (100 : Int)), (.int .i64 (90 : Int)), (.bool false), (.int .i64 (1 : Int)), (.int .i64 (10 : Int)), (.int .i64 (4 : Int)), (.int .i64 (1 : Int)), (.bool true), (.bool false), (.int .i64 (150 : Int)), (.int .i64 (365 : Int)), (.bool false), (.int .i64 (1 : Int)), (.int .i64 (10 : Int)), (.int .i64 (0 : Int)), (.int .i64 (3 : Int)), (.bool false), (.bool false), (.int .i64 (0 : Int)), (.int .i64 (1000 : Int)), (.bool false), (.int .i64 (5 : Int)), (.int .i64 (90 : Int)), (.int .i64 (3 : Int)), (.int .i64 (1 : Int)), (.bool false), (.bool false), (.int .i64 (0 : Int)), (.int .i64 (1000 : Int)), (.bool false), (.int .i64 (5 : Int)), (.int .i64 (60 : Int)), (.int .i64 (2 : Int)), (.int .i64 (3 : Int)), (.bool false), (.bool false), (.int .i64 (0 : Int)), (.int .i64 (300 : Int)), (.bool false), (.int .i64 (5 : Int)), (.int .i64 (80 : Int))]))))])
abbrev cavV : V := .agg [.int .i64 1000, .int .i64 1100, .int .i64 2000, .int .i64 9000, .int .i64 900, .int .i64 1000, .int .i64 36, .int .i64 29, .int .i64 3200, .int .i64 0, .int .i64 100]
abbrev staV : V := .agg [.int .i64 2000, .int .i64 2100, .int .i64 100, .int .i64 110, .int .i64 3000, .int .i64 3100, .int .i64 50000, .int .i64 60000]
abbrev seN' : V := .row false 3 1 (fun u => (List.take 1 (List.drop ((Min.min u 2) * 1) [(.int .i64 (0 : Int)), (.int .i64 (-(1 : Int))), (.int .i64 (0 : Int))])))
abbrev seG' : V := .row false 3 1 (fun u => (List.take 1 (List.drop ((Min.min u 2) * 1) [(.int .i64 (3 : Int)), (.int .i64 (2 : Int)), (.int .i64 (-(4 : Int)))])))
variable (F d : Nat)
theorem c20 : (E (F + 3000) (d + 60)).pf 20 [] = some (.ret cavV) := by kernel_rfl
theorem c21 : (E (F + 3000) (d + 60)).pf 21 [] = some (.ret staV) := by kernel_rfl
theorem c23 : (E (F + 3000) (d + 60)).pf 23 [] = some (.ret wellV) := by kernel_rfl
theorem c25 : (E (F + 3000) (d + 60)).pf 25 [] = some (.ret (.agg seC)) := by kernel_rfl
theorem c8 : (E (F + 3000) (d + 60)).pf 8 [cavV, staV] = some (.ret (.tup [.agg [.int .i64 236949, .int .i64 55], .agg [.int .i64 128867, .int .i64 25], .int .i64 0])) := by kernel_rfl
theorem c26 : (E (F + 3000) (d + 60)).pf 26 [.row false 3 1 (tg [-4, 2, 3]), seG'] = some (.ret (.bool true)) := by kernel_rfl
theorem k24a (env : Env) (F : Nat) (h1 : env.pf 56 [.agg seC] = some (.ret (.bool true))) (h2 : env.pf 57 [.agg seC, seN] = some (.ret (.bool true))) (h3 : env.pf 58 [seL, seN] = some (.ret seP)) : evFun Tryz.prog (cfg F) env 24 [.agg seC, seN'] = L9024x0 env F 10 4 4 6 2 3 1 3 (rowGet seR 3 2) (rowGet seD 8 3) (rowGet [.int .i64 0, .int .i64 (-1), .int .i64 0] 1 3) F false 4 1 (rowGet1 [.row false 11 1 (tg [-118, -108, -98, -80, -60, -40, -30, -10, 15, 40, 65]), .row false 11 1 (tg [-118, -100, -80, -60, -40, -15, 10, 35, 60, 90, 1000000000000000]), .row false 11 1 (tg [-100, -100, -100, -75, -50, -25, 0, 30, 1000000000000000, 1000000000000000, 1000000000000000]), .row false 11 1 (tg [1000000000000000, 1000000000000000, 1000000000000000, 1000000000000000, 0, 0, 0, 1000000000000000, 1000000000000000, 1000000000000000, 1000000000000000])]) := by
 have h := t9024 env F 10 4 4 6 2 3 1 3 (rowGet seR 3 2) (rowGet seD 8 3) (rowGet [.int .i64 0, .int .i64 (-1), .int .i64 0] 1 3)
 refine Eq.trans h ?_
 rw [h1, tkOut_ret, tkBool_b, Bool.not_true, cond_false, h2, tkOut_ret, tkBool_b, Bool.not_true, cond_false, h3, tkOut_ret]
 kernel_rfl
theorem c24 : (E (F + 3000) (d + 60)).pf 24 [.agg seC, seN'] = some (.ret (.tup [.row false 3 1 (tg [-4, 2, 3]), .int .i64 (-30), .int .i64 0])) := by
 have e : E (F + 3000) (d + 59) = Q' F d := by
  have h := QE_eq (F + 2993) d 58
  rw [show d + 1 + 58 = d + 59 by omega] at h
  exact h
 have h1 := k24x56 F d
 have h2 := k24x57 F d
 have h3 := c58 F d
 have h4 := k24 F d (F + 3000) (F + 2996)
 rw [← e] at h1 h2 h4
 rw [E_pf]
 exact (k24a _ _ h1 h2 h3).trans h4
end Go.Sim.Le
