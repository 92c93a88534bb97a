/- What the program's functions answer: plain functions,and that the interpreter answers what they do. Written by a program of this session,out of the translation. -/
import Derived.Test.YticggdfaehneeaaVP11
namespace Go.Proofs.YticggdfaehneeaaV
open Go
set_option linter.unusedVariables false
set_option linter.unusedSimpArgs false
set_option maxRecDepth 8000
set_option maxHeartbeats 4000000
-- f18_aiirrzai10rzi: f18 heliograph/agent.Arrive
inductive R18_aiirrzai10rzi where
 | o0 (y y_1:Int) (y_2:List T65) (y_3 y_4 y_5 y_6 y_7 y_8 y_9 y_10 y_11 y_12 y_13:Int) (y_14:List Int) (y_15:Int) (y_16:List T39)
 | o1 (y y_1:Int) (y_2:List T65) (y_3:List T39) (y_4 y_5 y_6 y_7 y_8 y_9 y_10 y_11 y_12 y_13 y_14:Int) (y_15:List Int) (y_16:Int)
noncomputable def R18_aiirrzai10rzi.st : R18_aiirrzai10rzi → V × List O × List O
 | .o0 y y_1 y_2 y_3 y_4 y_5 y_6 y_7 y_8 y_9 y_10 y_11 y_12 y_13 y_14 y_15 y_16 => (V.tup [.agg [.p (.int .i64 y),.p (.int .u32 y_1),.sl 4 (rowsOf encT65 y_2),.own 2000000],.agg [.p (.int .i64 y_3),.p (.int .i64 y_4),.p (.int .i64 y_5),.p (.int .u32 y_6),.p (.int .i64 y_7),.p (.int .i64 y_8),.p (.int .i64 y_9),.p (.int .i64 y_10),.p (.int .i64 y_11),.p (.int .i64 y_12),.p (.int .i64 y_13),.sl 1 (rowsOf (encI .u8) y_14)],.p (.int .i64 y_15)],[],[.row true 11 39 (rowsOf encT39 y_16)])
 | .o1 y y_1 y_2 y_3 y_4 y_5 y_6 y_7 y_8 y_9 y_10 y_11 y_12 y_13 y_14 y_15 y_16 => (V.tup [.agg [.p (.int .i64 y),.p (.int .u32 y_1),.sl 4 (rowsOf encT65 y_2),.sl 11 (rowsOf encT39 y_3)],.agg [.p (.int .i64 y_4),.p (.int .i64 y_5),.p (.int .i64 y_6),.p (.int .u32 y_7),.p (.int .i64 y_8),.p (.int .i64 y_9),.p (.int .i64 y_10),.p (.int .i64 y_11),.p (.int .i64 y_12),.p (.int .i64 y_13),.p (.int .i64 y_14),.sl 1 (rowsOf (encI .u8) y_15)],.p (.int .i64 y_16)],[],[])
noncomputable def f18_aiirrzai10rzi_j1 (k:Nat) (x2 x9:Int) (x14:Bool) (m3 m3_1:Int) (m3_2:List T65) (m3_3:List T39) (m4 m4_1 m4_2 m4_3 m4_4 m4_5 m4_6 m4_7 m4_8 m4_9:Int) (m4_10:List Int) (m6 m6_1:Int) (m6_2:List T65) (s1:List T39) (m7 m7_1 m7_2 m7_3 m7_4 m7_5 m7_6 m7_7 m7_8 m7_9 m7_10:Int) (m7_11:List Int) : Option R18_aiirrzai10rzi :=
 Option.bind (f26_aiirrz k m3 m3_1 m3_2 m3_3) fun o1 =>
  match o1 with
  | .o0 v4 v5 v6 v7 =>
   Option.bind (f32_pai10rzi_biiooww k m4 m4_1 m4_2 m4_3 m4_4 m4_5 m4_6 m4_7 m4_8 m4_9 m4_10 x2 v4 v5 v6 v7) fun o8 =>
    match o8 with
    | .o0 v11 v12 v13 v14 v15 v16 v17 v18 v19 v20 v21 v22 v23 v24 v25 v26 =>
     some (R18_aiirrzai10rzi.o1 v23 v24 v25 v26 v11 v12 v13 v14 v15 v16 v17 v18 v19 v20 v21 v22 0)
    | .o1 v27 v28 v29 v30 v31 v32 v33 v34 v35 v36 v37 v38 v39 v40 v41 v42 =>
     some (R18_aiirrzai10rzi.o1 v38 v39 v42 v40 v27 v28 v29 v30 v31 v32 v33 v34 v35 v36 v37 v41 0)
    | .o2 v43 v44 v45 v46 v47 v48 v49 v50 v51 v52 v53 v54 v55 v56 v57 v58 v59 v60 =>
     ifE ((v56 + v57) ≤ (List.length v60)) (
      some (R18_aiirrzai10rzi.o1 v54 v55 (List.take v57 (List.drop v56 v60)) v58 v43 v44 v45 v46 v47 v48 v49 v50 v51 v52 v53 v59 0))
    | .o3 v62 v63 v64 v65 v66 v67 v68 v69 v70 v71 v72 v73 v74 v75 v76 v77 =>
     some (R18_aiirrzai10rzi.o1 v74 v75 v77 v76 v62 v63 v64 v65 v66 v67 v68 v69 v70 v71 v72 v73 0)
    | .o4 v78 v79 v80 v81 v82 v83 v84 v85 v86 v87 v88 v89 v90 v91 v92 v93 v94 v95 =>
     ifE ((v92 + v93) ≤ (List.length v95)) (
      some (R18_aiirrzai10rzi.o1 v90 v91 (List.take v93 (List.drop v92 v95)) v94 v78 v79 v80 v81 v82 v83 v84 v85 v86 v87 v88 v89 0))
    | .o5 v97 v98 v99 v100 v101 v102 v103 v104 v105 v106 v107 v108 v109 v110 v111 v112 v113 v114 =>
     ifE ((v111 + v112) ≤ (List.length v113)) (
      some (R18_aiirrzai10rzi.o1 v109 v110 v114 (List.take v112 (List.drop v111 v113)) v97 v98 v99 v100 v101 v102 v103 v104 v105 v106 v107 v108 0))
    | .o6 v116 v117 v118 v119 v120 v121 v122 v123 v124 v125 v126 v127 v128 v129 v130 v131 v132 v133 v134 v135 =>
     ifE ((v130 + v131) ≤ (List.length v135)) (
      ifE ((v132 + v133) ≤ (List.length v134)) (
       some (R18_aiirrzai10rzi.o1 v128 v129 (List.take v131 (List.drop v130 v135)) (List.take v133 (List.drop v132 v134)) v116 v117 v118 v119 v120 v121 v122 v123 v124 v125 v126 v127 0)))
    | .o7 v138 v139 v140 v141 v142 v143 v144 v145 v146 v147 v148 v149 v150 v151 v152 v153 =>
     some (R18_aiirrzai10rzi.o1 v150 v151 v152 v153 v138 v139 v140 v141 v142 v143 v144 v145 v146 v147 v148 v149 0)
    | .o8 v154 v155 v156 v157 v158 v159 v160 v161 v162 v163 v164 v165 v166 v167 v168 v169 v170 v171 =>
     ifE ((v168 + v169) ≤ (List.length v170)) (
      some (R18_aiirrzai10rzi.o1 v166 v167 (List.take v169 (List.drop v168 v170)) v171 v154 v155 v156 v157 v158 v159 v160 v161 v162 v163 v164 v165 0))
    | .o9 v173 v174 v175 v176 v177 v178 v179 v180 v181 v182 v183 v184 v185 v186 v187 v188 =>
     some (R18_aiirrzai10rzi.o1 v184 v185 v188 v186 v173 v174 v175 v176 v177 v178 v179 v180 v181 v182 v183 v187 0)
    | .o10 v189 v190 v191 v192 v193 v194 v195 v196 v197 v198 v199 v200 v201 v202 v203 v204 v205 v206 =>
     ifE ((v202 + v203) ≤ (List.length v204)) (
      some (R18_aiirrzai10rzi.o1 v200 v201 v206 (List.take v203 (List.drop v202 v204)) v189 v190 v191 v192 v193 v194 v195 v196 v197 v198 v199 v205 0))
    | .o11 v208 v209 v210 v211 v212 v213 v214 v215 v216 v217 v218 v219 v220 v221 v222 v223 v224 v225 =>
     ifE ((v221 + v222) ≤ (List.length v225)) (
      some (R18_aiirrzai10rzi.o1 v219 v220 (List.take v222 (List.drop v221 v225)) v223 v208 v209 v210 v211 v212 v213 v214 v215 v216 v217 v218 v224 0))
    | .o12 v227 v228 v229 v230 v231 v232 v233 v234 v235 v236 v237 v238 v239 v240 v241 v242 v243 v244 v245 v246 =>
     ifE ((v240 + v241) ≤ (List.length v246)) (
      ifE ((v242 + v243) ≤ (List.length v244)) (
       some (R18_aiirrzai10rzi.o1 v238 v239 (List.take v241 (List.drop v240 v246)) (List.take v243 (List.drop v242 v244)) v227 v228 v229 v230 v231 v232 v233 v234 v235 v236 v237 v245 0)))
theorem f18_aiirrzai10rzi_j1_ok (k:Nat) (x2 x9:Int) (x14:Bool) (m3 m3_1:Int) (m3_2:List T65) (m3_3:List T39) (m4 m4_1 m4_2 m4_3 m4_4 m4_5 m4_6 m4_7 m4_8 m4_9:Int) (m4_10:List Int) (m6 m6_1:Int) (m6_2:List T65) (s1:List T39) (m7 m7_1 m7_2 m7_3 m7_4 m7_5 m7_6 m7_7 m7_8 m7_9 m7_10:Int) (m7_11:List Int) (r:R18_aiirrzai10rzi) (hF:f18_aiirrzai10rzi_j1 k x2 x9 x14 m3 m3_1 m3_2 m3_3 m4 m4_1 m4_2 m4_3 m4_4 m4_5 m4_6 m4_7 m4_8 m4_9 m4_10 m6 m6_1 m6_2 s1 m7 m7_1 m7_2 m7_3 m7_4 m7_5 m7_6 m7_7 m7_8 m7_9 m7_10 m7_11 = some r) : finK Try.prog Try.f18 0 (EX 18 k (nav B18 [2,2]) (⟨25,[(2,.p (.int .i64 x2)),(3,.ptr 3 0),(4,.ptr 4 0),(6,.ptr 6 0),(7,.ptr 7 0),(9,.p (.int .i64 x9)),(14,.p (.bool x14))],[(3,.box 26 [.p (.int .i64 m3),.p (.int .u32 m3_1),.sl 4 (rowsOf encT65 m3_2),.sl 11 (rowsOf encT39 m3_3)]),(4,.box 39 [.p (.int .i64 m4),.p (.int .i64 m4_1),.p (.int .u32 m4_2),.p (.int .i64 m4_3),.p (.int .i64 m4_4),.p (.int .i64 m4_5),.p (.int .i64 m4_6),.p (.int .i64 m4_7),.p (.int .i64 m4_8),.p (.int .i64 m4_9),.sl 1 (rowsOf (encI .u8) m4_10)]),(6,.box 26 [.p (.int .i64 m6),.p (.int .u32 m6_1),.sl 4 (rowsOf encT65 m6_2),.own 700001]),(700001,.row true 11 39 (rowsOf encT39 s1)),(7,.box 48 [.p (.int .i64 m7),.p (.int .i64 m7_1),.p (.int .i64 m7_2),.p (.int .u32 m7_3),.p (.int .i64 m7_4),.p (.int .i64 m7_5),.p (.int .i64 m7_6),.p (.int .i64 m7_7),.p (.int .i64 m7_8),.p (.int .i64 m7_9),.p (.int .i64 m7_10),.sl 1 (rowsOf (encI .u8) m7_11)])]⟩ : St)) = some r.st := by
 unfold f18_aiirrzai10rzi_j1 at hF
 obtain ⟨o1,h2,hF⟩ := bs hF
 have hc3 := f26_aiirrz_ok k m3 m3_1 m3_2 m3_3 _ h2
 cases o1 with
 | o0 v4 v5 v6 v7 =>
  (try dsimp only at hF)
  (try simp only [NM,EE,R26_aiirrz.st] at hc3)
  simp (maxSteps:=999999) (disch:=first|exact D (by decide)|exact K (by kernel_rfl)) only [E,EE,↓reduceIte,simprocAttr,xk B18 [2,2] .sq rfl,rg B18 [1,2,2] 4 false rfl,hr_18_4,t_26,callStep,CL,gv,List.contains,xk B18 [2,2,2] .sq rfl,rg B18 [1,2,2,2] 5 false rfl,hr_18_5,t_39,hc3]
  obtain ⟨o8,h9,hF⟩ := bs hF
  have hc10 := f32_pai10rzi_biiooww_ok k m4 m4_1 m4_2 m4_3 m4_4 m4_5 m4_6 m4_7 m4_8 m4_9 m4_10 x2 v4 v5 v6 v7 _ h9
  cases o8 with
  | o0 v11 v12 v13 v14 v15 v16 v17 v18 v19 v20 v21 v22 v23 v24 v25 v26 =>
   (try dsimp only at hF)
   (try simp only [NM,EE,R32_pai10rzi_biiooww.st] at hc10)
   cases hF
   simp (maxSteps:=999999) (disch:=first|exact D (by decide)|exact K (by kernel_rfl)) only [E,EE,↓reduceIte,simprocAttr,t_48,xk B18 [2,2,2,2] .sq rfl,rg B18 [1,2,2,2,2] 6 true rfl,hr_18_6,t_26,xk B18 [2,2,2,2,2] .rt rfl,finK_norm,finK_ret,fin18,R18_aiirrzai10rzi.st,hc3,hc10]
  | o1 v27 v28 v29 v30 v31 v32 v33 v34 v35 v36 v37 v38 v39 v40 v41 v42 =>
   (try dsimp only at hF)
   (try simp only [NM,EE,R32_pai10rzi_biiooww.st] at hc10)
   cases hF
   simp (maxSteps:=999999) (disch:=first|exact D (by decide)|exact K (by kernel_rfl)) only [E,EE,↓reduceIte,simprocAttr,t_48,xk B18 [2,2,2,2] .sq rfl,rg B18 [1,2,2,2,2] 6 true rfl,hr_18_6,t_26,xk B18 [2,2,2,2,2] .rt rfl,finK_norm,finK_ret,fin18,R18_aiirrzai10rzi.st,hc3,hc10]
  | o2 v43 v44 v45 v46 v47 v48 v49 v50 v51 v52 v53 v54 v55 v56 v57 v58 v59 v60 =>
   (try dsimp only at hF)
   (try simp only [NM,EE,R32_pai10rzi_biiooww.st] at hc10)
   obtain ⟨h61,hF⟩ := ifE_some.1 hF
   cases hF
   simp (maxSteps:=999999) (disch:=first|exact D (by decide)|exact K (by kernel_rfl)) only [E,EE,↓reduceIte,simprocAttr,t_48,xk B18 [2,2,2,2] .sq rfl,rg B18 [1,2,2,2,2] 6 true rfl,hr_18_6,t_26,xk B18 [2,2,2,2,2] .rt rfl,finK_norm,finK_ret,fin18,R18_aiirrzai10rzi.st,hc3,hc10,h61]
  | o3 v62 v63 v64 v65 v66 v67 v68 v69 v70 v71 v72 v73 v74 v75 v76 v77 =>
   (try dsimp only at hF)
   (try simp only [NM,EE,R32_pai10rzi_biiooww.st] at hc10)
   cases hF
   simp (maxSteps:=999999) (disch:=first|exact D (by decide)|exact K (by kernel_rfl)) only [E,EE,↓reduceIte,simprocAttr,t_48,xk B18 [2,2,2,2] .sq rfl,rg B18 [1,2,2,2,2] 6 true rfl,hr_18_6,t_26,xk B18 [2,2,2,2,2] .rt rfl,finK_norm,finK_ret,fin18,R18_aiirrzai10rzi.st,hc3,hc10]
  | o4 v78 v79 v80 v81 v82 v83 v84 v85 v86 v87 v88 v89 v90 v91 v92 v93 v94 v95 =>
   (try dsimp only at hF)
   (try simp only [NM,EE,R32_pai10rzi_biiooww.st] at hc10)
   obtain ⟨h96,hF⟩ := ifE_some.1 hF
   cases hF
   simp (maxSteps:=999999) (disch:=first|exact D (by decide)|exact K (by kernel_rfl)) only [E,EE,↓reduceIte,simprocAttr,t_48,xk B18 [2,2,2,2] .sq rfl,rg B18 [1,2,2,2,2] 6 true rfl,hr_18_6,t_26,xk B18 [2,2,2,2,2] .rt rfl,finK_norm,finK_ret,fin18,R18_aiirrzai10rzi.st,hc3,hc10,h96]
  | o5 v97 v98 v99 v100 v101 v102 v103 v104 v105 v106 v107 v108 v109 v110 v111 v112 v113 v114 =>
   (try dsimp only at hF)
   (try simp only [NM,EE,R32_pai10rzi_biiooww.st] at hc10)
   obtain ⟨h115,hF⟩ := ifE_some.1 hF
   cases hF
   simp (maxSteps:=999999) (disch:=first|exact D (by decide)|exact K (by kernel_rfl)) only [E,EE,↓reduceIte,simprocAttr,t_48,xk B18 [2,2,2,2] .sq rfl,rg B18 [1,2,2,2,2] 6 true rfl,hr_18_6,t_26,xk B18 [2,2,2,2,2] .rt rfl,finK_norm,finK_ret,fin18,R18_aiirrzai10rzi.st,hc3,hc10,h115]
  | o6 v116 v117 v118 v119 v120 v121 v122 v123 v124 v125 v126 v127 v128 v129 v130 v131 v132 v133 v134 v135 =>
   (try dsimp only at hF)
   (try simp only [NM,EE,R32_pai10rzi_biiooww.st] at hc10)
   obtain ⟨h136,hF⟩ := ifE_some.1 hF
   obtain ⟨h137,hF⟩ := ifE_some.1 hF
   cases hF
   simp (maxSteps:=999999) (disch:=first|exact D (by decide)|exact K (by kernel_rfl)) only [E,EE,↓reduceIte,simprocAttr,t_48,xk B18 [2,2,2,2] .sq rfl,rg B18 [1,2,2,2,2] 6 true rfl,hr_18_6,t_26,xk B18 [2,2,2,2,2] .rt rfl,finK_norm,finK_ret,fin18,R18_aiirrzai10rzi.st,hc3,hc10,h136,h137]
  | o7 v138 v139 v140 v141 v142 v143 v144 v145 v146 v147 v148 v149 v150 v151 v152 v153 =>
   (try dsimp only at hF)
   (try simp only [NM,EE,R32_pai10rzi_biiooww.st] at hc10)
   cases hF
   simp (maxSteps:=999999) (disch:=first|exact D (by decide)|exact K (by kernel_rfl)) only [E,EE,↓reduceIte,simprocAttr,t_48,xk B18 [2,2,2,2] .sq rfl,rg B18 [1,2,2,2,2] 6 true rfl,hr_18_6,t_26,xk B18 [2,2,2,2,2] .rt rfl,finK_norm,finK_ret,fin18,R18_aiirrzai10rzi.st,hc3,hc10]
  | o8 v154 v155 v156 v157 v158 v159 v160 v161 v162 v163 v164 v165 v166 v167 v168 v169 v170 v171 =>
   (try dsimp only at hF)
   (try simp only [NM,EE,R32_pai10rzi_biiooww.st] at hc10)
   obtain ⟨h172,hF⟩ := ifE_some.1 hF
   cases hF
   simp (maxSteps:=999999) (disch:=first|exact D (by decide)|exact K (by kernel_rfl)) only [E,EE,↓reduceIte,simprocAttr,t_48,xk B18 [2,2,2,2] .sq rfl,rg B18 [1,2,2,2,2] 6 true rfl,hr_18_6,t_26,xk B18 [2,2,2,2,2] .rt rfl,finK_norm,finK_ret,fin18,R18_aiirrzai10rzi.st,hc3,hc10,h172]
  | o9 v173 v174 v175 v176 v177 v178 v179 v180 v181 v182 v183 v184 v185 v186 v187 v188 =>
   (try dsimp only at hF)
   (try simp only [NM,EE,R32_pai10rzi_biiooww.st] at hc10)
   cases hF
   simp (maxSteps:=999999) (disch:=first|exact D (by decide)|exact K (by kernel_rfl)) only [E,EE,↓reduceIte,simprocAttr,t_48,xk B18 [2,2,2,2] .sq rfl,rg B18 [1,2,2,2,2] 6 true rfl,hr_18_6,t_26,xk B18 [2,2,2,2,2] .rt rfl,finK_norm,finK_ret,fin18,R18_aiirrzai10rzi.st,hc3,hc10]
  | o10 v189 v190 v191 v192 v193 v194 v195 v196 v197 v198 v199 v200 v201 v202 v203 v204 v205 v206 =>
   (try dsimp only at hF)
   (try simp only [NM,EE,R32_pai10rzi_biiooww.st] at hc10)
   obtain ⟨h207,hF⟩ := ifE_some.1 hF
   cases hF
   simp (maxSteps:=999999) (disch:=first|exact D (by decide)|exact K (by kernel_rfl)) only [E,EE,↓reduceIte,simprocAttr,t_48,xk B18 [2,2,2,2] .sq rfl,rg B18 [1,2,2,2,2] 6 true rfl,hr_18_6,t_26,xk B18 [2,2,2,2,2] .rt rfl,finK_norm,finK_ret,fin18,R18_aiirrzai10rzi.st,hc3,hc10,h207]
  | o11 v208 v209 v210 v211 v212 v213 v214 v215 v216 v217 v218 v219 v220 v221 v222 v223 v224 v225 =>
   (try dsimp only at hF)
   (try simp only [NM,EE,R32_pai10rzi_biiooww.st] at hc10)
   obtain ⟨h226,hF⟩ := ifE_some.1 hF
   cases hF
   simp (maxSteps:=999999) (disch:=first|exact D (by decide)|exact K (by kernel_rfl)) only [E,EE,↓reduceIte,simprocAttr,t_48,xk B18 [2,2,2,2] .sq rfl,rg B18 [1,2,2,2,2] 6 true rfl,hr_18_6,t_26,xk B18 [2,2,2,2,2] .rt rfl,finK_norm,finK_ret,fin18,R18_aiirrzai10rzi.st,hc3,hc10,h226]
  | o12 v227 v228 v229 v230 v231 v232 v233 v234 v235 v236 v237 v238 v239 v240 v241 v242 v243 v244 v245 v246 =>
   (try dsimp only at hF)
   (try simp only [NM,EE,R32_pai10rzi_biiooww.st] at hc10)
   obtain ⟨h247,hF⟩ := ifE_some.1 hF
   obtain ⟨h248,hF⟩ := ifE_some.1 hF
   cases hF
   simp (maxSteps:=999999) (disch:=first|exact D (by decide)|exact K (by kernel_rfl)) only [E,EE,↓reduceIte,simprocAttr,t_48,xk B18 [2,2,2,2] .sq rfl,rg B18 [1,2,2,2,2] 6 true rfl,hr_18_6,t_26,xk B18 [2,2,2,2,2] .rt rfl,finK_norm,finK_ret,fin18,R18_aiirrzai10rzi.st,hc3,hc10,h247,h248]
noncomputable def f18_aiirrzai10rzi_e (k:Nat) (a0 a0_1:Int) (a0_2:List T65) (a0_3:List T39) (a1 a1_1 a1_2 a1_3 a1_4 a1_5 a1_6 a1_7 a1_8 a1_9:Int) (a1_10:List Int) (a2:Int) : Option R18_aiirrzai10rzi :=
 Option.bind (f19_aiirrz k a0 a0_1 a0_2 a0_3) fun o1 =>
  match o1 with
  | .o0 v4 =>
   cond ((v4 != 0))
    (some (R18_aiirrzai10rzi.o0 0 0 [] 0 0 0 0 0 0 0 0 0 0 0 [] v4 []))
    (f18_aiirrzai10rzi_j1 k a2 v4 false a0 a0_1 a0_2 a0_3 a1 a1_1 a1_2 a1_3 a1_4 a1_5 a1_6 a1_7 a1_8 a1_9 a1_10 0 0 [] [] 0 0 0 0 0 0 0 0 0 0 0 [])
theorem f18_aiirrzai10rzi_e_ok (k:Nat) (a0 a0_1:Int) (a0_2:List T65) (a0_3:List T39) (a1 a1_1 a1_2 a1_3 a1_4 a1_5 a1_6 a1_7 a1_8 a1_9:Int) (a1_10:List Int) (a2:Int) (r:R18_aiirrzai10rzi) (hF:f18_aiirrzai10rzi_e k a0 a0_1 a0_2 a0_3 a1 a1_1 a1_2 a1_3 a1_4 a1_5 a1_6 a1_7 a1_8 a1_9 a1_10 a2 = some r) : finK Try.prog Try.f18 0 (EX 18 k (nav B18 []) (⟨25,[(0,.agg [.p (.int .i64 a0),.p (.int .u32 a0_1),.sl 4 (rowsOf encT65 a0_2),.sl 11 (rowsOf encT39 a0_3)]),(1,.agg [.p (.int .i64 a1),.p (.int .i64 a1_1),.p (.int .u32 a1_2),.p (.int .i64 a1_3),.p (.int .i64 a1_4),.p (.int .i64 a1_5),.p (.int .i64 a1_6),.p (.int .i64 a1_7),.p (.int .i64 a1_8),.p (.int .i64 a1_9),.sl 1 (rowsOf (encI .u8) a1_10)]),(2,.p (.int .i64 a2))],[]⟩ : St)) = some r.st := by
 unfold f18_aiirrzai10rzi_e at hF
 obtain ⟨o1,h2,hF⟩ := bs hF
 have hc3 := f19_aiirrz_ok k a0 a0_1 a0_2 a0_3 _ h2
 cases o1 with
 | o0 v4 =>
  (try dsimp only at hF)
  (try simp only [NM,EE,R19_aiirrz.st] at hc3)
  simp (maxSteps:=999999) (disch:=first|exact D (by decide)|exact K (by kernel_rfl)) only [E,EE,↓reduceIte,simprocAttr,xk B18 [] .sq rfl,rg B18 [1] 0 false rfl,hr_18_0,t_26,t_48,xk B18 [2] .sq rfl,xk B18 [1,2] .sq rfl,rg B18 [1,1,2] 1 false rfl,hr_18_1,callStep,CL,gv,List.contains,xk B18 [2,1,2] .sq rfl,rg B18 [1,2,1,2] 2 false rfl,hr_18_2,xk B18 [2,2,1,2] (.cd 14) rfl,hc3]
  rcases cond_some hF with ⟨h5,hF⟩ | ⟨h5,hF⟩
  ·cases hF
   simp (maxSteps:=999999) (disch:=first|exact D (by decide)|exact K (by kernel_rfl)) only [E,EE,↓reduceIte,simprocAttr,xk B18 [2,2,2,1,2] .sq rfl,rg B18 [1,2,2,2,1,2] 3 false rfl,hr_18_3,bl_26,t_26,bl_48,t_48,xk B18 [2,2,2,2,1,2] .rt rfl,finK_norm,finK_ret,fin18,R18_aiirrzai10rzi.st,hc3,h5]
  ·have hJ := f18_aiirrzai10rzi_j1_ok k a2 v4 false a0 a0_1 a0_2 a0_3 a1 a1_1 a1_2 a1_3 a1_4 a1_5 a1_6 a1_7 a1_8 a1_9 a1_10 0 0 [] [] 0 0 0 0 0 0 0 0 0 0 0 [] _ hF
   simp (maxSteps:=999999) (disch:=first|exact D (by decide)|exact K (by kernel_rfl)) only [E,EE,↓reduceIte,simprocAttr,xk B18 [3,2,2,1,2] .sk rfl,hc3,h5]
   try simp only [NM,EE] at hJ
   exact hJ
noncomputable def f18_aiirrzai10rzi (k:Nat) (a0 a0_1:Int) (a0_2:List T65) (a0_3:List T39) (a1 a1_1 a1_2 a1_3 a1_4 a1_5 a1_6 a1_7 a1_8 a1_9:Int) (a1_10:List Int) (a2:Int) : Option R18_aiirrzai10rzi := match k with | 0 => none | k + 1 => f18_aiirrzai10rzi_e k a0 a0_1 a0_2 a0_3 a1 a1_1 a1_2 a1_3 a1_4 a1_5 a1_6 a1_7 a1_8 a1_9 a1_10 a2
theorem f18_aiirrzai10rzi_ok (k:Nat) (a0 a0_1:Int) (a0_2:List T65) (a0_3:List T39) (a1 a1_1 a1_2 a1_3 a1_4 a1_5 a1_6 a1_7 a1_8 a1_9:Int) (a1_10:List Int) (a2:Int) (r:R18_aiirrzai10rzi) (hF:f18_aiirrzai10rzi k a0 a0_1 a0_2 a0_3 a1 a1_1 a1_2 a1_3 a1_4 a1_5 a1_6 a1_7 a1_8 a1_9 a1_10 a2 = some r) : CV k 18 [.agg [.p (.int .i64 a0),.p (.int .u32 a0_1),.sl 4 (rowsOf encT65 a0_2),.sl 11 (rowsOf encT39 a0_3)],.agg [.p (.int .i64 a1),.p (.int .i64 a1_1),.p (.int .u32 a1_2),.p (.int .i64 a1_3),.p (.int .i64 a1_4),.p (.int .i64 a1_5),.p (.int .i64 a1_6),.p (.int .i64 a1_7),.p (.int .i64 a1_8),.p (.int .i64 a1_9),.sl 1 (rowsOf (encI .u8) a1_10)],.p (.int .i64 a2)] [] = some r.st := by
 cases k with
 | zero => cases hF
 | succ k =>
  unfold CV
  rw [ev_call (F := Try.f18) (c := (nav B18 [])) rfl Try.func18 rfl rfl rfl rfl]
  exact f18_aiirrzai10rzi_e_ok k a0 a0_1 a0_2 a0_3 a1 a1_1 a1_2 a1_3 a1_4 a1_5 a1_6 a1_7 a1_8 a1_9 a1_10 a2 r hF
-- f39_rr: f39 slices.Equal[[]heliograph/api.Seen,heliograph/api.Seen]
inductive R39_rr where
 | o0 (y:Bool)
noncomputable def R39_rr.st : R39_rr → V × List O × List O
 | .o0 y => (.p (.bool y),[],[])
inductive R39_rr_l2 where
 | o0 (y:Bool)
 | o1 (y y_1:List T65) (y_2 y_3:Int)
 | o2 (y y_1:List T65) (y_2 y_3:Int) (y_4:Bool)
noncomputable def R39_rr_l2.st : R39_rr_l2 → Out × St
 | .o0 y => (.ret,(⟨26,[(4,.p (.bool y))],[]⟩ : St))
 | .o1 y y_1 y_2 y_3 => (.norm,(⟨26,[(0,.sl 4 (rowsOf encT65 y)),(1,.sl 4 (rowsOf encT65 y_1)),(12,.p (.int .i64 y_2)),(13,.p (.int .i64 y_3))],[]⟩ : St))
 | .o2 y y_1 y_2 y_3 y_4 => (.exit 0,(⟨26,[(0,.sl 4 (rowsOf encT65 y)),(1,.sl 4 (rowsOf encT65 y_1)),(12,.p (.int .i64 y_2)),(13,.p (.int .i64 y_3)),(14,.p (.bool y_4))],[]⟩ : St))
noncomputable def f39_rr_l2_j2 (k:Nat) (x0 x1:List T65) (x12 x13:Int) (x24:Bool) : Option R39_rr_l2 :=
 some (R39_rr_l2.o1 x0 x1 x12 (IntKind.i64.wrap (x13 + (1:Int))))
theorem f39_rr_l2_j2_ok (k:Nat) (x0 x1:List T65) (x12 x13:Int) (x24:Bool) (r:R39_rr_l2) (hF:f39_rr_l2_j2 k x0 x1 x12 x13 x24 = some r) : EX 39 k (nav B39 [2,2,2,1,2,2,1,2,2]) (⟨26,[(0,.sl 4 (rowsOf encT65 x0)),(1,.sl 4 (rowsOf encT65 x1)),(12,.p (.int .i64 x12)),(13,.p (.int .i64 x13)),(24,.p (.bool x24))],[]⟩ : St) = some r.st := by
 unfold f39_rr_l2_j2 at hF
 cases hF
 simp (maxSteps:=999999) (disch:=first|exact D (by decide)|exact K (by kernel_rfl)) only [E,EE,↓reduceIte,simprocAttr,rg B39 [2,2,2,1,2,2,1,2,2] 8 false rfl,hr_39_8,R39_rr_l2.st]
noncomputable def f39_rr_l2_j1 (k:Nat) (x0 x1:List T65) (x12 x13:Int) (x14:Bool) : Option R39_rr_l2 :=
 ifE ((0:Int) ≤ x13) (
  Option.bind (x0[(Int.toNat x13)]?) fun v2 =>
   Option.bind (x1[(Int.toNat x13)]?) fun v4 =>
    cond ((!(((v2.Key_Source == v4.Key_Source) && ((v2.Key_Seq == v4.Key_Seq) && (v2.Key_Offset == v4.Key_Offset))) && (v2.N == v4.N))))
     (some (R39_rr_l2.o0 false))
     (f39_rr_l2_j2 k x0 x1 x12 x13 false))
theorem f39_rr_l2_j1_ok (k:Nat) (x0 x1:List T65) (x12 x13:Int) (x14:Bool) (r:R39_rr_l2) (hF:f39_rr_l2_j1 k x0 x1 x12 x13 x14 = some r) : EX 39 k (nav B39 [2,2,1,2,2,1,2,2]) (⟨26,[(0,.sl 4 (rowsOf encT65 x0)),(1,.sl 4 (rowsOf encT65 x1)),(12,.p (.int .i64 x12)),(13,.p (.int .i64 x13)),(14,.p (.bool x14))],[]⟩ : St) = some r.st := by
 unfold f39_rr_l2_j1 at hF
 obtain ⟨h1,hF⟩ := ifE_some.1 hF
 obtain ⟨v2,h3,hF⟩ := bs hF
 obtain ⟨v4,h5,hF⟩ := bs hF
 simp (maxSteps:=999999) (disch:=first|exact D (by decide)|exact K (by kernel_rfl)) only [E,EE,↓reduceIte,simprocAttr,xk B39 [2,2,1,2,2,1,2,2] .sq rfl,xk B39 [1,2,2,1,2,2,1,2,2] (.bk 1) rfl,xk B39 [2,1,2,2,1,2,2,1,2,2] .sq rfl,rg B39 [1,2,1,2,2,1,2,2,1,2,2] 5 false rfl,hr_39_5,xk B39 [2,2,1,2,2,1,2,2,1,2,2] .sq rfl,rg B39 [1,2,2,1,2,2,1,2,2,1,2,2] 6 true rfl,hr_39_6,indexAddrV,t_23,t_65,encT65_eq,ag_65,ag_63,t_63,t_3,t_22,xk B39 [2,2,2,1,2,2,1,2,2,1,2,2] (.cd 24) rfl,h1,h3,h5]
 rcases cond_some hF with ⟨h6,hF⟩ | ⟨h6,hF⟩
 ·cases hF
  simp (maxSteps:=999999) (disch:=first|exact D (by decide)|exact K (by kernel_rfl)) only [E,EE,↓reduceIte,simprocAttr,xk B39 [2,2,2,2,1,2,2,1,2,2,1,2,2] .sq rfl,rg B39 [1,2,2,2,2,1,2,2,1,2,2,1,2,2] 7 false rfl,hr_39_7,xk B39 [2,2,2,2,2,1,2,2,1,2,2,1,2,2] .rt rfl,R39_rr_l2.st,h1,h3,h5,h6]
 ·have hJ := f39_rr_l2_j2_ok k x0 x1 x12 x13 false _ hF
  simp (maxSteps:=999999) (disch:=first|exact D (by decide)|exact K (by kernel_rfl)) only [E,EE,↓reduceIte,simprocAttr,xk B39 [3,2,2,2,1,2,2,1,2,2,1,2,2] .sk rfl,h1,h3,h5,h6]
  try simp only [NM,EE] at hJ
  exact hJ
noncomputable def f39_rr_l2_b (k:Nat) (x0 x1:List T65) (x12 x13:Int) : Option R39_rr_l2 :=
 cond ((decide (x13 < x12)))
  (f39_rr_l2_j1 k x0 x1 x12 x13 true)
  (some (R39_rr_l2.o2 x0 x1 x12 x13 false))
theorem f39_rr_l2_b_ok (k:Nat) (x0 x1:List T65) (x12 x13:Int) (r:R39_rr_l2) (hF:f39_rr_l2_b k x0 x1 x12 x13 = some r) : EX 39 k (nav B39 [1,2,2,1,2,2]) (⟨26,[(0,.sl 4 (rowsOf encT65 x0)),(1,.sl 4 (rowsOf encT65 x1)),(12,.p (.int .i64 x12)),(13,.p (.int .i64 x13))],[]⟩ : St) = some r.st := by
 unfold f39_rr_l2_b at hF
 simp (maxSteps:=999999) (disch:=first|exact D (by decide)|exact K (by kernel_rfl)) only [E,EE,↓reduceIte,simprocAttr,xk B39 [1,2,2,1,2,2] .sq rfl,rg B39 [1,1,2,2,1,2,2] 4 false rfl,hr_39_4,xk B39 [2,1,2,2,1,2,2] .sq rfl,xk B39 [1,2,1,2,2,1,2,2] (.cd 14) rfl]
 rcases cond_some hF with ⟨h1,hF⟩ | ⟨h1,hF⟩
 ·have hJ := f39_rr_l2_j1_ok k x0 x1 x12 x13 true _ hF
  simp (maxSteps:=999999) (disch:=first|exact D (by decide)|exact K (by kernel_rfl)) only [E,EE,↓reduceIte,simprocAttr,xk B39 [2,1,2,1,2,2,1,2,2] .sk rfl,h1]
  try simp only [NM,EE] at hJ
  exact hJ
 ·cases hF
  simp (maxSteps:=999999) (disch:=first|exact D (by decide)|exact K (by kernel_rfl)) only [E,EE,↓reduceIte,simprocAttr,xk B39 [3,1,2,1,2,2,1,2,2] (.ex 0) rfl,R39_rr_l2.st,h1]
noncomputable def f39_rr_l2 (k:Nat) : Nat → (List T65) → (List T65) → Int → Int → Option R39_rr_l2
 | 0,_,_,_,_ => none
 | n + 1,x0,x1,x12,x13 => Option.bind (f39_rr_l2_b k x0 x1 x12 x13) fun o =>
  match o with
  | .o0 y => some (.o0 y)
  | .o1 y y_1 y_2 y_3 => f39_rr_l2 k n y y_1 y_2 y_3
  | .o2 y y_1 y_2 y_3 y_4 => some (.o2 y y_1 y_2 y_3 y_4)
theorem f39_rr_l2_ok (k n:Nat) : ∀ (x0 x1:List T65) (x12 x13:Int) (r:R39_rr_l2) (hF:f39_rr_l2 k n x0 x1 x12 x13 = some r) (σ:St) (hσ:headR (hints.head 39 4) (hints.canon 39 4) σ = some (⟨26,[(0,.sl 4 (rowsOf encT65 x0)),(1,.sl 4 (rowsOf encT65 x1)),(12,.p (.int .i64 x12)),(13,.p (.int .i64 x13))],[]⟩ : St)),LP 39 k (nav B39 [1,2,2,1,2,2]) n σ = some r.st := by
 induction n with
 | zero => intro x0 x1 x12 x13 r hF; cases hF
 | succ n ih =>
  intro x0 x1 x12 x13 r hF σ hσ
  rw [f39_rr_l2] at hF
  obtain ⟨o,h,hF⟩ := Option.bind_eq_some_iff.1 hF
  have hB := f39_rr_l2_b_ok k x0 x1 x12 x13 o h
  unfold LP at ih ⊢
  unfold EX at hB
  rw [loopK_succ,show firstReg (nav B39 [1,2,2,1,2,2]) = 4 from rfl,hσ,headK_some,hB]
  cases o with
  | o0 y => cases hF; rfl
  | o1 y y_1 y_2 y_3 =>
   refine ih y y_1 y_2 y_3 r hF _ ?_
   simp (maxSteps:=999999) (disch:=first|exact D (by decide)|exact K (by kernel_rfl)) only [E,EE,↓reduceIte,simprocAttr,hh_39_4,hc_39_4]
  | o2 y y_1 y_2 y_3 y_4 => cases hF; rfl
noncomputable def f39_rr_j3 (k:Nat) (x0 x1:List T65) (x12 x13:Int) (x14:Bool) : Option R39_rr :=
 some (R39_rr.o0 true)
theorem f39_rr_j3_ok (k:Nat) (x0 x1:List T65) (x12 x13:Int) (x14:Bool) (r:R39_rr) (hF:f39_rr_j3 k x0 x1 x12 x13 x14 = some r) : finK Try.prog Try.f39 0 (EX 39 k (nav B39 [2,2,2]) (⟨26,[(0,.sl 4 (rowsOf encT65 x0)),(1,.sl 4 (rowsOf encT65 x1)),(12,.p (.int .i64 x12)),(13,.p (.int .i64 x13)),(14,.p (.bool x14))],[]⟩ : St)) = some r.st := by
 unfold f39_rr_j3 at hF
 cases hF
 simp (maxSteps:=999999) (disch:=first|exact D (by decide)|exact K (by kernel_rfl)) only [E,EE,↓reduceIte,simprocAttr,xk B39 [2,2,2] .sq rfl,rg B39 [1,2,2,2] 9 false rfl,hr_39_9,xk B39 [2,2,2,2] .rt rfl,finK_norm,finK_ret,fin39,R39_rr.st]
noncomputable def f39_rr_j1 (k:Nat) (x0 x1:List T65) (x10:Bool) : Option R39_rr :=
 Option.bind (f39_rr_l2 k k x0 x1 ((List.length x0) : Int) 0) fun o1 =>
  match o1 with
  | .o0 v4 =>
   some (R39_rr.o0 v4)
  | .o1 _ _ _ _ =>
   none
  | .o2 v5 v6 v7 v8 v9 =>
   f39_rr_j3 k v5 v6 v7 v8 v9
theorem f39_rr_j1_ok (k:Nat) (x0 x1:List T65) (x10:Bool) (r:R39_rr) (hF:f39_rr_j1 k x0 x1 x10 = some r) : finK Try.prog Try.f39 0 (EX 39 k (nav B39 [2,2]) (⟨26,[(0,.sl 4 (rowsOf encT65 x0)),(1,.sl 4 (rowsOf encT65 x1)),(10,.p (.bool x10))],[]⟩ : St)) = some r.st := by
 unfold f39_rr_j1 at hF
 obtain ⟨o1,h2,hF⟩ := bs hF
 have hc3 := f39_rr_l2_ok k k x0 x1 ((List.length x0) : Int) 0 _ h2
 simp (maxSteps:=999999) (disch:=first|exact D (by decide)|exact K (by kernel_rfl)) only [E,EE,↓reduceIte,simprocAttr,xk B39 [2,2] .sq rfl,xk B39 [1,2,2] .sq rfl,rg B39 [1,1,2,2] 3 false rfl,hr_39_3,t_23,xk B39 [2,1,2,2] (.bk 0) rfl,xk B39 [2,2,1,2,2] .lp rfl,hh_39_4,hc_39_4]
 (try simp only [NM,EE] at hc3)
 rw [hc3 _ (by simp (maxSteps:=999999) (disch:=first|exact D (by decide)|exact K (by kernel_rfl)) only [E,EE,↓reduceIte,simprocAttr,hh_39_4,hc_39_4])]
 clear hc3
 cases o1 with
 | o0 v4 =>
  (try dsimp only at hF)
  cases hF
  simp (maxSteps:=999999) (disch:=first|exact D (by decide)|exact K (by kernel_rfl)) only [E,EE,↓reduceIte,simprocAttr,R39_rr_l2.st,finK_norm,finK_ret,fin39,R39_rr.st]
 | o1 _ _ _ _ =>
  (try dsimp only at hF)
  cases hF
 | o2 v5 v6 v7 v8 v9 =>
  (try dsimp only at hF)
  have hJ := f39_rr_j3_ok k v5 v6 v7 v8 v9 _ hF
  simp (maxSteps:=999999) (disch:=first|exact D (by decide)|exact K (by kernel_rfl)) only [E,EE,↓reduceIte,simprocAttr,R39_rr_l2.st]
  try simp only [NM,EE] at hJ
  exact hJ
noncomputable def f39_rr_e (k:Nat) (a0 a1:List T65) : Option R39_rr :=
 cond ((((List.length a0) : Int) != ((List.length a1) : Int)))
  (some (R39_rr.o0 false))
  (f39_rr_j1 k a0 a1 false)
theorem f39_rr_e_ok (k:Nat) (a0 a1:List T65) (r:R39_rr) (hF:f39_rr_e k a0 a1 = some r) : finK Try.prog Try.f39 0 (EX 39 k (nav B39 []) (⟨26,[(0,.sl 4 (rowsOf encT65 a0)),(1,.sl 4 (rowsOf encT65 a1))],[]⟩ : St)) = some r.st := by
 unfold f39_rr_e at hF
 simp (maxSteps:=999999) (disch:=first|exact D (by decide)|exact K (by kernel_rfl)) only [E,EE,↓reduceIte,simprocAttr,xk B39 [] .sq rfl,rg B39 [1] 0 false rfl,hr_39_0,xk B39 [2] .sq rfl,xk B39 [1,2] .sq rfl,rg B39 [1,1,2] 1 false rfl,hr_39_1,t_23,xk B39 [2,1,2] (.cd 10) rfl]
 rcases cond_some hF with ⟨h1,hF⟩ | ⟨h1,hF⟩
 ·cases hF
  simp (maxSteps:=999999) (disch:=first|exact D (by decide)|exact K (by kernel_rfl)) only [E,EE,↓reduceIte,simprocAttr,xk B39 [2,2,1,2] .sq rfl,rg B39 [1,2,2,1,2] 2 false rfl,hr_39_2,xk B39 [2,2,2,1,2] .rt rfl,finK_norm,finK_ret,fin39,R39_rr.st,h1]
 ·have hJ := f39_rr_j1_ok k a0 a1 false _ hF
  simp (maxSteps:=999999) (disch:=first|exact D (by decide)|exact K (by kernel_rfl)) only [E,EE,↓reduceIte,simprocAttr,xk B39 [3,2,1,2] .sk rfl,h1]
  try simp only [NM,EE] at hJ
  exact hJ
noncomputable def f39_rr (k:Nat) (a0 a1:List T65) : Option R39_rr := match k with | 0 => none | k + 1 => f39_rr_e k a0 a1
theorem f39_rr_ok (k:Nat) (a0 a1:List T65) (r:R39_rr) (hF:f39_rr k a0 a1 = some r) : CV k 39 [.sl 4 (rowsOf encT65 a0),.sl 4 (rowsOf encT65 a1)] [] = some r.st := by
 cases k with
 | zero => cases hF
 | succ k =>
  unfold CV
  rw [ev_call (F := Try.f39) (c := (nav B39 [])) rfl Try.func39 rfl rfl rfl rfl]
  exact f39_rr_e_ok k a0 a1 r hF
-- f40_rrf41: f40 slices.EqualFunc[[]heliograph/api.Bundle,[]heliograph/api.Bundle,heliograph/api.Bundle,heliograph/api.Bundle]
inductive R40_rrf41 where
 | o0 (y:Bool)
noncomputable def R40_rrf41.st : R40_rrf41 → V × List O × List O
 | .o0 y => (.p (.bool y),[],[])
inductive R40_rrf41_l2 where
 | o0 (y:Bool)
 | o1 (y y_1:List T39) (y_2 y_3:Int)
 | o2 (y y_1:List T39) (y_2 y_3:Int) (y_4:Bool)
noncomputable def R40_rrf41_l2.st : R40_rrf41_l2 → Out × St
 | .o0 y => (.ret,(⟨32,[(6,.p (.bool y))],[]⟩ : St))
 | .o1 y y_1 y_2 y_3 => (.norm,(⟨32,[(1,.sl 11 (rowsOf encT39 y)),(2,V.p (Value.func (Fn.func 41) #[] #[])),(15,.sl 11 (rowsOf encT39 y_1)),(16,.p (.int .i64 y_2)),(17,.p (.int .i64 y_3))],[]⟩ : St))
 | .o2 y y_1 y_2 y_3 y_4 => (.exit 0,(⟨32,[(1,.sl 11 (rowsOf encT39 y)),(2,V.p (Value.func (Fn.func 41) #[] #[])),(15,.sl 11 (rowsOf encT39 y_1)),(16,.p (.int .i64 y_2)),(17,.p (.int .i64 y_3)),(18,.p (.bool y_4))],[]⟩ : St))
noncomputable def f40_rrf41_l2_j2 (k:Nat) (x1 x15:List T39) (x16 x17:Int) (x30:Bool) : Option R40_rrf41_l2 :=
 some (R40_rrf41_l2.o1 x1 x15 x16 (IntKind.i64.wrap (x17 + (1:Int))))
theorem f40_rrf41_l2_j2_ok (k:Nat) (x1 x15:List T39) (x16 x17:Int) (x30:Bool) (r:R40_rrf41_l2) (hF:f40_rrf41_l2_j2 k x1 x15 x16 x17 x30 = some r) : EX 40 k (nav B40 [2,2,2,1,2,2,1,2,2]) (⟨32,[(1,.sl 11 (rowsOf encT39 x1)),(2,V.p (Value.func (Fn.func 41) #[] #[])),(15,.sl 11 (rowsOf encT39 x15)),(16,.p (.int .i64 x16)),(17,.p (.int .i64 x17)),(30,.p (.bool x30))],[]⟩ : St) = some r.st := by
 unfold f40_rrf41_l2_j2 at hF
 cases hF
 simp (maxSteps:=999999) (disch:=first|exact D (by decide)|exact K (by kernel_rfl)) only [E,EE,↓reduceIte,simprocAttr,rg B40 [2,2,2,1,2,2,1,2,2] 9 false rfl,hr_40_9,R40_rrf41_l2.st]
noncomputable def f40_rrf41_l2_j1 (k:Nat) (x1 x15:List T39) (x16 x17:Int) (x18:Bool) : Option R40_rrf41_l2 :=
 ifE ((0:Int) ≤ x17) (
  Option.bind (x15[(Int.toNat x17)]?) fun v2 =>
   Option.bind (x1[(Int.toNat x17)]?) fun v4 =>
    Option.bind (f41_ai10rzai10rz k v2.Source v2.Dest v2.Seq v2.Created v2.Lifetime v2.HopLimit v2.Hops v2.Priority v2.Offset v2.Total v2.Payload v4.Source v4.Dest v4.Seq v4.Created v4.Lifetime v4.HopLimit v4.Hops v4.Priority v4.Offset v4.Total v4.Payload) fun o6 =>
     match o6 with
     | .o0 v9 =>
      cond ((!v9))
       (some (R40_rrf41_l2.o0 false))
       (f40_rrf41_l2_j2 k x1 x15 x16 x17 false))
theorem f40_rrf41_l2_j1_ok (k:Nat) (x1 x15:List T39) (x16 x17:Int) (x18:Bool) (r:R40_rrf41_l2) (hF:f40_rrf41_l2_j1 k x1 x15 x16 x17 x18 = some r) : EX 40 k (nav B40 [2,2,1,2,2,1,2,2]) (⟨32,[(1,.sl 11 (rowsOf encT39 x1)),(2,V.p (Value.func (Fn.func 41) #[] #[])),(15,.sl 11 (rowsOf encT39 x15)),(16,.p (.int .i64 x16)),(17,.p (.int .i64 x17)),(18,.p (.bool x18))],[]⟩ : St) = some r.st := by
 unfold f40_rrf41_l2_j1 at hF
 obtain ⟨h1,hF⟩ := ifE_some.1 hF
 obtain ⟨v2,h3,hF⟩ := bs hF
 obtain ⟨v4,h5,hF⟩ := bs hF
 obtain ⟨o6,h7,hF⟩ := bs hF
 have hc8 := f41_ai10rzai10rz_ok k v2.Source v2.Dest v2.Seq v2.Created v2.Lifetime v2.HopLimit v2.Hops v2.Priority v2.Offset v2.Total v2.Payload v4.Source v4.Dest v4.Seq v4.Created v4.Lifetime v4.HopLimit v4.Hops v4.Priority v4.Offset v4.Total v4.Payload _ h7
 cases o6 with
 | o0 v9 =>
  (try dsimp only at hF)
  (try simp only [NM,EE,R41_ai10rzai10rz.st] at hc8)
  simp (maxSteps:=999999) (disch:=first|exact D (by decide)|exact K (by kernel_rfl)) only [E,EE,↓reduceIte,simprocAttr,xk B40 [2,2,1,2,2,1,2,2] .sq rfl,xk B40 [1,2,2,1,2,2,1,2,2] (.bk 1) rfl,xk B40 [2,1,2,2,1,2,2,1,2,2] .sq rfl,rg B40 [1,2,1,2,2,1,2,2,1,2,2] 5 false rfl,hr_40_5,indexAddrV,t_24,t_39,encT39_eq,xk B40 [2,2,1,2,2,1,2,2,1,2,2] .sq rfl,rg B40 [1,2,2,1,2,2,1,2,2,1,2,2] 6 false rfl,hr_40_6,xk B40 [2,2,2,1,2,2,1,2,2,1,2,2] .sq rfl,rg B40 [1,2,2,2,1,2,2,1,2,2,1,2,2] 7 false rfl,hr_40_7,callStep,CL,gv,List.contains,xk B40 [2,2,2,2,1,2,2,1,2,2,1,2,2] (.cd 30) rfl,h1,h3,h5,hc8]
  rcases cond_some hF with ⟨h10,hF⟩ | ⟨h10,hF⟩
  ·cases hF
   simp (maxSteps:=999999) (disch:=first|exact D (by decide)|exact K (by kernel_rfl)) only [E,EE,↓reduceIte,simprocAttr,xk B40 [2,2,2,2,2,1,2,2,1,2,2,1,2,2] .sq rfl,rg B40 [1,2,2,2,2,2,1,2,2,1,2,2,1,2,2] 8 false rfl,hr_40_8,xk B40 [2,2,2,2,2,2,1,2,2,1,2,2,1,2,2] .rt rfl,R40_rrf41_l2.st,h1,h3,h5,hc8,h10]
  ·have hJ := f40_rrf41_l2_j2_ok k x1 x15 x16 x17 false _ hF
   simp (maxSteps:=999999) (disch:=first|exact D (by decide)|exact K (by kernel_rfl)) only [E,EE,↓reduceIte,simprocAttr,xk B40 [3,2,2,2,2,1,2,2,1,2,2,1,2,2] .sk rfl,h1,h3,h5,hc8,h10]
   try simp only [NM,EE] at hJ
   exact hJ
noncomputable def f40_rrf41_l2_b (k:Nat) (x1 x15:List T39) (x16 x17:Int) : Option R40_rrf41_l2 :=
 cond ((decide (x17 < x16)))
  (f40_rrf41_l2_j1 k x1 x15 x16 x17 true)
  (some (R40_rrf41_l2.o2 x1 x15 x16 x17 false))
theorem f40_rrf41_l2_b_ok (k:Nat) (x1 x15:List T39) (x16 x17:Int) (r:R40_rrf41_l2) (hF:f40_rrf41_l2_b k x1 x15 x16 x17 = some r) : EX 40 k (nav B40 [1,2,2,1,2,2]) (⟨32,[(1,.sl 11 (rowsOf encT39 x1)),(2,V.p (Value.func (Fn.func 41) #[] #[])),(15,.sl 11 (rowsOf encT39 x15)),(16,.p (.int .i64 x16)),(17,.p (.int .i64 x17))],[]⟩ : St) = some r.st := by
 unfold f40_rrf41_l2_b at hF
 simp (maxSteps:=999999) (disch:=first|exact D (by decide)|exact K (by kernel_rfl)) only [E,EE,↓reduceIte,simprocAttr,xk B40 [1,2,2,1,2,2] .sq rfl,rg B40 [1,1,2,2,1,2,2] 4 false rfl,hr_40_4,xk B40 [2,1,2,2,1,2,2] .sq rfl,xk B40 [1,2,1,2,2,1,2,2] (.cd 18) rfl]
 rcases cond_some hF with ⟨h1,hF⟩ | ⟨h1,hF⟩
 ·have hJ := f40_rrf41_l2_j1_ok k x1 x15 x16 x17 true _ hF
  simp (maxSteps:=999999) (disch:=first|exact D (by decide)|exact K (by kernel_rfl)) only [E,EE,↓reduceIte,simprocAttr,xk B40 [2,1,2,1,2,2,1,2,2] .sk rfl,h1]
  try simp only [NM,EE] at hJ
  exact hJ
 ·cases hF
  simp (maxSteps:=999999) (disch:=first|exact D (by decide)|exact K (by kernel_rfl)) only [E,EE,↓reduceIte,simprocAttr,xk B40 [3,1,2,1,2,2,1,2,2] (.ex 0) rfl,R40_rrf41_l2.st,h1]
noncomputable def f40_rrf41_l2 (k:Nat) : Nat → (List T39) → (List T39) → Int → Int → Option R40_rrf41_l2
 | 0,_,_,_,_ => none
 | n + 1,x1,x15,x16,x17 => Option.bind (f40_rrf41_l2_b k x1 x15 x16 x17) fun o =>
  match o with
  | .o0 y => some (.o0 y)
  | .o1 y y_1 y_2 y_3 => f40_rrf41_l2 k n y y_1 y_2 y_3
  | .o2 y y_1 y_2 y_3 y_4 => some (.o2 y y_1 y_2 y_3 y_4)
theorem f40_rrf41_l2_ok (k n:Nat) : ∀ (x1 x15:List T39) (x16 x17:Int) (r:R40_rrf41_l2) (hF:f40_rrf41_l2 k n x1 x15 x16 x17 = some r) (σ:St) (hσ:headR (hints.head 40 4) (hints.canon 40 4) σ = some (⟨32,[(1,.sl 11 (rowsOf encT39 x1)),(2,V.p (Value.func (Fn.func 41) #[] #[])),(15,.sl 11 (rowsOf encT39 x15)),(16,.p (.int .i64 x16)),(17,.p (.int .i64 x17))],[]⟩ : St)),LP 40 k (nav B40 [1,2,2,1,2,2]) n σ = some r.st := by
 induction n with
 | zero => intro x1 x15 x16 x17 r hF; cases hF
 | succ n ih =>
  intro x1 x15 x16 x17 r hF σ hσ
  rw [f40_rrf41_l2] at hF
  obtain ⟨o,h,hF⟩ := Option.bind_eq_some_iff.1 hF
  have hB := f40_rrf41_l2_b_ok k x1 x15 x16 x17 o h
  unfold LP at ih ⊢
  unfold EX at hB
  rw [loopK_succ,show firstReg (nav B40 [1,2,2,1,2,2]) = 4 from rfl,hσ,headK_some,hB]
  cases o with
  | o0 y => cases hF; rfl
  | o1 y y_1 y_2 y_3 =>
   refine ih y y_1 y_2 y_3 r hF _ ?_
   simp (maxSteps:=999999) (disch:=first|exact D (by decide)|exact K (by kernel_rfl)) only [E,EE,↓reduceIte,simprocAttr,hh_40_4,hc_40_4]
  | o2 y y_1 y_2 y_3 y_4 => cases hF; rfl
noncomputable def f40_rrf41_j3 (k:Nat) (x1 x15:List T39) (x16 x17:Int) (x18:Bool) : Option R40_rrf41 :=
 some (R40_rrf41.o0 true)
theorem f40_rrf41_j3_ok (k:Nat) (x1 x15:List T39) (x16 x17:Int) (x18:Bool) (r:R40_rrf41) (hF:f40_rrf41_j3 k x1 x15 x16 x17 x18 = some r) : finK Try.prog Try.f40 0 (EX 40 k (nav B40 [2,2,2]) (⟨32,[(1,.sl 11 (rowsOf encT39 x1)),(2,V.p (Value.func (Fn.func 41) #[] #[])),(15,.sl 11 (rowsOf encT39 x15)),(16,.p (.int .i64 x16)),(17,.p (.int .i64 x17)),(18,.p (.bool x18))],[]⟩ : St)) = some r.st := by
 unfold f40_rrf41_j3 at hF
 cases hF
 simp (maxSteps:=999999) (disch:=first|exact D (by decide)|exact K (by kernel_rfl)) only [E,EE,↓reduceIte,simprocAttr,xk B40 [2,2,2] .sq rfl,rg B40 [1,2,2,2] 10 false rfl,hr_40_10,xk B40 [2,2,2,2] .rt rfl,finK_norm,finK_ret,fin40,R40_rrf41.st]
noncomputable def f40_rrf41_j1 (k:Nat) (x0 x1:List T39) (x14:Bool) : Option R40_rrf41 :=
 Option.bind (f40_rrf41_l2 k k x1 x0 ((List.length x0) : Int) 0) fun o1 =>
  match o1 with
  | .o0 v4 =>
   some (R40_rrf41.o0 v4)
  | .o1 _ _ _ _ =>
   none
  | .o2 v5 v6 v7 v8 v9 =>
   f40_rrf41_j3 k v5 v6 v7 v8 v9
theorem f40_rrf41_j1_ok (k:Nat) (x0 x1:List T39) (x14:Bool) (r:R40_rrf41) (hF:f40_rrf41_j1 k x0 x1 x14 = some r) : finK Try.prog Try.f40 0 (EX 40 k (nav B40 [2,2]) (⟨32,[(0,.sl 11 (rowsOf encT39 x0)),(1,.sl 11 (rowsOf encT39 x1)),(2,V.p (Value.func (Fn.func 41) #[] #[])),(14,.p (.bool x14))],[]⟩ : St)) = some r.st := by
 unfold f40_rrf41_j1 at hF
 obtain ⟨o1,h2,hF⟩ := bs hF
 have hc3 := f40_rrf41_l2_ok k k x1 x0 ((List.length x0) : Int) 0 _ h2
 simp (maxSteps:=999999) (disch:=first|exact D (by decide)|exact K (by kernel_rfl)) only [E,EE,↓reduceIte,simprocAttr,xk B40 [2,2] .sq rfl,xk B40 [1,2,2] .sq rfl,rg B40 [1,1,2,2] 3 false rfl,hr_40_3,t_24,xk B40 [2,1,2,2] (.bk 0) rfl,xk B40 [2,2,1,2,2] .lp rfl,hh_40_4,hc_40_4]
 (try simp only [NM,EE] at hc3)
 rw [hc3 _ (by simp (maxSteps:=999999) (disch:=first|exact D (by decide)|exact K (by kernel_rfl)) only [E,EE,↓reduceIte,simprocAttr,hh_40_4,hc_40_4])]
 clear hc3
 cases o1 with
 | o0 v4 =>
  (try dsimp only at hF)
  cases hF
  simp (maxSteps:=999999) (disch:=first|exact D (by decide)|exact K (by kernel_rfl)) only [E,EE,↓reduceIte,simprocAttr,R40_rrf41_l2.st,finK_norm,finK_ret,fin40,R40_rrf41.st]
 | o1 _ _ _ _ =>
  (try dsimp only at hF)
  cases hF
 | o2 v5 v6 v7 v8 v9 =>
  (try dsimp only at hF)
  have hJ := f40_rrf41_j3_ok k v5 v6 v7 v8 v9 _ hF
  simp (maxSteps:=999999) (disch:=first|exact D (by decide)|exact K (by kernel_rfl)) only [E,EE,↓reduceIte,simprocAttr,R40_rrf41_l2.st]
  try simp only [NM,EE] at hJ
  exact hJ
noncomputable def f40_rrf41_e (k:Nat) (a0 a1:List T39) : Option R40_rrf41 :=
 cond ((((List.length a0) : Int) != ((List.length a1) : Int)))
  (some (R40_rrf41.o0 false))
  (f40_rrf41_j1 k a0 a1 false)
theorem f40_rrf41_e_ok (k:Nat) (a0 a1:List T39) (r:R40_rrf41) (hF:f40_rrf41_e k a0 a1 = some r) : finK Try.prog Try.f40 0 (EX 40 k (nav B40 []) (⟨32,[(0,.sl 11 (rowsOf encT39 a0)),(1,.sl 11 (rowsOf encT39 a1)),(2,V.p (Value.func (Fn.func 41) #[] #[]))],[]⟩ : St)) = some r.st := by
 unfold f40_rrf41_e at hF
 simp (maxSteps:=999999) (disch:=first|exact D (by decide)|exact K (by kernel_rfl)) only [E,EE,↓reduceIte,simprocAttr,xk B40 [] .sq rfl,rg B40 [1] 0 false rfl,hr_40_0,xk B40 [2] .sq rfl,xk B40 [1,2] .sq rfl,rg B40 [1,1,2] 1 false rfl,hr_40_1,t_24,xk B40 [2,1,2] (.cd 14) rfl]
 rcases cond_some hF with ⟨h1,hF⟩ | ⟨h1,hF⟩
 ·cases hF
  simp (maxSteps:=999999) (disch:=first|exact D (by decide)|exact K (by kernel_rfl)) only [E,EE,↓reduceIte,simprocAttr,xk B40 [2,2,1,2] .sq rfl,rg B40 [1,2,2,1,2] 2 false rfl,hr_40_2,xk B40 [2,2,2,1,2] .rt rfl,finK_norm,finK_ret,fin40,R40_rrf41.st,h1]
 ·have hJ := f40_rrf41_j1_ok k a0 a1 false _ hF
  simp (maxSteps:=999999) (disch:=first|exact D (by decide)|exact K (by kernel_rfl)) only [E,EE,↓reduceIte,simprocAttr,xk B40 [3,2,1,2] .sk rfl,h1]
  try simp only [NM,EE] at hJ
  exact hJ
noncomputable def f40_rrf41 (k:Nat) (a0 a1:List T39) : Option R40_rrf41 := match k with | 0 => none | k + 1 => f40_rrf41_e k a0 a1
theorem f40_rrf41_ok (k:Nat) (a0 a1:List T39) (r:R40_rrf41) (hF:f40_rrf41 k a0 a1 = some r) : CV k 40 [.sl 11 (rowsOf encT39 a0),.sl 11 (rowsOf encT39 a1),V.p (Value.func (Fn.func 41) #[] #[])] [] = some r.st := by
 cases k with
 | zero => cases hF
 | succ k =>
  unfold CV
  rw [ev_call (F := Try.f40) (c := (nav B40 [])) rfl Try.func40 rfl rfl rfl rfl]
  exact f40_rrf41_e_ok k a0 a1 r hF
-- f21_aiirrzaiirrz: f21 heliograph/agent.Same
inductive R21_aiirrzaiirrz where
 | o0 (y:Bool)
noncomputable def R21_aiirrzaiirrz.st : R21_aiirrzaiirrz → V × List O × List O
 | .o0 y => (.p (.bool y),[],[])
noncomputable def f21_aiirrzaiirrz_e (k:Nat) (a0 a0_1:Int) (a0_2:List T65) (a0_3:List T39) (a1 a1_1:Int) (a1_2:List T65) (a1_3:List T39) : Option R21_aiirrzaiirrz :=
 cond ((a0 == a1))
  (
   cond ((a0_1 == a1_1))
    (
     Option.bind (f39_rr k a0_2 a1_2) fun o3 =>
      match o3 with
      | .o0 v6 =>
       cond (v6)
        (
         Option.bind (f40_rrf41 k a0_3 a1_3) fun o8 =>
          match o8 with
          | .o0 v11 =>
           some (R21_aiirrzaiirrz.o0 v11))
        (some (R21_aiirrzaiirrz.o0 false)))
    (some (R21_aiirrzaiirrz.o0 false)))
  (some (R21_aiirrzaiirrz.o0 false))
theorem f21_aiirrzaiirrz_e_ok (k:Nat) (a0 a0_1:Int) (a0_2:List T65) (a0_3:List T39) (a1 a1_1:Int) (a1_2:List T65) (a1_3:List T39) (r:R21_aiirrzaiirrz) (hF:f21_aiirrzaiirrz_e k a0 a0_1 a0_2 a0_3 a1 a1_1 a1_2 a1_3 = some r) : finK Try.prog Try.f21 0 (EX 21 k (nav B21 []) (⟨31,[(0,.agg [.p (.int .i64 a0),.p (.int .u32 a0_1),.sl 4 (rowsOf encT65 a0_2),.sl 11 (rowsOf encT39 a0_3)]),(1,.agg [.p (.int .i64 a1),.p (.int .u32 a1_1),.sl 4 (rowsOf encT65 a1_2),.sl 11 (rowsOf encT39 a1_3)])],[]⟩ : St)) = some r.st := by
 unfold f21_aiirrzaiirrz_e at hF
 simp (maxSteps:=999999) (disch:=first|exact D (by decide)|exact K (by kernel_rfl)) only [E,EE,↓reduceIte,simprocAttr,xk B21 [] .sq rfl,rg B21 [1] 0 false rfl,hr_21_0,xk B21 [2] .sq rfl,rg B21 [1,2] 1 false rfl,hr_21_1,fieldAddrV,t_26,t_3]
 rcases cond_some hF with ⟨h1,hF⟩ | ⟨h1,hF⟩
 ·simp (maxSteps:=999999) (disch:=first|exact D (by decide)|exact K (by kernel_rfl)) only [E,EE,↓reduceIte,simprocAttr,fieldAddrV,t_26,t_22,h1]
  rcases cond_some hF with ⟨h2,hF⟩ | ⟨h2,hF⟩
  ·obtain ⟨o3,h4,hF⟩ := bs hF
   have hc5 := f39_rr_ok k a0_2 a1_2 _ h4
   cases o3 with
   | o0 v6 =>
    (try dsimp only at hF)
    (try simp only [NM,EE,R39_rr.st] at hc5)
    simp (maxSteps:=999999) (disch:=first|exact D (by decide)|exact K (by kernel_rfl)) only [E,EE,↓reduceIte,simprocAttr,fieldAddrV,t_26,t_23,callStep,CL,gv,List.contains,h1,h2,hc5]
    rcases cond_some hF with ⟨h7,hF⟩ | ⟨h7,hF⟩
    ·obtain ⟨o8,h9,hF⟩ := bs hF
     have hc10 := f40_rrf41_ok k a0_3 a1_3 _ h9
     cases o8 with
     | o0 v11 =>
      (try dsimp only at hF)
      (try simp only [NM,EE,R40_rrf41.st] at hc10)
      cases hF
      simp (maxSteps:=999999) (disch:=first|exact D (by decide)|exact K (by kernel_rfl)) only [E,EE,↓reduceIte,simprocAttr,fieldAddrV,t_26,t_24,callStep,CL,gv,List.contains,xk B21 [2,2] .rt rfl,finK_norm,finK_ret,fin21,R21_aiirrzaiirrz.st,h1,h2,hc5,h7,hc10]
    ·cases hF
     simp (maxSteps:=999999) (disch:=first|exact D (by decide)|exact K (by kernel_rfl)) only [E,EE,↓reduceIte,simprocAttr,xk B21 [2,2] .rt rfl,finK_norm,finK_ret,fin21,R21_aiirrzaiirrz.st,h1,h2,hc5,h7]
  ·cases hF
   simp (maxSteps:=999999) (disch:=first|exact D (by decide)|exact K (by kernel_rfl)) only [E,EE,↓reduceIte,simprocAttr,xk B21 [2,2] .rt rfl,finK_norm,finK_ret,fin21,R21_aiirrzaiirrz.st,h1,h2]
 ·cases hF
  simp (maxSteps:=999999) (disch:=first|exact D (by decide)|exact K (by kernel_rfl)) only [E,EE,↓reduceIte,simprocAttr,xk B21 [2,2] .rt rfl,finK_norm,finK_ret,fin21,R21_aiirrzaiirrz.st,h1]
noncomputable def f21_aiirrzaiirrz (k:Nat) (a0 a0_1:Int) (a0_2:List T65) (a0_3:List T39) (a1 a1_1:Int) (a1_2:List T65) (a1_3:List T39) : Option R21_aiirrzaiirrz := match k with | 0 => none | k + 1 => f21_aiirrzaiirrz_e k a0 a0_1 a0_2 a0_3 a1 a1_1 a1_2 a1_3
theorem f21_aiirrzaiirrz_ok (k:Nat) (a0 a0_1:Int) (a0_2:List T65) (a0_3:List T39) (a1 a1_1:Int) (a1_2:List T65) (a1_3:List T39) (r:R21_aiirrzaiirrz) (hF:f21_aiirrzaiirrz k a0 a0_1 a0_2 a0_3 a1 a1_1 a1_2 a1_3 = some r) : CV k 21 [.agg [.p (.int .i64 a0),.p (.int .u32 a0_1),.sl 4 (rowsOf encT65 a0_2),.sl 11 (rowsOf encT39 a0_3)],.agg [.p (.int .i64 a1),.p (.int .u32 a1_1),.sl 4 (rowsOf encT65 a1_2),.sl 11 (rowsOf encT39 a1_3)]] [] = some r.st := by
 cases k with
 | zero => cases hF
 | succ k =>
  unfold CV
  rw [ev_call (F := Try.f21) (c := (nav B21 [])) rfl Try.func21 rfl rfl rfl rfl]
  exact f21_aiirrzaiirrz_e_ok k a0 a0_1 a0_2 a0_3 a1 a1_1 a1_2 a1_3 r hF
end Go.Proofs.YticggdfaehneeaaV