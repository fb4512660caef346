/- PlantTurns: for all sets and blocks the law answers true and turns nothing, with no condition. Part 3 of 5. -/
import Derived.Test.YtcebebhaahpoiaaDoorT2
set_option maxHeartbeats 2000000
set_option linter.unusedSimpArgs false
set_option linter.unusedVariables false
set_option linter.deprecated false
set_option linter.all false
section
namespace Go.Proofs.YtcebebhaahpoiaaDoor
open Go Go.Ai Go.W
set_option maxRecDepth 100000
set_option linter.unusedVariables false
variable {E:Env} {s:St} {Q:AExit→Regs→St→Prop} {a c d f g i j l o p q r t u w y z A B C D F G H L M N P R T U V W X Y Z a0 a1 a2 a3 a4 a5 a6 a7 a8 a9 c0 c1 c2 c3 c4 c5 c6 c7 c8 c9 d0 d1 d2 d3 d4 d5 d6 d7 d8 d9 f0:AV}
theorem fq1.enter {k:Nat} {b:Option Nat} {K:AV→St→Prop} (h:WC ⟨prog,k,some s.heap.length⟩ fq1.n0 [a,c,.undef,.undef,.undef,.undef,.undef,.undef,.undef,.undef] { s with leak:=false } (RK s.heap.length s.leak fq1.res K)):VC ⟨prog,k + 1,b⟩ F_fq1 [a,c] s K:=VC_ra (P:=prog) (F':=fq1.fn) rfl fq1.ra fq1.ul rfl h
theorem fq1.ret {n:Nat} {lk:Bool} {K:AV→St→Prop}:RK n lk fq1.res K .ret [a,c,d,f,g,i,j,l,o,p] s=(K (leave n lk [⟨2,none,none⟩] [d] s).1 (leave n lk [⟨2,none,none⟩] [d] s).2):=by kernel_rfl
theorem fq1.n0_w:WC E fq1.n0 [a,c,d,f,g,i,j,l,o,p] s Q=(oM (vConv .i64 a) fun v1=>oM (evBin .rem v1 (.int .i64 8)) fun v2=>oM (evBin .add (.int .i64 1) v2) fun v3=>(sK (WC E (.block 0 fq1.n1)) (sK (WC E fq1.n14) Q)) .normal [v3,c,(.bool false),(.sref s.heap.length 0 0 0 1),(.int .i64 0),i,j,l,o,p] (push s (.cells []))):=by kernel_rfl
theorem fq1.n2_w:WC E fq1.n2 [a,c,d,f,g,i,j,l,o,p] s Q=(oM (vConv .i64 c) fun v1=>oM (evBin .rem v1 (.int .i64 3)) fun v2=>oM (evBin .add (.int .i64 1) v2) fun v3=>oM (evBin .mul v3 a) fun v4=>oM (evBin .lss g v4) fun v5=>cM v5 ((sK (WC E fq1.n4) Q) .normal [a,c,d,f,g,i,v5,l,o,p] s) ((sK (WC E fq1.n4) Q) (.exit 0) [a,c,d,f,g,i,v5,l,o,p] s)):=by kernel_rfl
theorem fq1.n4_w:WC E fq1.n4 [a,c,d,f,g,i,j,l,o,p] s Q=(VC E F_fq14 [a,f] s fun v1 s2=>oM (vExt 0 v1) fun v3=>oM (vExt 1 v1) fun v4=>oM (evBin .neq v4 (.int .i64 0)) fun v5=>gO v5 false s2 (fun k6=>k6 v3 s2) fun v7 s7=>gO v5 false s7 (fun k8=>oM (vLen false v7) fun v9=>k8 v9 s7) fun v10 s10=>gO v5 false s10 (fun k11=>k11 a s10) fun v12 s12=>gO v5 false s12 (fun k13=>oM (evBin .neq v10 v12) fun v14=>k13 v14 s12) fun v15 s15=>oM (vPick v5 (.bool true) v15) fun v16=>gO v16 false s15 (fun k17=>k17 a s15) fun v18 s18=>gO v16 false s18 (fun k19=>k19 v3 s18) fun v20 s20=>gO v16 false s20 (fun k21=>VC E F_fq45 [v18,v20] s20 fun v22 s23=>k21 v22 s23) fun v24 s24=>gO v16 false s24 (fun k25=>oM (evUn .not v24) fun v26=>k25 v26 s24) fun v27 s27=>oM (vPick v16 (.bool true) v27) fun v28=>cM v28 (WC E fq1.n5 [a,c,d,f,g,i,v28,v3,v27,v20] s27 (sK (WC E fq1.n6) (bK 1 (sK (WC E fq1.n13) Q)))) ((sK (WC E fq1.n6) (bK 1 (sK (WC E fq1.n13) Q))) .normal [a,c,d,f,g,i,v28,v3,v27,v20] s27)):=by kernel_rfl
theorem fq1.n6_w:WC E fq1.n6 [a,c,d,f,g,i,j,l,o,p] s Q=(oM (eLit s 1 [(.slice true 0 [])] [(0,1,l)] false true) fun v1=>oM (eApp E.base (v1.2) 1 24 f v1.1) fun v3=>oM (evBin .quo g a) fun v5=>oM (evBin .mul v5 a) fun v6=>(sK (WC E (.block 2 fq1.n7)) Q) .normal [a,c,d,v3.1,g,(.int .i64 0),v6,l,o,p] (v3.2)):=by kernel_rfl
theorem fq1.n8_w:WC E fq1.n8 [a,c,d,f,g,i,j,l,o,p] s Q=(oM (evBin .lss i a) fun v1=>cM v1 ((sK (WC E fq1.n10) Q) .normal [a,c,d,f,g,i,j,l,v1,p] s) ((sK (WC E fq1.n10) Q) (.exit 2) [a,c,d,f,g,i,j,l,v1,p] s)):=by kernel_rfl
theorem fq1.n10_w:WC E fq1.n10 [a,c,d,f,g,i,j,l,o,p] s Q=(oM (vSlc s.heap 1 f (some j) none) fun v1=>oM (vIaddr s.heap 1 none l i) fun v2=>oM (ld s.heap none v2) fun v3=>VC E F_fq47 [v1,i,v3] s fun v4 s5=>oM (evBin .neq v4 (.int .i64 1)) fun v6=>cM v6 (WC E fq1.n11 [a,c,d,f,g,i,j,l,v6,v3] s5 (bK 3 (sK (WC E fq1.n12) Q))) ((bK 3 (sK (WC E fq1.n12) Q)) .normal [a,c,d,f,g,i,j,l,v6,v3] s5)):=by kernel_rfl
theorem fq1.n12_w:WC E fq1.n12 [a,c,d,f,g,i,j,l,o,p] s Q=(oM (evBin .add i (.int .i64 1)) fun v1=>Q .normal [a,c,d,f,g,v1,j,l,v1,p] s):=by kernel_rfl
theorem fq1.n13_w:WC E fq1.n13 [a,c,d,f,g,i,j,l,o,p] s Q=(oM (evBin .add g (.int .i64 1)) fun v1=>Q .normal [a,c,d,f,v1,i,v1,l,o,p] s):=by kernel_rfl
theorem fq1.n14_w:WC E fq1.n14 [a,c,d,f,g,i,j,l,o,p] s Q=(VC E F_fq2 [] s fun v1 s2=>Q .ret [v1,c,v1,f,g,i,j,l,o,p] s2):=by kernel_rfl
def fq1.n1_J (a c:AV) (I:Nat→AV→AV→St→Prop) (m:Nat) (ρ:Regs) (s:St):Prop:=∃ d f g i j l o p:AV,ρ=[a,c,d,f,g,i,j,l,o,p]∧I m f g s
theorem fq1.n1_go {I:Nat→AV→AV→St→Prop} {m m':Nat} (hm:m' < m) (h:I m' f g s):LK (fq1.n1_J a c I) m Q .normal [a,c,d,f,g,i,j,l,o,p] s:=⟨m',hm,_,_,_,_,_,_,_,_,rfl,h⟩
theorem fq1.n1_l (I:Nat→AV→AV→St→Prop) (m:Nat) (hm:m < E.k) (h0:I m f g s) (step:∀ (m:Nat) (d f g i j l o p:AV) (s:St),I m f g s→WC E fq1.n2 [a,c,d,f,g,i,j,l,o,p] s (LK (fq1.n1_J a c I) m Q)):WC E fq1.n1 [a,c,d,f,g,i,j,l,o,p] s Q:=WC_loop (J:=fq1.n1_J a c I) m hm ⟨_,_,_,_,_,_,_,_,rfl,h0⟩ (fun m ρ s ⟨d,f,g,i,j,l,o,p,e,h⟩=>by rw [e]; exact step m d f g i j l o p s h)
def fq1.n7_J (a c f g j l:AV) (I:Nat→AV→St→Prop) (m:Nat) (ρ:Regs) (s:St):Prop:=∃ d i o p:AV,ρ=[a,c,d,f,g,i,j,l,o,p]∧I m i s
theorem fq1.n7_go {I:Nat→AV→St→Prop} {m m':Nat} (hm:m' < m) (h:I m' i s):LK (fq1.n7_J a c f g j l I) m Q .normal [a,c,d,f,g,i,j,l,o,p] s:=⟨m',hm,_,_,_,_,rfl,h⟩
theorem fq1.n7_l (I:Nat→AV→St→Prop) (m:Nat) (hm:m < E.k) (h0:I m i s) (step:∀ (m:Nat) (d i o p:AV) (s:St),I m i s→WC E fq1.n8 [a,c,d,f,g,i,j,l,o,p] s (LK (fq1.n7_J a c f g j l I) m Q)):WC E fq1.n7 [a,c,d,f,g,i,j,l,o,p] s Q:=WC_loop (J:=fq1.n7_J a c f g j l I) m hm ⟨_,_,_,_,rfl,h0⟩ (fun m ρ s ⟨d,i,o,p,e,h⟩=>by rw [e]; exact step m d i o p s h)
theorem fq2.enter {k:Nat} {b:Option Nat} {K:AV→St→Prop} (h:WC ⟨prog,k,some s.heap.length⟩ fq2.n0 [.undef,.undef,.undef,.undef,.undef,.undef,.undef,.undef,.undef,.undef,.undef,.undef,.undef,.undef,.undef,.undef,.undef,.undef] { s with leak:=false } (RK s.heap.length s.leak fq2.res K)):VC ⟨prog,k + 1,b⟩ F_fq2 [] s K:=VC_ra (P:=prog) (F':=fq2.fn) rfl fq2.ra fq2.ul rfl h
theorem fq2.ret {n:Nat} {lk:Bool} {K:AV→St→Prop}:RK n lk fq2.res K .ret [a,c,d,f,g,i,j,l,o,p,q,r,t,u,w,y,z,A] s=(K (leave n lk [⟨0,none,none⟩] [a] s).1 (leave n lk [⟨0,none,none⟩] [a] s).2):=by kernel_rfl
theorem fq2.n0_w:WC E fq2.n0 [a,c,d,f,g,i,j,l,o,p,q,r,t,u,w,y,z,A] s Q=(oM (eLit s 1 [(.int .i64 0),(.int .i64 0),(.int .i64 0)] [(0,1,(.int .i64 4)),(1,1,(.int .i64 4)),(2,1,(.int .i64 4))] false true) fun v1=>oM (eLit (v1.2) 1 [(.int .i64 0),(.int .i64 0),(.int .i64 0)] [(0,1,(.int .i64 1)),(1,1,(.int .i64 3)),(2,1,(.int .i64 1))] false true) fun v3=>oM (fillA [(.int .i64 0),(.int .i64 0),(.int .i64 0)] [(0,1,(.int .i64 6)),(1,1,(.int .i64 2)),(2,1,(.int .i64 1))]) fun v5=>oM (eLit (v3.2) 3 [(.int .i64 0),(.int .i64 0),(.int .i64 0)] [(0,3,(.agg v5))] false true) fun v6=>oM (fillA [(.int .i64 0),(.int .i64 0),(.int .i64 0),(.slice true 0 []),(.slice true 0 []),(.slice true 0 [])] [(0,1,(.int .i64 5)),(2,1,(.int .i64 10)),(3,1,v1.1),(4,1,v3.1),(5,1,v6.1)]) fun v8=>oM (eStore E.base ((push (v6.2) (.cells [(.int .i64 0),(.int .i64 0),(.int .i64 0),(.slice true 0 []),(.slice true 0 []),(.slice true 0 [])]))) 6 (.ptr (v6.2).heap.length 0 6) (.agg v8)) fun s9=>oM (ld s9.heap (some 6) (.ptr (v6.2).heap.length 0 6)) fun v10=>VC E F_fq8 [v10] s9 fun v11 s12=>oM (vExt 0 v11) fun v13=>oM (vExt 1 v11) fun v14=>oM (vExt 2 v11) fun v15=>oM (ld s12.heap (some 6) (.ptr (v6.2).heap.length 0 6)) fun v16=>oM (eLit s12 1 [(.int .i64 0),(.int .i64 0),(.int .i64 0)] [(0,1,(.int .i64 1)),(1,1,(.int .i64 0)),(2,1,(.int .i64 1))] false true) fun v17=>VC E F_fq10 [v16,v17.1] (v17.2) fun v19 s20=>oM (vExt 0 v19) fun v21=>oM (vExt 1 v19) fun v22=>oM (fillA [(.int .i64 0),(.int .i64 0),(.int .i64 0)] [(2,1,(.int .i64 3))]) fun v23=>oM (fillA [(.int .i64 0),(.int .i64 0),(.int .i64 0)] [(0,1,(.int .i64 1)),(2,1,(.int .i64 2))]) fun v24=>oM (fillA [(.int .i64 0),(.int .i64 0),(.int .i64 0)] [(0,1,(.int .i64 2)),(1,1,(.int .i64 1)),(2,1,(.int .i64 2))]) fun v25=>oM (eLit s20 3 [(.int .i64 0),(.int .i64 0),(.int .i64 0),(.int .i64 0),(.int .i64 0),(.int .i64 0),(.int .i64 0),(.int .i64 0),(.int .i64 0)] [(0,3,(.agg v23)),(3,3,(.agg v24)),(6,3,(.agg v25))] false true) fun v26=>VC E F_fq16 [v26.1,(.int .i64 1)] (v26.2) fun v28 s29=>oM (vExt 0 v28) fun v30=>oM (vExt 1 v28) fun v31=>oM (fillA [(.int .i64 0),(.int .i64 0),(.int .i64 0)] [(2,1,(.int .i64 1))]) fun v32=>oM (fillA [(.int .i64 0),(.int .i64 0),(.int .i64 0)] [(0,1,(.int .i64 1)),(2,1,(.int .i64 1))]) fun v33=>oM (eLit s29 3 [(.int .i64 0),(.int .i64 0),(.int .i64 0),(.int .i64 0),(.int .i64 0),(.int .i64 0)] [(0,3,(.agg v32)),(3,3,(.agg v33))] false true) fun v34=>VC E F_fq16 [v34.1,(.int .i64 1)] (v34.2) fun v36 s37=>oM (vExt 0 v36) fun v38=>oM (vExt 1 v36) fun v39=>oM (fillA [(.int .i64 0),(.int .i64 0),(.int .i64 0)] [(2,1,(.int .i64 1))]) fun v40=>oM (fillA [(.int .i64 0),(.int .i64 0),(.int .i64 0)] [(0,1,(.int .i64 1)),(2,1,(.int .i64 1))]) fun v41=>oM (eLit s37 3 [(.int .i64 0),(.int .i64 0),(.int .i64 0),(.int .i64 0),(.int .i64 0),(.int .i64 0)] [(0,3,(.agg v40)),(3,3,(.agg v41))] false true) fun v42=>VC E F_fq9 [v42.1,(.int .i64 1)] (v42.2) fun v44 s45=>oM (vExt 0 v44) fun v46=>oM (vExt 1 v44) fun v47=>oM (vExt 2 v44) fun v48=>oM (fillA [(.int .i64 0),(.int .i64 0)] []) fun v49=>oM (fillA [(.int .i64 0),(.int .i64 0)] [(0,1,(.int .i64 10))]) fun v50=>oM (fillA [(.int .i64 0),(.int .i64 0)] [(0,1,(.int .i64 11))]) fun v51=>oM (fillA [(.int .i64 0),(.int .i64 0)] [(0,1,(.int .i64 1))]) fun v52=>oM (eLit s45 2 [(.int .i64 0),(.int .i64 0),(.int .i64 0),(.int .i64 0),(.int .i64 0),(.int .i64 0),(.int .i64 0),(.int .i64 0)] [(0,2,(.agg v49)),(2,2,(.agg v50)),(4,2,(.agg v51)),(6,2,(.agg v52))] false true) fun v53=>VC E F_fq11 [v53.1] (v53.2) fun v55 s56=>oM (vExt 0 v55) fun v57=>oM (vExt 1 v55) fun v58=>oM (vExt 2 v55) fun v59=>oM (eLit s56 1 [(.int .i64 0),(.int .i64 0)] [(0,1,(.int .i64 0)),(1,1,(.int .i64 1))] false true) fun v60=>oM (eLit (v60.2) 1 [(.slice true 0 [])] [(0,1,v60.1)] false true) fun v62=>VC E F_fq14 [(.int .i64 2),v62.1] (v62.2) fun v64 s65=>oM (vExt 0 v64) fun v66=>oM (vExt 1 v64) fun v67=>oM (eLit s65 1 [(.int .i64 0),(.int .i64 0),(.int .i64 0)] [(0,1,(.int .i64 1)),(1,1,(.int .i64 0)),(2,1,(.int .i64 1))] false true) fun v68=>VC E F_fq44 [v13,v68.1] (v68.2) fun v70 s71=>gO v70 true s71 (fun k72=>k72 v14 s71) fun v73 s73=>gO v70 true s73 (fun k74=>oM (evBin .eql v73 (.int .i64 6)) fun v75=>k74 v75 s73) fun v76 s76=>oM (vPick v70 v76 (.bool false)) fun v77=>gO v77 true s76 (fun k78=>k78 v15 s76) fun v79 s79=>gO v77 true s79 (fun k80=>oM (evBin .eql v79 (.int .i64 0)) fun v81=>k80 v81 s79) fun v82 s82=>oM (vPick v77 v82 (.bool false)) fun v83=>gO v83 true s82 (fun k84=>k84 v21 s82) fun v85 s85=>gO v83 true s85 (fun k86=>oM (eLit s85 1 [(.int .i64 0),(.int .i64 0),(.int .i64 0)] [(0,1,(.int .i64 3)),(1,1,(.int .i64 7)),(2,1,(.int .i64 5))] false true) fun v87=>k86 v87.1 v87.2) fun v89 s89=>gO v83 true s89 (fun k90=>VC E F_fq44 [v85,v89] s89 fun v91 s92=>k90 v91 s92) fun v93 s93=>oM (vPick v83 v93 (.bool false)) fun v94=>gO v94 true s93 (fun k95=>k95 v22 s93) fun v96 s96=>gO v94 true s96 (fun k97=>oM (evBin .eql v96 (.int .i64 0)) fun v98=>k97 v98 s96) fun v99 s99=>oM (vPick v94 v99 (.bool false)) fun v100=>gO v100 true s99 (fun k101=>k101 v30 s99) fun v102 s102=>gO v100 true s102 (fun k103=>oM (eLit s102 1 [(.int .i64 0),(.int .i64 0),(.int .i64 0)] [(0,1,(.int .i64 2)),(1,1,(.int .i64 0)),(2,1,(.int .i64 1))] false true) fun v104=>k103 v104.1 v104.2) fun v106 s106=>gO v100 true s106 (fun k107=>VC E F_fq44 [v102,v106] s106 fun v108 s109=>k107 v108 s109) fun v110 s110=>oM (vPick v100 v110 (.bool false)) fun v111=>gO v111 true s110 (fun k112=>k112 v31 s110) fun v113 s113=>gO v111 true s113 (fun k114=>oM (evBin .eql v113 (.int .i64 0)) fun v115=>k114 v115 s113) fun v116 s116=>oM (vPick v111 v116 (.bool false)) fun v117=>gO v117 true s116 (fun k118=>k118 v39 s116) fun v119 s119=>gO v117 true s119 (fun k120=>oM (evBin .eql v119 (.int .i64 7)) fun v121=>k120 v121 s119) fun v122 s122=>oM (vPick v117 v122 (.bool false)) fun v123=>gO v123 true s122 (fun k124=>k124 v46 s122) fun v125 s125=>gO v123 true s125 (fun k126=>oM (evBin .eql v125 (.int .i64 0)) fun v127=>k126 v127 s125) fun v128 s128=>oM (vPick v123 v128 (.bool false)) fun v129=>gO v129 true s128 (fun k130=>k130 v47 s128) fun v131 s131=>gO v129 true s131 (fun k132=>oM (evBin .eql v131 (.int .i64 1)) fun v133=>k132 v133 s131) fun v134 s134=>oM (vPick v129 v134 (.bool false)) fun v135=>gO v135 true s134 (fun k136=>k136 v48 s134) fun v137 s137=>gO v135 true s137 (fun k138=>oM (evBin .eql v137 (.int .i64 0)) fun v139=>k138 v139 s137) fun v140 s140=>oM (vPick v135 v140 (.bool false)) fun v141=>gO v141 true s140 (fun k142=>k142 v57 s140) fun v143 s143=>gO v141 true s143 (fun k144=>oM (fillA [(.int .i64 0),(.int .i64 0)] [(0,1,(.int .i64 0)),(1,1,(.int .i64 3))]) fun v145=>k144 (.agg v145) s143) fun v146 s146=>gO v141 true s146 (fun k147=>oM (fillA [(.int .i64 0),(.int .i64 0)] [(0,1,(.int .i64 1)),(1,1,(.int .i64 2))]) fun v148=>k147 (.agg v148) s146) fun v149 s149=>gO v141 true s149 (fun k150=>oM (eLit s149 2 [(.int .i64 0),(.int .i64 0),(.int .i64 0),(.int .i64 0)] [(0,2,v146),(2,2,v149)] false true) fun v151=>k150 v151.1 v151.2) fun v153 s153=>gO v141 true s153 (fun k154=>VC E F_fq46 [v143,v153] s153 fun v155 s156=>k154 v155 s156) fun v157 s157=>oM (vPick v141 v157 (.bool false)) fun v158=>gO v158 true s157 (fun k159=>k159 v58 s157) fun v160 s160=>gO v158 true s160 (fun k161=>oM (evBin .eql v160 (.int .i64 2)) fun v162=>k161 v162 s160) fun v163 s163=>oM (vPick v158 v163 (.bool false)) fun v164=>gO v164 true s163 (fun k165=>k165 v59 s163) fun v166 s166=>gO v164 true s166 (fun k167=>oM (evBin .eql v166 (.int .i64 0)) fun v168=>k167 v168 s166) fun v169 s169=>oM (vPick v164 v169 (.bool false)) fun v170=>gO v170 true s169 (fun k171=>k171 v66 s169) fun v172 s172=>gO v170 true s172 (fun k173=>oM (eLit s172 1 [(.int .i64 0),(.int .i64 0)] [(0,1,(.int .i64 1)),(1,1,(.int .i64 0))] false true) fun v174=>k173 v174.1 v174.2) fun v176 s176=>gO v170 true s176 (fun k177=>VC E F_fq44 [v172,v176] s176 fun v178 s179=>k177 v178 s179) fun v180 s180=>oM (vPick v170 v180 (.bool false)) fun v181=>gO v181 true s180 (fun k182=>k182 v67 s180) fun v183 s183=>gO v181 true s183 (fun k184=>oM (evBin .eql v183 (.int .i64 0)) fun v185=>k184 v185 s183) fun v186 s186=>oM (vPick v181 v186 (.bool false)) fun v187=>Q .ret [v187,v187,v186,v176,v149,v21,v31,v30,v39,v48,v46,v47,v59,v57,v58,v67,v66,v68.1] s186):=by kernel_rfl
theorem fq8.enter {k:Nat} {b:Option Nat} {K:AV→St→Prop} (h:WC ⟨prog,k,some s.heap.length⟩ fq8.n0 [a,.undef,.undef,.undef,.undef,.undef,.undef,.undef,.undef,.undef,.undef,.undef,.undef,.undef,.undef,.undef,.undef,.undef] { s with leak:=false } (RK s.heap.length s.leak fq8.res K)):VC ⟨prog,k + 1,b⟩ F_fq8 [a] s K:=VC_ra (P:=prog) (F':=fq8.fn) rfl fq8.ra fq8.ul rfl h
theorem fq8.ret {n:Nat} {lk:Bool} {K:AV→St→Prop}:RK n lk fq8.res K .ret [a,c,d,f,g,i,j,l,o,p,q,r,t,u,w,y,z,A] s=(K (leave n lk [⟨1,none,(some 1)⟩,⟨2,none,none⟩,⟨3,none,none⟩] [c,d,f] s).1 (leave n lk [⟨1,none,(some 1)⟩,⟨2,none,none⟩,⟨3,none,none⟩] [c,d,f] s).2):=by kernel_rfl
theorem fq8.n0_w:WC E fq8.n0 [a,c,d,f,g,i,j,l,o,p,q,r,t,u,w,y,z,A] s Q=(oM (eBox s 6 a) fun v1=>oM (ld ((push (v1.2) (.cells []))).heap (some 6) v1.1) fun v3=>VC E F_fq23 [v3] ((push (v1.2) (.cells []))) fun v4 s5=>oM (vExt 0 v4) fun v6=>oM (vExt 1 v4) fun v7=>oM (evUn .not v7) fun v8=>cM v8 (WC E fq8.n1 [v1.1,(.sref (v1.2).heap.length 0 0 0 1),(.int .i64 0),(.int .i64 0),g,v8,v6,l,o,p,q,r,t,u,w,y,z,A] s5 (sK (WC E fq8.n2) Q)) ((sK (WC E fq8.n2) Q) .normal [v1.1,(.sref (v1.2).heap.length 0 0 0 1),(.int .i64 0),(.int .i64 0),g,v8,v6,l,o,p,q,r,t,u,w,y,z,A] s5)):=by kernel_rfl
theorem fq8.n1_w:WC E fq8.n1 [a,c,d,f,g,i,j,l,o,p,q,r,t,u,w,y,z,A] s Q=(Q .ret [a,(.sref s.heap.length 0 0 0 1),(.int .i64 0),(.int .i64 2),g,i,j,l,o,p,q,r,t,u,w,y,z,A] (push s (.cells []))):=by kernel_rfl
theorem fq8.n2_w:WC E fq8.n2 [a,c,d,f,g,i,j,l,o,p,q,r,t,u,w,y,z,A] s Q=(VC E F_fq24 [j] s fun v1 s2=>oM (vOff 0 a) fun v3=>oM (ld s2.heap none v3) fun v4=>oM (fillA [(.int .i64 0),(.int .i64 0)] [(0,1,v4),(1,1,(.int .i64 0))]) fun v5=>oM (eStore E.base ((push s2 (.cells [(.int .i64 0),(.int .i64 0)]))) 2 (.ptr s2.heap.length 0 2) (.agg v5)) fun s6=>oM (vIaddr ((push s6 (.cells [(.int .i64 0),(.int .i64 0)]))).heap 1 none v1 (.int .i64 0)) fun v7=>oM (ld ((push s6 (.cells [(.int .i64 0),(.int .i64 0)]))).heap none v7) fun v8=>oM (ld ((push s6 (.cells [(.int .i64 0),(.int .i64 0)]))).heap (some 2) (.ptr s2.heap.length 0 2)) fun v9=>oM (vLook ((push s6 (.cells [(.int .i64 0),(.int .i64 0)]))).heap (.mk true [(.int .i64),(.int .i64)]) (.agg [(.int .i64 0),(.int .i64 0)]) true v8 v9) fun v10=>oM (vExt 0 v10) fun v11=>oM (vExt 1 v10) fun v12=>oM (eStore E.base ((push s6 (.cells [(.int .i64 0),(.int .i64 0)]))) 2 (.ptr s6.heap.length 0 2) v11) fun s13=>(chkRead E.base [a,c,d,f,g,v1,j,(.ptr s6.heap.length 0 2),(.ptr s2.heap.length 0 2),v1,v7,v8,v9,v10,v10,v11,v12,v12] ⟨(some 7),(.alloc [(.int .i64 0),(.int .i64 0)]),none⟩ [((push s6 (.cells [(.int .i64 0),(.int .i64 0)]))).heap]=true)∧oM (evUn .not v12) fun v14=>cM v14 (WC E fq8.n3 [a,c,d,f,g,v1,j,(.ptr s6.heap.length 0 2),(.ptr s2.heap.length 0 2),v14,v7,v8,v9,v10,v10,v11,v12,v12] s13 (sK (WC E fq8.n4) Q)) ((sK (WC E fq8.n4) Q) .normal [a,c,d,f,g,v1,j,(.ptr s6.heap.length 0 2),(.ptr s2.heap.length 0 2),v14,v7,v8,v9,v10,v10,v11,v12,v12] s13)):=by kernel_rfl
theorem fq8.n3_w:WC E fq8.n3 [a,c,d,f,g,i,j,l,o,p,q,r,t,u,w,y,z,A] s Q=(Q .ret [a,(.sref s.heap.length 0 0 0 1),(.int .i64 0),(.int .i64 7),g,i,j,l,o,p,q,r,t,u,w,y,z,A] (push s (.cells []))):=by kernel_rfl
theorem fq8.n4_w:WC E fq8.n4 [a,c,d,f,g,i,j,l,o,p,q,r,t,u,w,y,z,A] s Q=(oM (vOff 3 a) fun v1=>oM (ld s.heap none v1) fun v2=>oM (vLen false v2) fun v3=>(sK (WC E (.block 0 fq8.n5)) (sK (WC E fq8.n9) Q)) .normal [v3,c,d,f,(.int .i64 0),i,j,l,o,p,q,r,t,u,w,y,z,A] s):=by kernel_rfl
theorem fq8.n6_w:WC E fq8.n6 [a,c,d,f,g,i,j,l,o,p,q,r,t,u,w,y,z,A] s Q=(oM (evBin .lss g a) fun v1=>cM v1 ((sK (WC E fq8.n8) Q) .normal [a,c,d,f,g,i,j,l,o,v1,q,r,t,u,w,y,z,A] s) ((sK (WC E fq8.n8) Q) (.exit 0) [a,c,d,f,g,i,j,l,o,v1,q,r,t,u,w,y,z,A] s)):=by kernel_rfl
theorem fq8.n8_w:WC E fq8.n8 [a,c,d,f,g,i,j,l,o,p,q,r,t,u,w,y,z,A] s Q=(oM (vIaddr s.heap 1 none i g) fun v1=>oM (ld s.heap none v1) fun v2=>oM (ld s.heap (some 2) o) fun v3=>oM (vLook s.heap (.mk true [(.int .i64),(.int .i64)]) (.agg [(.int .i64 0),(.int .i64 0)]) false v2 v3) fun v4=>oM (vFld 1 none v4) fun v5=>oM (eLit s 1 [(.int .i64 0)] [(0,1,v5)] false true) fun v6=>oM (eApp E.base (v6.2) 1 8 c v6.1) fun v8=>oM (vOff 0 o) fun v10=>oM (ld (v8.2).heap none v10) fun v11=>VC E F_fq26 [j,g,v11,v5] (v8.2) fun v12 s13=>oM (fillA [(.int .i64 0),(.int .i64 0)] [(0,1,v12),(1,1,v5)]) fun v14=>oM (eStore E.base s13 2 o (.agg v14)) fun s15=>oM (evBin .add g (.int .i64 1)) fun v16=>Q .normal [a,v8.1,d,f,v16,i,j,l,o,v16,v12,r,t,u,w,y,z,A] s15):=by kernel_rfl
theorem fq8.n9_w:WC E fq8.n9 [a,c,d,f,g,i,j,l,o,p,q,r,t,u,w,y,z,A] s Q=(oM (vOff 0 l) fun v1=>oM (ld s.heap none v1) fun v2=>Q .ret [v2,c,v2,(.int .i64 0),g,i,j,l,o,p,q,r,t,u,w,y,z,A] s):=by kernel_rfl
def fq8.n5_J (a d f i j l o r t u w y z A:AV) (I:Nat→AV→AV→St→Prop) (m:Nat) (ρ:Regs) (s:St):Prop:=∃ c g p q:AV,ρ=[a,c,d,f,g,i,j,l,o,p,q,r,t,u,w,y,z,A]∧I m c g s
theorem fq8.n5_go {I:Nat→AV→AV→St→Prop} {m m':Nat} (hm:m' < m) (h:I m' c g s):LK (fq8.n5_J a d f i j l o r t u w y z A I) m Q .normal [a,c,d,f,g,i,j,l,o,p,q,r,t,u,w,y,z,A] s:=⟨m',hm,_,_,_,_,rfl,h⟩
theorem fq8.n5_l (I:Nat→AV→AV→St→Prop) (m:Nat) (hm:m < E.k) (h0:I m c g s) (step:∀ (m:Nat) (c g p q:AV) (s:St),I m c g s→WC E fq8.n6 [a,c,d,f,g,i,j,l,o,p,q,r,t,u,w,y,z,A] s (LK (fq8.n5_J a d f i j l o r t u w y z A I) m Q)):WC E fq8.n5 [a,c,d,f,g,i,j,l,o,p,q,r,t,u,w,y,z,A] s Q:=WC_loop (J:=fq8.n5_J a d f i j l o r t u w y z A I) m hm ⟨_,_,_,_,rfl,h0⟩ (fun m ρ s ⟨c,g,p,q,e,h⟩=>by rw [e]; exact step m c g p q s h)
theorem fq44.enter {k:Nat} {b:Option Nat} {K:AV→St→Prop} (h:WC ⟨prog,k,some s.heap.length⟩ fq44.n0 [a,c,.undef,.undef,.undef,.undef] { s with leak:=false } (RK s.heap.length s.leak fq44.res K)):VC ⟨prog,k + 1,b⟩ F_fq44 [a,c] s K:=VC_ra (P:=prog) (F':=fq44.fn) rfl fq44.ra fq44.ul rfl h
theorem fq44.ret {n:Nat} {lk:Bool} {K:AV→St→Prop}:RK n lk fq44.res K .ret [a,c,d,f,g,i] s=(K (leave n lk [⟨2,none,none⟩] [d] s).1 (leave n lk [⟨2,none,none⟩] [d] s).2):=by kernel_rfl
theorem fq44.n0_w:WC E fq44.n0 [a,c,d,f,g,i] s Q=(oM (vLen false a) fun v1=>oM (vLen false c) fun v2=>oM (evBin .neq v1 v2) fun v3=>cM v3 (WC E fq44.n1 [a,c,(.bool false),f,v3,v2] s (sK (WC E fq44.n2) Q)) ((sK (WC E fq44.n2) Q) .normal [a,c,(.bool false),f,v3,v2] s)):=by kernel_rfl
theorem fq44.n1_w:WC E fq44.n1 [a,c,d,f,g,i] s Q=(Q .ret [a,c,(.bool false),f,g,i] s):=by kernel_rfl
theorem fq44.n2_w:WC E fq44.n2 [a,c,d,f,g,i] s Q=((sK (WC E (.block 0 fq44.n3)) (sK (WC E fq44.n9) Q)) .normal [a,c,d,(.int .i64 0),g,i] s):=by kernel_rfl
theorem fq44.n4_w:WC E fq44.n4 [a,c,d,f,g,i] s Q=(oM (vLen false a) fun v1=>oM (evBin .lss f v1) fun v2=>cM v2 ((sK (WC E fq44.n6) Q) .normal [a,c,d,f,v2,i] s) ((sK (WC E fq44.n6) Q) (.exit 0) [a,c,d,f,v2,i] s)):=by kernel_rfl
theorem fq44.n6_w:WC E fq44.n6 [a,c,d,f,g,i] s Q=(oM (vIaddr s.heap 1 none a f) fun v1=>oM (ld s.heap none v1) fun v2=>oM (vIaddr s.heap 1 none c f) fun v3=>oM (ld s.heap none v3) fun v4=>oM (evBin .neq v2 v4) fun v5=>cM v5 (WC E fq44.n7 [a,c,d,f,v5,v4] s (bK 1 (sK (WC E fq44.n8) Q))) ((bK 1 (sK (WC E fq44.n8) Q)) .normal [a,c,d,f,v5,v4] s)):=by kernel_rfl
theorem fq44.n7_w:WC E fq44.n7 [a,c,d,f,g,i] s Q=(Q .ret [a,c,(.bool false),f,g,i] s):=by kernel_rfl
theorem fq44.n8_w:WC E fq44.n8 [a,c,d,f,g,i] s Q=(oM (evBin .add f (.int .i64 1)) fun v1=>Q .normal [a,c,d,v1,v1,i] s):=by kernel_rfl
theorem fq44.n9_w:WC E fq44.n9 [a,c,d,f,g,i] s Q=(Q .ret [a,c,(.bool true),f,g,i] s):=by kernel_rfl
def fq44.n3_J (a c:AV) (I:Nat→AV→St→Prop) (m:Nat) (ρ:Regs) (s:St):Prop:=∃ d f g i:AV,ρ=[a,c,d,f,g,i]∧I m f s
theorem fq44.n3_go {I:Nat→AV→St→Prop} {m m':Nat} (hm:m' < m) (h:I m' f s):LK (fq44.n3_J a c I) m Q .normal [a,c,d,f,g,i] s:=⟨m',hm,_,_,_,_,rfl,h⟩
theorem fq44.n3_l (I:Nat→AV→St→Prop) (m:Nat) (hm:m < E.k) (h0:I m f s) (step:∀ (m:Nat) (d f g i:AV) (s:St),I m f s→WC E fq44.n4 [a,c,d,f,g,i] s (LK (fq44.n3_J a c I) m Q)):WC E fq44.n3 [a,c,d,f,g,i] s Q:=WC_loop (J:=fq44.n3_J a c I) m hm ⟨_,_,_,_,rfl,h0⟩ (fun m ρ s ⟨d,f,g,i,e,h⟩=>by rw [e]; exact step m d f g i s h)
theorem fq11.enter {k:Nat} {b:Option Nat} {K:AV→St→Prop} (h:WC ⟨prog,k,some s.heap.length⟩ fq11.n0 [a,.undef,.undef,.undef,.undef,.undef,.undef,.undef,.undef,.undef,.undef,.undef,.undef] { s with leak:=false } (RK s.heap.length s.leak fq11.res K)):VC ⟨prog,k + 1,b⟩ F_fq11 [a] s K:=VC_ra (P:=prog) (F':=fq11.fn) rfl fq11.ra fq11.ul rfl h
theorem fq11.ret {n:Nat} {lk:Bool} {K:AV→St→Prop}:RK n lk fq11.res K .ret [a,c,d,f,g,i,j,l,o,p,q,r,t] s=(K (leave n lk [⟨1,none,(some 2)⟩,⟨2,none,none⟩,⟨3,none,none⟩] [c,d,f] s).1 (leave n lk [⟨1,none,(some 2)⟩,⟨2,none,none⟩,⟨3,none,none⟩] [c,d,f] s).2):=by kernel_rfl
theorem fq11.n0_w:WC E fq11.n0 [a,c,d,f,g,i,j,l,o,p,q,r,t] s Q=(oM (eBox s 1 a) fun v1=>oM (ld ((push (v1.2) (.cells []))).heap none v1.1) fun v3=>oM (vLen false v3) fun v4=>oM (evBin .rem v4 (.int .i64 2)) fun v5=>oM (evBin .neq v5 (.int .i64 0)) fun v6=>gO v6 false ((push (v1.2) (.cells []))) (fun k7=>oM (ld ((push (v1.2) (.cells []))).heap none v1.1) fun v8=>k7 v8 (push (v1.2) (.cells []))) fun v9 s9=>gO v6 false s9 (fun k10=>oM (vLen false v9) fun v11=>k10 v11 s9) fun v12 s12=>gO v6 false s12 (fun k13=>oM (evBin .gtr v12 (.int .i64 16)) fun v14=>k13 v14 s12) fun v15 s15=>oM (vPick v6 (.bool true) v15) fun v16=>gO v16 false s15 (fun k17=>oM (ld s15.heap none v1.1) fun v18=>k17 v18 s15) fun v19 s19=>gO v16 false s19 (fun k20=>VC E F_fq50 [v19,(.fn F_fq12 [])] s19 fun v21 s22=>k20 v21 s22) fun v23 s23=>oM (vPick v16 (.bool true) v23) fun v24=>cM v24 (WC E fq11.n1 [v1.1,(.sref (v1.2).heap.length 0 0 0 2),(.int .i64 0),(.int .i64 0),g,v24,v23,l,o,p,q,r,t] s23 (sK (WC E fq11.n2) Q)) ((sK (WC E fq11.n2) Q) .normal [v1.1,(.sref (v1.2).heap.length 0 0 0 2),(.int .i64 0),(.int .i64 0),g,v24,v23,l,o,p,q,r,t] s23)):=by kernel_rfl
theorem fq11.n1_w:WC E fq11.n1 [a,c,d,f,g,i,j,l,o,p,q,r,t] s Q=(Q .ret [a,(.sref s.heap.length 0 0 0 2),(.int .i64 0),(.int .i64 2),g,i,j,l,o,p,q,r,t] (push s (.cells []))):=by kernel_rfl
theorem fq11.n2_w:WC E fq11.n2 [a,c,d,f,g,i,j,l,o,p,q,r,t] s Q=(oM (fillA [(.int .i64 0),(.int .i64 0)] []) fun v1=>oM (eMupd E.base ((push s (.map (.mk false [(.int .u64)]) 0 []))) (.mk false [(.int .u64)]) (.map s.heap.length) (.int .u64 0) (.agg v1)) fun s2=>oM (eStore E.base ((push s2 (.cells [.nilmap]))) 1 (.ptr s2.heap.length 0 1) (.map s.heap.length)) fun s3=>oM (eStore E.base ((push s3 (.cells [.nilfn]))) 1 (.ptr s3.heap.length 0 1) (.fn F_fq13 [(.ptr s2.heap.length 0 1),(.ptr s3.heap.length 0 1),a])) fun s4=>oM (ld s4.heap none a) fun v5=>oM (vLen false v5) fun v6=>oM (evBin .shl (.int .u64 1) v6) fun v7=>oM (evBin .sub v7 (.int .u64 1)) fun v8=>oM (ld s4.heap none (.ptr s3.heap.length 0 1)) fun v9=>VV E v9 [v8] s4 fun v10 s11=>(sK (WC E (.seq (.block 0 fq11.n3) fq11.n7)) Q) .normal [v10,c,v10,f,v8,(.ptr s3.heap.length 0 1),(.ptr s2.heap.length 0 1),(.fn F_fq13 [(.ptr s2.heap.length 0 1),(.ptr s3.heap.length 0 1),a]),o,p,q,r,t] s11):=by kernel_rfl
theorem fq11.n4_w:WC E fq11.n4 [a,c,d,f,g,i,j,l,o,p,q,r,t] s Q=(oM (evBin .neq g (.int .u64 0)) fun v1=>cM v1 ((sK (WC E fq11.n6) Q) .normal [v1,c,d,f,g,i,j,l,o,p,q,r,t] s) ((sK (WC E fq11.n6) Q) (.exit 0) [v1,c,d,f,g,i,j,l,o,p,q,r,t] s)):=by kernel_rfl
theorem fq11.n6_w:WC E fq11.n6 [a,c,d,f,g,i,j,l,o,p,q,r,t] s Q=(VC E F_fq37 [g] s fun v1 s2=>oM (ld s2.heap none j) fun v3=>oM (vLook s2.heap (.mk false [(.int .u64)]) (.agg [(.int .i64 0),(.int .i64 0)]) false v3 g) fun v4=>oM (vFld 1 none v4) fun v5=>(chkRead E.base [g,c,d,f,g,v1,j,v3,g,v4,v5,v1,v5] ⟨(some 7),(.load none (.r 6)),none⟩ [s.heap,s2.heap]=true)∧(chkRead E.base [g,c,d,f,g,v1,j,v3,g,v4,v5,v1,v5] ⟨(some 9),(.look (.mk false [(.int .u64)]) (.agg [(.int .i64 0),(.int .i64 0)]) false (.r 7) (.r 8)),none⟩ [s.heap,s2.heap]=true)∧oM (fillA [(.int .i64 0),(.int .i64 0)] [(0,1,v1),(1,1,v5)]) fun v6=>oM (eLit s2 2 [(.int .i64 0),(.int .i64 0)] [(0,2,(.agg v6))] false true) fun v7=>oM (eApp E.base (v7.2) 2 16 c v7.1) fun v9=>VC E F_fq38 [g,v1] (v9.2) fun v11 s12=>VC E F_fq38 [v11,v5] s12 fun v13 s14=>(bK 1 Q) .normal [v13,v9.1,d,f,v13,v1,j,v3,g,v4,v5,v1,v5] s14):=by kernel_rfl
theorem fq11.n7_w:WC E fq11.n7 [a,c,d,f,g,i,j,l,o,p,q,r,t] s Q=(Q .ret [a,c,d,(.int .i64 0),g,i,j,l,o,p,q,r,t] s):=by kernel_rfl
def fq11.n3_J (d f j:AV) (I:Nat→AV→AV→St→Prop) (m:Nat) (ρ:Regs) (s:St):Prop:=∃ a c g i l o p q r t:AV,ρ=[a,c,d,f,g,i,j,l,o,p,q,r,t]∧I m c g s
theorem fq11.n3_go {I:Nat→AV→AV→St→Prop} {m m':Nat} (hm:m' < m) (h:I m' c g s):LK (fq11.n3_J d f j I) m Q .normal [a,c,d,f,g,i,j,l,o,p,q,r,t] s:=⟨m',hm,_,_,_,_,_,_,_,_,_,_,rfl,h⟩
theorem fq11.n3_l (I:Nat→AV→AV→St→Prop) (m:Nat) (hm:m < E.k) (h0:I m c g s) (step:∀ (m:Nat) (a c g i l o p q r t:AV) (s:St),I m c g s→WC E fq11.n4 [a,c,d,f,g,i,j,l,o,p,q,r,t] s (LK (fq11.n3_J d f j I) m Q)):WC E fq11.n3 [a,c,d,f,g,i,j,l,o,p,q,r,t] s Q:=WC_loop (J:=fq11.n3_J d f j I) m hm ⟨_,_,_,_,_,_,_,_,_,_,rfl,h0⟩ (fun m ρ s ⟨a,c,g,i,l,o,p,q,r,t,e,h⟩=>by rw [e]; exact step m a c g i l o p q r t s h)
theorem fq46.enter {k:Nat} {b:Option Nat} {K:AV→St→Prop} (h:WC ⟨prog,k,some s.heap.length⟩ fq46.n0 [a,c,.undef,.undef,.undef,.undef] { s with leak:=false } (RK s.heap.length s.leak fq46.res K)):VC ⟨prog,k + 1,b⟩ F_fq46 [a,c] s K:=VC_ra (P:=prog) (F':=fq46.fn) rfl fq46.ra fq46.ul rfl h
theorem fq46.ret {n:Nat} {lk:Bool} {K:AV→St→Prop}:RK n lk fq46.res K .ret [a,c,d,f,g,i] s=(K (leave n lk [⟨2,none,none⟩] [d] s).1 (leave n lk [⟨2,none,none⟩] [d] s).2):=by kernel_rfl
theorem fq46.n0_w:WC E fq46.n0 [a,c,d,f,g,i] s Q=(oM (vLen false a) fun v1=>oM (vLen false c) fun v2=>oM (evBin .neq v1 v2) fun v3=>cM v3 (WC E fq46.n1 [a,c,(.bool false),f,v3,v2] s (sK (WC E fq46.n2) Q)) ((sK (WC E fq46.n2) Q) .normal [a,c,(.bool false),f,v3,v2] s)):=by kernel_rfl
theorem fq46.n1_w:WC E fq46.n1 [a,c,d,f,g,i] s Q=(Q .ret [a,c,(.bool false),f,g,i] s):=by kernel_rfl
theorem fq46.n2_w:WC E fq46.n2 [a,c,d,f,g,i] s Q=((sK (WC E (.block 0 fq46.n3)) (sK (WC E fq46.n9) Q)) .normal [a,c,d,(.int .i64 0),g,i] s):=by kernel_rfl
theorem fq46.n4_w:WC E fq46.n4 [a,c,d,f,g,i] s Q=(oM (vLen false a) fun v1=>oM (evBin .lss f v1) fun v2=>cM v2 ((sK (WC E fq46.n6) Q) .normal [a,c,d,f,v2,i] s) ((sK (WC E fq46.n6) Q) (.exit 0) [a,c,d,f,v2,i] s)):=by kernel_rfl
theorem fq46.n6_w:WC E fq46.n6 [a,c,d,f,g,i] s Q=(oM (vIaddr s.heap 2 none a f) fun v1=>oM (ld s.heap (some 2) v1) fun v2=>oM (vIaddr s.heap 2 none c f) fun v3=>oM (ld s.heap (some 2) v3) fun v4=>oM (vEqs true (.sh (.mk true [(.int .i64),(.int .i64)])) v2 v4) fun v5=>cM v5 (WC E fq46.n7 [a,c,d,f,v5,v4] s (bK 1 (sK (WC E fq46.n8) Q))) ((bK 1 (sK (WC E fq46.n8) Q)) .normal [a,c,d,f,v5,v4] s)):=by kernel_rfl
theorem fq46.n7_w:WC E fq46.n7 [a,c,d,f,g,i] s Q=(Q .ret [a,c,(.bool false),f,g,i] s):=by kernel_rfl
theorem fq46.n8_w:WC E fq46.n8 [a,c,d,f,g,i] s Q=(oM (evBin .add f (.int .i64 1)) fun v1=>Q .normal [a,c,d,v1,v1,i] s):=by kernel_rfl
theorem fq46.n9_w:WC E fq46.n9 [a,c,d,f,g,i] s Q=(Q .ret [a,c,(.bool true),f,g,i] s):=by kernel_rfl
def fq46.n3_J (a c:AV) (I:Nat→AV→St→Prop) (m:Nat) (ρ:Regs) (s:St):Prop:=∃ d f g i:AV,ρ=[a,c,d,f,g,i]∧I m f s
theorem fq46.n3_go {I:Nat→AV→St→Prop} {m m':Nat} (hm:m' < m) (h:I m' f s):LK (fq46.n3_J a c I) m Q .normal [a,c,d,f,g,i] s:=⟨m',hm,_,_,_,_,rfl,h⟩
theorem fq46.n3_l (I:Nat→AV→St→Prop) (m:Nat) (hm:m < E.k) (h0:I m f s) (step:∀ (m:Nat) (d f g i:AV) (s:St),I m f s→WC E fq46.n4 [a,c,d,f,g,i] s (LK (fq46.n3_J a c I) m Q)):WC E fq46.n3 [a,c,d,f,g,i] s Q:=WC_loop (J:=fq46.n3_J a c I) m hm ⟨_,_,_,_,rfl,h0⟩ (fun m ρ s ⟨d,f,g,i,e,h⟩=>by rw [e]; exact step m d f g i s h)
theorem fq14.enter {k:Nat} {b:Option Nat} {K:AV→St→Prop} (h:WC ⟨prog,k,some s.heap.length⟩ fq14.n0 [a,c,.undef,.undef,.undef,.undef,.undef,.undef,.undef,.undef,.undef,.undef,.undef,.undef,.undef,.undef,.undef,.undef,.undef,.undef,.undef,.undef,.undef,.undef,.undef,.undef,.undef,.undef] { s with leak:=false } (RK s.heap.length s.leak fq14.res K)):VC ⟨prog,k + 1,b⟩ F_fq14 [a,c] s K:=VC_ra (P:=prog) (F':=fq14.fn) rfl fq14.ra fq14.ul rfl h
theorem fq14.ret {n:Nat} {lk:Bool} {K:AV→St→Prop}:RK n lk fq14.res K .ret [a,c,d,f,g,i,j,l,o,p,q,r,t,u,w,y,z,A,B,C,D,F,G,H,L,M,N,P] s=(K (leave n lk [⟨2,none,(some 1)⟩,⟨3,none,none⟩] [d,f] s).1 (leave n lk [⟨2,none,(some 1)⟩,⟨3,none,none⟩] [d,f] s).2):=by kernel_rfl
theorem fq14.n0_w:WC E fq14.n0 [a,c,d,f,g,i,j,l,o,p,q,r,t,u,w,y,z,A,B,C,D,F,G,H,L,M,N,P] s Q=(VC E F_fq6 [a,c] s fun v1 s2=>oM (evUn .not v1) fun v3=>cM v3 (WC E fq14.n1 [a,c,(.slice true 0 []),(.int .i64 0),g,i,j,l,o,p,v3,r,t,u,w,y,z,A,B,C,D,F,G,H,L,M,N,P] s2 (bK 0 (sK (WC E fq14.n4) Q))) (WC E fq14.n2 [a,c,(.slice true 0 []),(.int .i64 0),g,i,j,l,o,p,v3,r,t,u,w,y,z,A,B,C,D,F,G,H,L,M,N,P] s2 (bK 0 (sK (WC E fq14.n4) Q)))):=by kernel_rfl
theorem fq14.n1_w:WC E fq14.n1 [a,c,d,f,g,i,j,l,o,p,q,r,t,u,w,y,z,A,B,C,D,F,G,H,L,M,N,P] s Q=(Q .ret [a,c,(.slice true 0 []),(.int .i64 2),g,i,j,l,o,p,q,r,t,u,w,y,z,A,B,C,D,F,G,H,L,M,N,P] s):=by kernel_rfl
theorem fq14.n2_w:WC E fq14.n2 [a,c,d,f,g,i,j,l,o,p,q,r,t,u,w,y,z,A,B,C,D,F,G,H,L,M,N,P] s Q=(oM (vLen false c) fun v1=>oM (evBin .eql v1 (.int .i64 100)) fun v2=>cM v2 (WC E fq14.n3 [a,c,d,f,g,i,j,l,o,p,v2,r,t,u,w,y,z,A,B,C,D,F,G,H,L,M,N,P] s Q) (Q .normal [a,c,d,f,g,i,j,l,o,p,v2,r,t,u,w,y,z,A,B,C,D,F,G,H,L,M,N,P] s)):=by kernel_rfl
theorem fq14.n3_w:WC E fq14.n3 [a,c,d,f,g,i,j,l,o,p,q,r,t,u,w,y,z,A,B,C,D,F,G,H,L,M,N,P] s Q=(Q .ret [a,c,(.slice true 0 []),(.int .i64 6),g,i,j,l,o,p,q,r,t,u,w,y,z,A,B,C,D,F,G,H,L,M,N,P] s):=by kernel_rfl
theorem fq14.n4_w:WC E fq14.n4 [a,c,d,f,g,i,j,l,o,p,q,r,t,u,w,y,z,A,B,C,D,F,G,H,L,M,N,P] s Q=(oM (vLen false c) fun v1=>(sK (WC E (.block 1 fq14.n5)) (sK (WC E fq14.n14) Q)) .normal [a,c,d,f,g,i,j,(.int .i64 0),o,p,(.ptr s.heap.length 0 64),v1,t,u,w,y,z,A,B,C,D,F,G,H,L,M,N,P] (push s (.cells [(.int .i64 0),(.int .i64 0),(.int .i64 0),(.int .i64 0),(.int .i64 0),(.int .i64 0),(.int .i64 0),(.int .i64 0),(.int .i64 0),(.int .i64 0),(.int .i64 0),(.int .i64 0),(.int .i64 0),(.int .i64 0),(.int .i64 0),(.int .i64 0),(.int .i64 0),(.int .i64 0),(.int .i64 0),(.int .i64 0),(.int .i64 0),(.int .i64 0),(.int .i64 0),(.int .i64 0),(.int .i64 0),(.int .i64 0),(.int .i64 0),(.int .i64 0),(.int .i64 0),(.int .i64 0),(.int .i64 0),(.int .i64 0),(.int .i64 0),(.int .i64 0),(.int .i64 0),(.int .i64 0),(.int .i64 0),(.int .i64 0),(.int .i64 0),(.int .i64 0),(.int .i64 0),(.int .i64 0),(.int .i64 0),(.int .i64 0),(.int .i64 0),(.int .i64 0),(.int .i64 0),(.int .i64 0),(.int .i64 0),(.int .i64 0),(.int .i64 0),(.int .i64 0),(.int .i64 0),(.int .i64 0),(.int .i64 0),(.int .i64 0),(.int .i64 0),(.int .i64 0),(.int .i64 0),(.int .i64 0),(.int .i64 0),(.int .i64 0),(.int .i64 0),(.int .i64 0)]))):=by kernel_rfl
theorem fq14.n6_w:WC E fq14.n6 [a,c,d,f,g,i,j,l,o,p,q,r,t,u,w,y,z,A,B,C,D,F,G,H,L,M,N,P] s Q=(oM (evBin .lss l r) fun v1=>cM v1 ((sK (WC E fq14.n8) Q) .normal [a,c,d,f,g,i,j,l,o,p,q,r,v1,u,w,y,z,A,B,C,D,F,G,H,L,M,N,P] s) ((sK (WC E fq14.n8) Q) (.exit 1) [a,c,d,f,g,i,j,l,o,p,q,r,v1,u,w,y,z,A,B,C,D,F,G,H,L,M,N,P] s)):=by kernel_rfl
theorem fq14.n8_w:WC E fq14.n8 [a,c,d,f,g,i,j,l,o,p,q,r,t,u,w,y,z,A,B,C,D,F,G,H,L,M,N,P] s Q=(oM (vIaddr s.heap 1 none c l) fun v1=>oM (ld s.heap none v1) fun v2=>oM (vLen false v2) fun v3=>(sK (WC E (.block 3 fq14.n9)) (bK 2 (sK (WC E fq14.n13) Q))) .normal [a,c,d,f,g,i,j,l,(.int .i64 0),p,q,r,v2,v3,w,y,z,A,B,C,D,F,G,H,L,M,N,P] s):=by kernel_rfl
theorem fq14.n10_w:WC E fq14.n10 [a,c,d,f,g,i,j,l,o,p,q,r,t,u,w,y,z,A,B,C,D,F,G,H,L,M,N,P] s Q=(oM (evBin .lss o u) fun v1=>cM v1 ((sK (WC E fq14.n12) Q) .normal [a,c,d,f,g,i,j,l,o,p,q,r,t,u,v1,y,z,A,B,C,D,F,G,H,L,M,N,P] s) ((sK (WC E fq14.n12) Q) (.exit 3) [a,c,d,f,g,i,j,l,o,p,q,r,t,u,v1,y,z,A,B,C,D,F,G,H,L,M,N,P] s)):=by kernel_rfl
theorem fq14.n12_w:WC E fq14.n12 [a,c,d,f,g,i,j,l,o,p,q,r,t,u,w,y,z,A,B,C,D,F,G,H,L,M,N,P] s Q=(oM (vIaddr s.heap 1 none t o) fun v1=>oM (ld s.heap none v1) fun v2=>oM (vIaddr s.heap 8 (some 8) q o) fun v3=>oM (vIaddr s.heap 1 (some 8) v3 v2) fun v4=>oM (ld s.heap none v4) fun v5=>oM (evBin .add v5 (.int .i64 1)) fun v6=>oM (vIaddr s.heap 8 (some 8) q o) fun v7=>oM (vIaddr s.heap 1 (some 8) v7 v2) fun v8=>oM (eStore E.base s 1 v8 v6) fun s9=>oM (evBin .add o (.int .i64 1)) fun v10=>Q .normal [a,c,d,f,g,i,j,l,v10,p,q,r,t,u,v10,v6,v7,A,B,C,D,F,G,H,L,M,N,P] s9):=by kernel_rfl
theorem fq14.n13_w:WC E fq14.n13 [a,c,d,f,g,i,j,l,o,p,q,r,t,u,w,y,z,A,B,C,D,F,G,H,L,M,N,P] s Q=(oM (evBin .add l (.int .i64 1)) fun v1=>Q .normal [a,c,d,f,g,i,j,v1,o,p,q,r,v1,u,w,y,z,A,B,C,D,F,G,H,L,M,N,P] s):=by kernel_rfl
theorem fq14.n14_w:WC E fq14.n14 [a,c,d,f,g,i,j,l,o,p,q,r,t,u,w,y,z,A,B,C,D,F,G,H,L,M,N,P] s Q=(oM (eStore E.base ((push ((push s (.map (.mk false [(.int .u64)]) 0 []))) (.cells [.nilmap]))) 1 (.ptr ((push s (.map (.mk false [(.int .u64)]) 0 []))).heap.length 0 1) (.map s.heap.length)) fun s1=>oM (eStore E.base ((push s1 (.cells [.nilfn]))) 1 (.ptr s1.heap.length 0 1) (.fn F_fq15 [(.ptr ((push s (.map (.mk false [(.int .u64)]) 0 []))).heap.length 0 1),(.ptr s1.heap.length 0 1),q])) fun s2=>oM (evBin .shl (.int .u64 1) a) fun v3=>oM (evBin .sub v3 (.int .u64 1)) fun v4=>(sK (WC E (.block 5 fq14.n15)) (sK (WC E fq14.n26) Q)) .normal [a,(.ptr s1.heap.length 0 1),d,f,v4,(.sref s2.heap.length 0 0 0 1),j,l,o,(.int .i64 0),q,v4,t,u,w,y,z,A,B,C,D,F,G,H,L,M,N,P] (push s2 (.cells []))):=by kernel_rfl
theorem fq14.n16_w:WC E fq14.n16 [a,c,d,f,g,i,j,l,o,p,q,r,t,u,w,y,z,A,B,C,D,F,G,H,L,M,N,P] s Q=(oM (evBin .lss p a) fun v1=>cM v1 ((sK (WC E fq14.n18) Q) .normal [a,c,d,f,g,i,j,l,o,p,q,v1,t,u,w,y,z,A,B,C,D,F,G,H,L,M,N,P] s) ((sK (WC E fq14.n18) Q) (.exit 5) [a,c,d,f,g,i,j,l,o,p,q,v1,t,u,w,y,z,A,B,C,D,F,G,H,L,M,N,P] s)):=by kernel_rfl
theorem fq14.n18_w:WC E fq14.n18 [a,c,d,f,g,i,j,l,o,p,q,r,t,u,w,y,z,A,B,C,D,F,G,H,L,M,N,P] s Q=(oM (ld s.heap none c) fun v1=>VV E v1 [g,p] s fun v2 s3=>(sK (WC E (.block 7 fq14.n19)) (bK 6 (sK (WC E fq14.n25) Q))) .normal [a,c,d,f,g,i,g,l,o,p,q,v2,t,u,w,y,z,A,B,C,D,F,G,H,L,M,N,P] s3):=by kernel_rfl
theorem fq14.n20_w:WC E fq14.n20 [a,c,d,f,g,i,j,l,o,p,q,r,t,u,w,y,z,A,B,C,D,F,G,H,L,M,N,P] s Q=(oM (evBin .neq j (.int .u64 0)) fun v1=>cM v1 ((sK (WC E fq14.n22) Q) .normal [a,c,d,f,g,i,j,l,o,p,q,r,v1,u,w,y,z,A,B,C,D,F,G,H,L,M,N,P] s) ((sK (WC E fq14.n22) Q) (.exit 7) [a,c,d,f,g,i,j,l,o,p,q,r,v1,u,w,y,z,A,B,C,D,F,G,H,L,M,N,P] s)):=by kernel_rfl
theorem fq14.n22_w:WC E fq14.n22 [a,c,d,f,g,i,j,l,o,p,q,r,t,u,w,y,z,A,B,C,D,F,G,H,L,M,N,P] s Q=(VC E F_fq33 [j] s fun v1 s2=>oM (ld s2.heap none c) fun v3=>VC E F_fq36 [g,v1] s2 fun v4 s5=>oM (evBin .add p (.int .i64 1)) fun v6=>VV E v3 [v4,v6] s5 fun v7 s8=>oM (vIaddr s8.heap 8 (some 8) q p) fun v9=>oM (vIaddr s8.heap 1 (some 8) v9 v1) fun v10=>oM (ld s8.heap none v10) fun v11=>oM (evBin .add v7 v11) fun v12=>oM (evBin .eql v12 r) fun v13=>(chkRead E.base [a,c,d,f,g,i,j,l,o,p,q,r,v1,v3,g,v1,v4,p,v6,v7,p,v1,v9,v10,v11,v12,r,v13] ⟨(some 13),(.load none (.r 1)),none⟩ [s2.heap,s5.heap]=true)∧(chkRead E.base [a,c,d,f,g,i,j,l,o,p,q,r,v1,v3,g,v1,v4,p,v6,v7,p,v1,v9,v10,v11,v12,r,v13] ⟨(some 24),(.load none (.r 23)),none⟩ [s2.heap,s5.heap,s8.heap]=true)∧cM v13 (WC E fq14.n23 [a,c,d,f,g,i,j,l,o,p,q,r,v1,v3,g,v1,v4,p,v6,v7,p,v1,v9,v10,v11,v12,r,v13] s8 (bK 8 (sK (WC E fq14.n24) Q))) ((bK 8 (sK (WC E fq14.n24) Q)) .normal [a,c,d,f,g,i,j,l,o,p,q,r,v1,v3,g,v1,v4,p,v6,v7,p,v1,v9,v10,v11,v12,r,v13] s8)):=by kernel_rfl
theorem fq14.n23_w:WC E fq14.n23 [a,c,d,f,g,i,j,l,o,p,q,r,t,u,w,y,z,A,B,C,D,F,G,H,L,M,N,P] s Q=(oM (eLit s 1 [(.int .i64 0)] [(0,1,t)] false true) fun v1=>oM (eApp E.base (v1.2) 1 8 i v1.1) fun v3=>VC E F_fq36 [g,t] (v3.2) fun v5 s6=>Q (.exit 7) [a,c,d,f,v5,v3.1,j,l,o,p,q,v3.1,v5,u,w,y,z,A,B,C,D,F,G,H,L,M,N,P] s6):=by kernel_rfl
theorem fq14.n24_w:WC E fq14.n24 [a,c,d,f,g,i,j,l,o,p,q,r,t,u,w,y,z,A,B,C,D,F,G,H,L,M,N,P] s Q=(VC E F_fq33 [j] s fun v1 s2=>VC E F_fq36 [j,v1] s2 fun v3 s4=>Q .normal [a,c,d,f,g,i,v3,l,o,p,q,r,v3,u,w,y,z,A,B,C,D,F,G,H,L,M,N,P] s4):=by kernel_rfl
theorem fq14.n25_w:WC E fq14.n25 [a,c,d,f,g,i,j,l,o,p,q,r,t,u,w,y,z,A,B,C,D,F,G,H,L,M,N,P] s Q=(oM (evBin .add p (.int .i64 1)) fun v1=>Q .normal [a,c,d,f,g,i,j,l,o,v1,q,v1,t,u,w,y,z,A,B,C,D,F,G,H,L,M,N,P] s):=by kernel_rfl
theorem fq14.n26_w:WC E fq14.n26 [a,c,d,f,g,i,j,l,o,p,q,r,t,u,w,y,z,A,B,C,D,F,G,H,L,M,N,P] s Q=(Q .ret [a,c,i,(.int .i64 0),g,i,j,l,o,p,q,r,t,u,w,y,z,A,B,C,D,F,G,H,L,M,N,P] s):=by kernel_rfl
def fq14.n5_J (a c d f g i j p q r A B C D F G H L M N P:AV) (I:Nat→AV→St→Prop) (m:Nat) (ρ:Regs) (s:St):Prop:=∃ l o t u w y z:AV,ρ=[a,c,d,f,g,i,j,l,o,p,q,r,t,u,w,y,z,A,B,C,D,F,G,H,L,M,N,P]∧I m l s
theorem fq14.n5_go {I:Nat→AV→St→Prop} {m m':Nat} (hm:m' < m) (h:I m' l s):LK (fq14.n5_J a c d f g i j p q r A B C D F G H L M N P I) m Q .normal [a,c,d,f,g,i,j,l,o,p,q,r,t,u,w,y,z,A,B,C,D,F,G,H,L,M,N,P] s:=⟨m',hm,_,_,_,_,_,_,_,rfl,h⟩
theorem fq14.n5_l (I:Nat→AV→St→Prop) (m:Nat) (hm:m < E.k) (h0:I m l s) (step:∀ (m:Nat) (l o t u w y z:AV) (s:St),I m l s→WC E fq14.n6 [a,c,d,f,g,i,j,l,o,p,q,r,t,u,w,y,z,A,B,C,D,F,G,H,L,M,N,P] s (LK (fq14.n5_J a c d f g i j p q r A B C D F G H L M N P I) m Q)):WC E fq14.n5 [a,c,d,f,g,i,j,l,o,p,q,r,t,u,w,y,z,A,B,C,D,F,G,H,L,M,N,P] s Q:=WC_loop (J:=fq14.n5_J a c d f g i j p q r A B C D F G H L M N P I) m hm ⟨_,_,_,_,_,_,_,rfl,h0⟩ (fun m ρ s ⟨l,o,t,u,w,y,z,e,h⟩=>by rw [e]; exact step m l o t u w y z s h)
def fq14.n9_J (a c d f g i j l p q r t u A B C D F G H L M N P:AV) (I:Nat→AV→St→Prop) (m:Nat) (ρ:Regs) (s:St):Prop:=∃ o w y z:AV,ρ=[a,c,d,f,g,i,j,l,o,p,q,r,t,u,w,y,z,A,B,C,D,F,G,H,L,M,N,P]∧I m o s
theorem fq14.n9_go {I:Nat→AV→St→Prop} {m m':Nat} (hm:m' < m) (h:I m' o s):LK (fq14.n9_J a c d f g i j l p q r t u A B C D F G H L M N P I) m Q .normal [a,c,d,f,g,i,j,l,o,p,q,r,t,u,w,y,z,A,B,C,D,F,G,H,L,M,N,P] s:=⟨m',hm,_,_,_,_,rfl,h⟩
theorem fq14.n9_l (I:Nat→AV→St→Prop) (m:Nat) (hm:m < E.k) (h0:I m o s) (step:∀ (m:Nat) (o w y z:AV) (s:St),I m o s→WC E fq14.n10 [a,c,d,f,g,i,j,l,o,p,q,r,t,u,w,y,z,A,B,C,D,F,G,H,L,M,N,P] s (LK (fq14.n9_J a c d f g i j l p q r t u A B C D F G H L M N P I) m Q)):WC E fq14.n9 [a,c,d,f,g,i,j,l,o,p,q,r,t,u,w,y,z,A,B,C,D,F,G,H,L,M,N,P] s Q:=WC_loop (J:=fq14.n9_J a c d f g i j l p q r t u A B C D F G H L M N P I) m hm ⟨_,_,_,_,rfl,h0⟩ (fun m ρ s ⟨o,w,y,z,e,h⟩=>by rw [e]; exact step m o w y z s h)
def fq14.n15_J (a c d f l o q:AV) (I:Nat→AV→AV→AV→St→Prop) (m:Nat) (ρ:Regs) (s:St):Prop:=∃ g i j p r t u w y z A B C D F G H L M N P:AV,ρ=[a,c,d,f,g,i,j,l,o,p,q,r,t,u,w,y,z,A,B,C,D,F,G,H,L,M,N,P]∧I m g i p s
theorem fq14.n15_go {I:Nat→AV→AV→AV→St→Prop} {m m':Nat} (hm:m' < m) (h:I m' g i p s):LK (fq14.n15_J a c d f l o q I) m Q .normal [a,c,d,f,g,i,j,l,o,p,q,r,t,u,w,y,z,A,B,C,D,F,G,H,L,M,N,P] s:=⟨m',hm,_,_,_,_,_,_,_,_,_,_,_,_,_,_,_,_,_,_,_,_,_,rfl,h⟩
theorem fq14.n15_l (I:Nat→AV→AV→AV→St→Prop) (m:Nat) (hm:m < E.k) (h0:I m g i p s) (step:∀ (m:Nat) (g i j p r t u w y z A B C D F G H L M N P:AV) (s:St),I m g i p s→WC E fq14.n16 [a,c,d,f,g,i,j,l,o,p,q,r,t,u,w,y,z,A,B,C,D,F,G,H,L,M,N,P] s (LK (fq14.n15_J a c d f l o q I) m Q)):WC E fq14.n15 [a,c,d,f,g,i,j,l,o,p,q,r,t,u,w,y,z,A,B,C,D,F,G,H,L,M,N,P] s Q:=WC_loop (J:=fq14.n15_J a c d f l o q I) m hm ⟨_,_,_,_,_,_,_,_,_,_,_,_,_,_,_,_,_,_,_,_,_,rfl,h0⟩ (fun m ρ s ⟨g,i,j,p,r,t,u,w,y,z,A,B,C,D,F,G,H,L,M,N,P,e,h⟩=>by rw [e]; exact step m g i j p r t u w y z A B C D F G H L M N P s h)
def fq14.n19_J (a c d f l o p q:AV) (I:Nat→AV→AV→AV→AV→St→Prop) (m:Nat) (ρ:Regs) (s:St):Prop:=∃ g i j r t u w y z A B C D F G H L M N P:AV,ρ=[a,c,d,f,g,i,j,l,o,p,q,r,t,u,w,y,z,A,B,C,D,F,G,H,L,M,N,P]∧I m g i j r s
theorem fq14.n19_go {I:Nat→AV→AV→AV→AV→St→Prop} {m m':Nat} (hm:m' < m) (h:I m' g i j r s):LK (fq14.n19_J a c d f l o p q I) m Q .normal [a,c,d,f,g,i,j,l,o,p,q,r,t,u,w,y,z,A,B,C,D,F,G,H,L,M,N,P] s:=⟨m',hm,_,_,_,_,_,_,_,_,_,_,_,_,_,_,_,_,_,_,_,_,rfl,h⟩
theorem fq14.n19_l (I:Nat→AV→AV→AV→AV→St→Prop) (m:Nat) (hm:m < E.k) (h0:I m g i j r s) (step:∀ (m:Nat) (g i j r t u w y z A B C D F G H L M N P:AV) (s:St),I m g i j r s→WC E fq14.n20 [a,c,d,f,g,i,j,l,o,p,q,r,t,u,w,y,z,A,B,C,D,F,G,H,L,M,N,P] s (LK (fq14.n19_J a c d f l o p q I) m Q)):WC E fq14.n19 [a,c,d,f,g,i,j,l,o,p,q,r,t,u,w,y,z,A,B,C,D,F,G,H,L,M,N,P] s Q:=WC_loop (J:=fq14.n19_J a c d f l o p q I) m hm ⟨_,_,_,_,_,_,_,_,_,_,_,_,_,_,_,_,_,_,_,_,rfl,h0⟩ (fun m ρ s ⟨g,i,j,r,t,u,w,y,z,A,B,C,D,F,G,H,L,M,N,P,e,h⟩=>by rw [e]; exact step m g i j r t u w y z A B C D F G H L M N P s h)
theorem fq6.enter {k:Nat} {b:Option Nat} {K:AV→St→Prop} (h:WC ⟨prog,k,some s.heap.length⟩ fq6.n0 [a,c,.undef,.undef,.undef] { s with leak:=false } (RK s.heap.length s.leak fq6.res K)):VC ⟨prog,k + 1,b⟩ F_fq6 [a,c] s K:=VC_ra (P:=prog) (F':=fq6.fn) rfl fq6.ra fq6.ul rfl h
theorem fq6.ret {n:Nat} {lk:Bool} {K:AV→St→Prop}:RK n lk fq6.res K .ret [a,c,d,f,g] s=(K (leave n lk [⟨2,none,none⟩] [d] s).1 (leave n lk [⟨2,none,none⟩] [d] s).2):=by kernel_rfl
theorem fq6.n0_w:WC E fq6.n0 [a,c,d,f,g] s Q=(oM (eBox s 1 a) fun v1=>oM (ld (v1.2).heap none v1.1) fun v3=>VC E F_fq42 [v3,(.int .i64 1),(.int .i64 8)] (v1.2) fun v4 s5=>oM (evUn .not v4) fun v6=>gO v6 false s5 (fun k7=>k7 c s5) fun v8 s8=>gO v6 false s8 (fun k9=>oM (vLen false v8) fun v10=>k9 v10 s8) fun v11 s11=>gO v6 false s11 (fun k12=>oM (evBin .gtr v11 (.int .i64 100)) fun v13=>k12 v13 s11) fun v14 s14=>oM (vPick v6 (.bool true) v14) fun v15=>cM v15 (WC E fq6.n1 [v1.1,c,(.bool false),v15,v14] s14 (sK (WC E fq6.n2) Q)) ((sK (WC E fq6.n2) Q) .normal [v1.1,c,(.bool false),v15,v14] s14)):=by kernel_rfl
theorem fq6.n1_w:WC E fq6.n1 [a,c,d,f,g] s Q=(Q .ret [a,c,(.bool false),f,g] s):=by kernel_rfl
theorem fq6.n2_w:WC E fq6.n2 [a,c,d,f,g] s Q=(VC E F_fq52 [c,(.fn F_fq7 [a])] s fun v1 s2=>oM (evUn .not v1) fun v3=>Q .ret [v3,c,v3,f,g] s2):=by kernel_rfl
theorem fq45.enter {k:Nat} {b:Option Nat} {K:AV→St→Prop} (h:WC ⟨prog,k,some s.heap.length⟩ fq45.n0 [a,c,.undef,.undef,.undef,.undef,.undef] { s with leak:=false } (RK s.heap.length s.leak fq45.res K)):VC ⟨prog,k + 1,b⟩ F_fq45 [a,c] s K:=VC_ra (P:=prog) (F':=fq45.fn) rfl fq45.ra fq45.ul rfl h
theorem fq45.ret {n:Nat} {lk:Bool} {K:AV→St→Prop}:RK n lk fq45.res K .ret [a,c,d,f,g,i,j] s=(K (leave n lk [⟨2,none,none⟩] [d] s).1 (leave n lk [⟨2,none,none⟩] [d] s).2):=by kernel_rfl
theorem fq45.n0_w:WC E fq45.n0 [a,c,d,f,g,i,j] s Q=((sK (WC E (.block 0 fq45.n1)) (sK (WC E fq45.n14) Q)) .normal [a,c,(.bool false),(.int .i64 0),g,i,j] s):=by kernel_rfl
theorem fq45.n2_w:WC E fq45.n2 [a,c,d,f,g,i,j] s Q=(oM (vLen false c) fun v1=>oM (evBin .lss f v1) fun v2=>cM v2 ((sK (WC E fq45.n4) Q) .normal [a,c,d,f,g,v2,j] s) ((sK (WC E fq45.n4) Q) (.exit 0) [a,c,d,f,g,v2,j] s)):=by kernel_rfl
theorem fq45.n4_w:WC E fq45.n4 [a,c,d,f,g,i,j] s Q=(oM (vIaddr s.heap 1 none c f) fun v1=>oM (ld s.heap none v1) fun v2=>oM (evBin .sub a (.int .i64 1)) fun v3=>VC E F_fq48 [v2,(.int .i64 0),v3] s fun v4 s5=>oM (evUn .not v4) fun v6=>cM v6 (WC E fq45.n5 [a,c,d,f,g,v6,v3] s5 (sK (WC E fq45.n6) (bK 1 (sK (WC E fq45.n13) Q)))) ((sK (WC E fq45.n6) (bK 1 (sK (WC E fq45.n13) Q))) .normal [a,c,d,f,g,v6,v3] s5)):=by kernel_rfl
theorem fq45.n5_w:WC E fq45.n5 [a,c,d,f,g,i,j] s Q=(Q .ret [a,c,(.bool false),f,g,i,j] s):=by kernel_rfl
theorem fq45.n6_w:WC E fq45.n6 [a,c,d,f,g,i,j] s Q=((sK (WC E (.block 2 fq45.n7)) Q) .normal [a,c,d,f,(.int .i64 0),i,j] s):=by kernel_rfl
theorem fq45.n8_w:WC E fq45.n8 [a,c,d,f,g,i,j] s Q=(oM (evBin .lss g f) fun v1=>cM v1 ((sK (WC E fq45.n10) Q) .normal [a,c,d,f,g,v1,j] s) ((sK (WC E fq45.n10) Q) (.exit 2) [a,c,d,f,g,v1,j] s)):=by kernel_rfl
theorem fq45.n10_w:WC E fq45.n10 [a,c,d,f,g,i,j] s Q=(oM (vIaddr s.heap 1 none c g) fun v1=>oM (ld s.heap none v1) fun v2=>oM (vIaddr s.heap 1 none c f) fun v3=>oM (ld s.heap none v3) fun v4=>oM (evBin .eql v2 v4) fun v5=>cM v5 (WC E fq45.n11 [a,c,d,f,g,v5,v4] s (bK 3 (sK (WC E fq45.n12) Q))) ((bK 3 (sK (WC E fq45.n12) Q)) .normal [a,c,d,f,g,v5,v4] s)):=by kernel_rfl
theorem fq45.n11_w:WC E fq45.n11 [a,c,d,f,g,i,j] s Q=(Q .ret [a,c,(.bool false),f,g,i,j] s):=by kernel_rfl
theorem fq45.n12_w:WC E fq45.n12 [a,c,d,f,g,i,j] s Q=(oM (evBin .add g (.int .i64 1)) fun v1=>Q .normal [a,c,d,f,v1,v1,j] s):=by kernel_rfl
theorem fq45.n13_w:WC E fq45.n13 [a,c,d,f,g,i,j] s Q=(oM (evBin .add f (.int .i64 1)) fun v1=>Q .normal [a,c,d,v1,g,v1,j] s):=by kernel_rfl
theorem fq45.n14_w:WC E fq45.n14 [a,c,d,f,g,i,j] s Q=(oM (vLen false c) fun v1=>oM (evBin .eql v1 a) fun v2=>Q .ret [v2,v1,v2,f,g,i,j] s):=by kernel_rfl
def fq45.n1_J (a c:AV) (I:Nat→AV→St→Prop) (m:Nat) (ρ:Regs) (s:St):Prop:=∃ d f g i j:AV,ρ=[a,c,d,f,g,i,j]∧I m f s
theorem fq45.n1_go {I:Nat→AV→St→Prop} {m m':Nat} (hm:m' < m) (h:I m' f s):LK (fq45.n1_J a c I) m Q .normal [a,c,d,f,g,i,j] s:=⟨m',hm,_,_,_,_,_,rfl,h⟩
theorem fq45.n1_l (I:Nat→AV→St→Prop) (m:Nat) (hm:m < E.k) (h0:I m f s) (step:∀ (m:Nat) (d f g i j:AV) (s:St),I m f s→WC E fq45.n2 [a,c,d,f,g,i,j] s (LK (fq45.n1_J a c I) m Q)):WC E fq45.n1 [a,c,d,f,g,i,j] s Q:=WC_loop (J:=fq45.n1_J a c I) m hm ⟨_,_,_,_,_,rfl,h0⟩ (fun m ρ s ⟨d,f,g,i,j,e,h⟩=>by rw [e]; exact step m d f g i j s h)
def fq45.n7_J (a c f:AV) (I:Nat→AV→St→Prop) (m:Nat) (ρ:Regs) (s:St):Prop:=∃ d g i j:AV,ρ=[a,c,d,f,g,i,j]∧I m g s
theorem fq45.n7_go {I:Nat→AV→St→Prop} {m m':Nat} (hm:m' < m) (h:I m' g s):LK (fq45.n7_J a c f I) m Q .normal [a,c,d,f,g,i,j] s:=⟨m',hm,_,_,_,_,rfl,h⟩
theorem fq45.n7_l (I:Nat→AV→St→Prop) (m:Nat) (hm:m < E.k) (h0:I m g s) (step:∀ (m:Nat) (d g i j:AV) (s:St),I m g s→WC E fq45.n8 [a,c,d,f,g,i,j] s (LK (fq45.n7_J a c f I) m Q)):WC E fq45.n7 [a,c,d,f,g,i,j] s Q:=WC_loop (J:=fq45.n7_J a c f I) m hm ⟨_,_,_,_,rfl,h0⟩ (fun m ρ s ⟨d,g,i,j,e,h⟩=>by rw [e]; exact step m d g i j s h)
theorem fq47.enter {k:Nat} {b:Option Nat} {K:AV→St→Prop} (h:WC ⟨prog,k,some s.heap.length⟩ fq47.n0 [a,c,d,.undef,.undef,.undef,.undef] { s with leak:=false } (RK s.heap.length s.leak fq47.res K)):VC ⟨prog,k + 1,b⟩ F_fq47 [a,c,d] s K:=VC_ra (P:=prog) (F':=fq47.fn) rfl fq47.ra fq47.ul rfl h
theorem fq47.ret {n:Nat} {lk:Bool} {K:AV→St→Prop}:RK n lk fq47.res K .ret [a,c,d,f,g,i,j] s=(K (leave n lk [⟨3,none,none⟩] [f] s).1 (leave n lk [⟨3,none,none⟩] [f] s).2):=by kernel_rfl
theorem fq47.n0_w:WC E fq47.n0 [a,c,d,f,g,i,j] s Q=((sK (WC E (.block 0 fq47.n1)) (sK (WC E fq47.n7) Q)) .normal [a,c,d,(.int .i64 0),(.int .i64 0),(.int .i64 0),j] s):=by kernel_rfl
theorem fq47.n2_w:WC E fq47.n2 [a,c,d,f,g,i,j] s Q=(oM (vLen false a) fun v1=>oM (evBin .lss i v1) fun v2=>cM v2 ((sK (WC E fq47.n4) Q) .normal [a,c,d,f,g,i,v2] s) ((sK (WC E fq47.n4) Q) (.exit 0) [a,c,d,f,g,i,v2] s)):=by kernel_rfl
theorem fq47.n4_w:WC E fq47.n4 [a,c,d,f,g,i,j] s Q=(oM (vIaddr s.heap 1 none a i) fun v1=>oM (ld s.heap none v1) fun v2=>oM (vIaddr s.heap 1 none v2 c) fun v3=>oM (ld s.heap none v3) fun v4=>oM (evBin .eql v4 d) fun v5=>cM v5 (WC E fq47.n5 [a,c,d,f,g,i,v5] s (bK 1 (sK (WC E fq47.n6) Q))) ((bK 1 (sK (WC E fq47.n6) Q)) .normal [a,c,d,f,g,i,v5] s)):=by kernel_rfl
theorem fq47.n5_w:WC E fq47.n5 [a,c,d,f,g,i,j] s Q=(oM (evBin .add g (.int .i64 1)) fun v1=>Q .normal [a,c,d,f,v1,i,v1] s):=by kernel_rfl
theorem fq47.n6_w:WC E fq47.n6 [a,c,d,f,g,i,j] s Q=(oM (evBin .add i (.int .i64 1)) fun v1=>Q .normal [a,c,d,f,g,v1,v1] s):=by kernel_rfl
theorem fq47.n7_w:WC E fq47.n7 [a,c,d,f,g,i,j] s Q=(Q .ret [a,c,d,g,g,i,j] s):=by kernel_rfl
def fq47.n1_J (a c d f:AV) (I:Nat→AV→AV→St→Prop) (m:Nat) (ρ:Regs) (s:St):Prop:=∃ g i j:AV,ρ=[a,c,d,f,g,i,j]∧I m g i s
theorem fq47.n1_go {I:Nat→AV→AV→St→Prop} {m m':Nat} (hm:m' < m) (h:I m' g i s):LK (fq47.n1_J a c d f I) m Q .normal [a,c,d,f,g,i,j] s:=⟨m',hm,_,_,_,rfl,h⟩
theorem fq47.n1_l (I:Nat→AV→AV→St→Prop) (m:Nat) (hm:m < E.k) (h0:I m g i s) (step:∀ (m:Nat) (g i j:AV) (s:St),I m g i s→WC E fq47.n2 [a,c,d,f,g,i,j] s (LK (fq47.n1_J a c d f I) m Q)):WC E fq47.n1 [a,c,d,f,g,i,j] s Q:=WC_loop (J:=fq47.n1_J a c d f I) m hm ⟨_,_,_,rfl,h0⟩ (fun m ρ s ⟨g,i,j,e,h⟩=>by rw [e]; exact step m g i j s h)
theorem fq10.enter {k:Nat} {b:Option Nat} {K:AV→St→Prop} (h:WC ⟨prog,k,some s.heap.length⟩ fq10.n0 [a,c,.undef,.undef,.undef,.undef,.undef,.undef,.undef] { s with leak:=false } (RK s.heap.length s.leak fq10.res K)):VC ⟨prog,k + 1,b⟩ F_fq10 [a,c] s K:=VC_ra (P:=prog) (F':=fq10.fn) rfl fq10.ra fq10.ul rfl h
theorem fq10.ret {n:Nat} {lk:Bool} {K:AV→St→Prop}:RK n lk fq10.res K .ret [a,c,d,f,g,i,j,l,o] s=(K (leave n lk [⟨2,none,(some 1)⟩,⟨3,none,none⟩] [d,f] s).1 (leave n lk [⟨2,none,(some 1)⟩,⟨3,none,none⟩] [d,f] s).2):=by kernel_rfl
theorem fq10.n0_w:WC E fq10.n0 [a,c,d,f,g,i,j,l,o] s Q=(oM (eBox s 6 a) fun v1=>oM (ld (v1.2).heap (some 6) v1.1) fun v3=>VC E F_fq28 [v3,c] (v1.2) fun v4 s5=>oM (vExt 0 v4) fun v6=>oM (vExt 1 v4) fun v7=>oM (evUn .not v7) fun v8=>cM v8 (WC E fq10.n1 [v1.1,c,(.slice true 0 []),(.int .i64 0),g,i,j,v8,v6] s5 (sK (WC E fq10.n2) Q)) ((sK (WC E fq10.n2) Q) .normal [v1.1,c,(.slice true 0 []),(.int .i64 0),g,i,j,v8,v6] s5)):=by kernel_rfl
theorem fq10.n1_w:WC E fq10.n1 [a,c,d,f,g,i,j,l,o] s Q=(Q .ret [a,c,(.slice true 0 []),(.int .i64 2),g,i,j,l,o] s):=by kernel_rfl
theorem fq10.n2_w:WC E fq10.n2 [a,c,d,f,g,i,j,l,o] s Q=(oM (vOff 0 a) fun v1=>oM (ld ((push s (.cells []))).heap none v1) fun v2=>oM (vLen false c) fun v3=>(sK (WC E (.block 0 fq10.n3)) (sK (WC E fq10.n7) Q)) .normal [v3,c,d,f,(.sref s.heap.length 0 0 0 1),v2,(.int .i64 0),l,o] (push s (.cells []))):=by kernel_rfl
theorem fq10.n4_w:WC E fq10.n4 [a,c,d,f,g,i,j,l,o] s Q=(oM (evBin .lss j a) fun v1=>cM v1 ((sK (WC E fq10.n6) Q) .normal [a,c,d,f,g,i,j,v1,o] s) ((sK (WC E fq10.n6) Q) (.exit 0) [a,c,d,f,g,i,j,v1,o] s)):=by kernel_rfl
theorem fq10.n6_w:WC E fq10.n6 [a,c,d,f,g,i,j,l,o] s Q=(oM (vIaddr s.heap 1 none c j) fun v1=>oM (ld s.heap none v1) fun v2=>VC E F_fq26 [o,j,i,v2] s fun v3 s4=>oM (eLit s4 1 [(.int .i64 0)] [(0,1,v3)] false true) fun v5=>oM (eApp E.base (v5.2) 1 8 g v5.1) fun v7=>oM (evBin .add j (.int .i64 1)) fun v9=>Q .normal [a,c,d,f,v7.1,v3,v9,v9,o] (v7.2)):=by kernel_rfl
theorem fq10.n7_w:WC E fq10.n7 [a,c,d,f,g,i,j,l,o] s Q=(Q .ret [a,c,g,(.int .i64 0),g,i,j,l,o] s):=by kernel_rfl
def fq10.n3_J (a c d f o:AV) (I:Nat→AV→AV→AV→St→Prop) (m:Nat) (ρ:Regs) (s:St):Prop:=∃ g i j l:AV,ρ=[a,c,d,f,g,i,j,l,o]∧I m g i j s
theorem fq10.n3_go {I:Nat→AV→AV→AV→St→Prop} {m m':Nat} (hm:m' < m) (h:I m' g i j s):LK (fq10.n3_J a c d f o I) m Q .normal [a,c,d,f,g,i,j,l,o] s:=⟨m',hm,_,_,_,_,rfl,h⟩
theorem fq10.n3_l (I:Nat→AV→AV→AV→St→Prop) (m:Nat) (hm:m < E.k) (h0:I m g i j s) (step:∀ (m:Nat) (g i j l:AV) (s:St),I m g i j s→WC E fq10.n4 [a,c,d,f,g,i,j,l,o] s (LK (fq10.n3_J a c d f o I) m Q)):WC E fq10.n3 [a,c,d,f,g,i,j,l,o] s Q:=WC_loop (J:=fq10.n3_J a c d f o I) m hm ⟨_,_,_,_,rfl,h0⟩ (fun m ρ s ⟨g,i,j,l,e,h⟩=>by rw [e]; exact step m g i j l s h)
theorem fq5.enter {k:Nat} {b:Option Nat} {K:AV→St→Prop} (h:WC ⟨prog,k,some s.heap.length⟩ fq5.n0 [a,.undef,.undef,.undef,.undef,.undef,.undef,.undef] { s with leak:=false } (RK s.heap.length s.leak fq5.res K)):VC ⟨prog,k + 1,b⟩ F_fq5 [a] s K:=VC_ra (P:=prog) (F':=fq5.fn) rfl fq5.ra fq5.ul rfl h
theorem fq5.ret {n:Nat} {lk:Bool} {K:AV→St→Prop}:RK n lk fq5.res K .ret [a,c,d,f,g,i,j,l] s=(K (leave n lk [⟨1,none,none⟩] [c] s).1 (leave n lk [⟨1,none,none⟩] [c] s).2):=by kernel_rfl
theorem fq5.n0_w:WC E fq5.n0 [a,c,d,f,g,i,j,l] s Q=(oM (eBox s 6 a) fun v1=>oM (vOff 5 v1.1) fun v3=>oM (ld (v1.2).heap none v3) fun v4=>oM (vLen false v4) fun v5=>(sK (WC E (.block 0 fq5.n1)) (sK (WC E fq5.n7) Q)) .normal [v1.1,(.bool false),(.int .i64 0),v4,v5,i,j,l] (v1.2)):=by kernel_rfl
theorem fq5.n2_w:WC E fq5.n2 [a,c,d,f,g,i,j,l] s Q=(oM (evBin .lss d g) fun v1=>cM v1 ((sK (WC E fq5.n4) Q) .normal [a,c,d,f,g,v1,j,l] s) ((sK (WC E fq5.n4) Q) (.exit 0) [a,c,d,f,g,v1,j,l] s)):=by kernel_rfl
theorem fq5.n4_w:WC E fq5.n4 [a,c,d,f,g,i,j,l] s Q=(oM (vIaddr s.heap 3 none f d) fun v1=>oM (ld s.heap (some 3) v1) fun v2=>oM (eStore E.base ((push s (.cells [(.int .i64 0),(.int .i64 0),(.int .i64 0)]))) 3 (.ptr s.heap.length 0 3) v2) fun s3=>oM (vOff 0 (.ptr s.heap.length 0 3)) fun v4=>oM (ld s3.heap none v4) fun v5=>oM (vOff 1 (.ptr s.heap.length 0 3)) fun v6=>oM (ld s3.heap none v6) fun v7=>oM (vOff 2 (.ptr s.heap.length 0 3)) fun v8=>oM (ld s3.heap none v8) fun v9=>oM (eLit s3 1 [(.int .i64 0),(.int .i64 0),(.int .i64 0)] [(0,1,v5),(1,1,v7),(2,1,v9)] false true) fun v10=>VC E F_fq19 [v10.1] (v10.2) fun v12 s13=>oM (evUn .not v12) fun v14=>cM v14 (WC E fq5.n5 [a,c,d,f,g,v14,v9,v7] s13 (bK 1 (sK (WC E fq5.n6) Q))) ((bK 1 (sK (WC E fq5.n6) Q)) .normal [a,c,d,f,g,v14,v9,v7] s13)):=by kernel_rfl
theorem fq5.n5_w:WC E fq5.n5 [a,c,d,f,g,i,j,l] s Q=(Q .ret [a,(.bool false),d,f,g,i,j,l] s):=by kernel_rfl
theorem fq5.n6_w:WC E fq5.n6 [a,c,d,f,g,i,j,l] s Q=(oM (evBin .add d (.int .i64 1)) fun v1=>Q .normal [a,c,v1,f,g,v1,j,l] s):=by kernel_rfl
theorem fq5.n7_w:WC E fq5.n7 [a,c,d,f,g,i,j,l] s Q=(oM (vOff 1 a) fun v1=>oM (ld s.heap none v1) fun v2=>VC E F_fq42 [v2,(.int .i64 (-1000000)),(.int .i64 1000000)] s fun v3 s4=>gO v3 true s4 (fun k5=>oM (vOff 2 a) fun v6=>k5 v6 s4) fun v7 s7=>gO v3 true s7 (fun k8=>oM (ld s7.heap none v7) fun v9=>k8 v9 s7) fun v10 s10=>gO v3 true s10 (fun k11=>oM (vOff 1 a) fun v12=>k11 v12 s10) fun v13 s13=>gO v3 true s13 (fun k14=>oM (ld s13.heap none v13) fun v15=>k14 v15 s13) fun v16 s16=>gO v3 true s16 (fun k17=>oM (vOff 1 a) fun v18=>k17 v18 s16) fun v19 s19=>gO v3 true s19 (fun k20=>oM (ld s19.heap none v19) fun v21=>k20 v21 s19) fun v22 s22=>gO v3 true s22 (fun k23=>oM (evBin .add v22 (.int .i64 1000)) fun v24=>k23 v24 s22) fun v25 s25=>gO v3 true s25 (fun k26=>VC E F_fq42 [v10,v16,v25] s25 fun v27 s28=>k26 v27 s28) fun v29 s29=>oM (vPick v3 v29 (.bool false)) fun v30=>gO v30 true s29 (fun k31=>oM (vOff 0 a) fun v32=>k31 v32 s29) fun v33 s33=>gO v30 true s33 (fun k34=>oM (ld s33.heap none v33) fun v35=>k34 v35 s33) fun v36 s36=>gO v30 true s36 (fun k37=>oM (vOff 1 a) fun v38=>k37 v38 s36) fun v39 s39=>gO v30 true s39 (fun k40=>oM (ld s39.heap none v39) fun v41=>k40 v41 s39) fun v42 s42=>gO v30 true s42 (fun k43=>oM (vOff 2 a) fun v44=>k43 v44 s42) fun v45 s45=>gO v30 true s45 (fun k46=>oM (ld s45.heap none v45) fun v47=>k46 v47 s45) fun v48 s48=>gO v30 true s48 (fun k49=>VC E F_fq42 [v36,v42,v48] s48 fun v50 s51=>k49 v50 s51) fun v52 s52=>oM (vPick v30 v52 (.bool false)) fun v53=>oM (vOff 3 a) fun v54=>oM (ld s52.heap none v54) fun v55=>oM (vLen false v55) fun v56=>oM (vOff 4 a) fun v57=>oM (ld s52.heap none v57) fun v58=>oM (vLen false v58) fun v59=>oM (evBin .eql v56 v59) fun v60=>gO v60 true s52 (fun k61=>oM (vOff 3 a) fun v62=>k61 v62 s52) fun v63 s63=>gO v60 true s63 (fun k64=>oM (ld s63.heap none v63) fun v65=>k64 v65 s63) fun v66 s66=>gO v60 true s66 (fun k67=>oM (vLen false v66) fun v68=>k67 v68 s66) fun v69 s69=>gO v60 true s69 (fun k70=>oM (evBin .leq v69 (.int .i64 48)) fun v71=>k70 v71 s69) fun v72 s72=>oM (vPick v60 v72 (.bool false)) fun v73=>gO v73 true s72 (fun k74=>oM (vOff 3 a) fun v75=>k74 v75 s72) fun v76 s76=>gO v73 true s76 (fun k77=>oM (ld s76.heap none v76) fun v78=>k77 v78 s76) fun v79 s79=>gO v73 true s79 (fun k80=>VC E F_fq19 [v79] s79 fun v81 s82=>k80 v81 s82) fun v83 s83=>oM (vPick v73 v83 (.bool false)) fun v84=>gO v84 true s83 (fun k85=>oM (vOff 4 a) fun v86=>k85 v86 s83) fun v87 s87=>gO v84 true s87 (fun k88=>oM (ld s87.heap none v87) fun v89=>k88 v89 s87) fun v90 s90=>gO v84 true s90 (fun k91=>VC E F_fq19 [v90] s90 fun v92 s93=>k91 v92 s93) fun v94 s94=>oM (vPick v84 v94 (.bool false)) fun v95=>gO v53 true s94 (fun k96=>k96 v95 s94) fun v97 s97=>oM (vPick v53 v97 (.bool false)) fun v98=>gO v98 true s97 (fun k99=>oM (vOff 5 a) fun v100=>k99 v100 s97) fun v101 s101=>gO v98 true s101 (fun k102=>oM (ld s101.heap none v101) fun v103=>k102 v103 s101) fun v104 s104=>gO v98 true s104 (fun k105=>oM (vLen false v104) fun v106=>k105 v106 s104) fun v107 s107=>gO v98 true s107 (fun k108=>oM (evBin .leq v107 (.int .i64 4)) fun v109=>k108 v109 s107) fun v110 s110=>oM (vPick v98 v110 (.bool false)) fun v111=>Q .ret [v111,v111,d,v98,v97,v94,v48,l] s110):=by kernel_rfl
def fq5.n1_J (a f g:AV) (I:Nat→AV→St→Prop) (m:Nat) (ρ:Regs) (s:St):Prop:=∃ c d i j l:AV,ρ=[a,c,d,f,g,i,j,l]∧I m d s
theorem fq5.n1_go {I:Nat→AV→St→Prop} {m m':Nat} (hm:m' < m) (h:I m' d s):LK (fq5.n1_J a f g I) m Q .normal [a,c,d,f,g,i,j,l] s:=⟨m',hm,_,_,_,_,_,rfl,h⟩
theorem fq5.n1_l (I:Nat→AV→St→Prop) (m:Nat) (hm:m < E.k) (h0:I m d s) (step:∀ (m:Nat) (c d i j l:AV) (s:St),I m d s→WC E fq5.n2 [a,c,d,f,g,i,j,l] s (LK (fq5.n1_J a f g I) m Q)):WC E fq5.n1 [a,c,d,f,g,i,j,l] s Q:=WC_loop (J:=fq5.n1_J a f g I) m hm ⟨_,_,_,_,_,rfl,h0⟩ (fun m ρ s ⟨c,d,i,j,l,e,h⟩=>by rw [e]; exact step m c d i j l s h)
theorem fq16.enter {k:Nat} {b:Option Nat} {K:AV→St→Prop} (h:WC ⟨prog,k,some s.heap.length⟩ fq16.n0 [a,c,.undef,.undef,.undef,.undef,.undef,.undef,.undef,.undef,.undef,.undef,.undef,.undef,.undef,.undef,.undef,.undef,.undef,.undef,.undef,.undef,.undef,.undef,.undef,.undef,.undef,.undef,.undef,.undef,.undef,.undef,.undef,.undef,.undef,.undef,.undef,.undef,.undef,.undef,.undef,.undef,.undef,.undef,.undef,.undef,.undef,.undef,.undef,.undef,.undef,.undef,.undef,.undef,.undef,.undef,.undef,.undef,.undef,.undef,.undef,.undef,.undef,.undef,.undef,.undef,.undef] { s with leak:=false } (RK s.heap.length s.leak fq16.res K)):VC ⟨prog,k + 1,b⟩ F_fq16 [a,c] s K:=VC_enter (P:=prog) (F:=fq16.fn) (congrArg (fun x=>some (AEntry.code x)) fq16.same) rfl h
theorem fq16.n0_w:WC E fq16.n0 [a,c,d,f,g,i,j,l,o,p,q,r,t,u,w,y,z,A,B,C,D,F,G,H,L,M,N,P,R,T,U,V,W,X,Y,Z,a0,a1,a2,a3,a4,a5,a6,a7,a8,a9,c0,c1,c2,c3,c4,c5,c6,c7,c8,c9,d0,d1,d2,d3,d4,d5,d6,d7,d8,d9,f0] s Q=(oM (eBox s 1 a) fun v1=>oM (eBox (v1.2) 1 c) fun v3=>oM (ld ((push ((push (v3.2) (.cells [(.slice true 0 [])]))) (.cells [(.int .i64 0)]))).heap none v1.1) fun v5=>oM (ld ((push ((push (v3.2) (.cells [(.slice true 0 [])]))) (.cells [(.int .i64 0)]))).heap none v3.1) fun v6=>VC E F_fq18 [v5,v6] ((push ((push (v3.2) (.cells [(.slice true 0 [])]))) (.cells [(.int .i64 0)]))) fun v7 s8=>oM (evBin .neq v7 (.int .i64 0)) fun v9=>cM v9 (WC E fq16.n1 [a,c,v1.1,v3.1,(.ptr (v3.2).heap.length 0 1),(.ptr ((push (v3.2) (.cells [(.slice true 0 [])]))).heap.length 0 1),v7,l,o,p,q,r,t,u,w,v5,v6,v7,v7,v9,D,F,G,H,L,M,N,P,R,T,U,V,W,X,Y,Z,a0,a1,a2,a3,a4,a5,a6,a7,a8,a9,c0,c1,c2,c3,c4,c5,c6,c7,c8,c9,d0,d1,d2,d3,d4,d5,d6,d7,d8,d9,f0] s8 (sK (WC E fq16.n2) Q)) ((sK (WC E fq16.n2) Q) .normal [a,c,v1.1,v3.1,(.ptr (v3.2).heap.length 0 1),(.ptr ((push (v3.2) (.cells [(.slice true 0 [])]))).heap.length 0 1),v7,l,o,p,q,r,t,u,w,v5,v6,v7,v7,v9,D,F,G,H,L,M,N,P,R,T,U,V,W,X,Y,Z,a0,a1,a2,a3,a4,a5,a6,a7,a8,a9,c0,c1,c2,c3,c4,c5,c6,c7,c8,c9,d0,d1,d2,d3,d4,d5,d6,d7,d8,d9,f0] s8)):=by kernel_rfl
theorem fq16.n2_w:WC E fq16.n2 [a,c,d,f,g,i,j,l,o,p,q,r,t,u,w,y,z,A,B,C,D,F,G,H,L,M,N,P,R,T,U,V,W,X,Y,Z,a0,a1,a2,a3,a4,a5,a6,a7,a8,a9,c0,c1,c2,c3,c4,c5,c6,c7,c8,c9,d0,d1,d2,d3,d4,d5,d6,d7,d8,d9,f0] s Q=(oM (ld s.heap none d) fun v1=>oM (vLen false v1) fun v2=>oM (eMksl s 1 8 [(.int .i64 0)] v2 v2) fun v3=>oM (eStore E.base ((push (v3.2) (.cells [(.slice true 0 [])]))) 1 (.ptr (v3.2).heap.length 0 1) v3.1) fun s5=>oM (fillA [(.slice true 0 []),.nilfn] [(1,1,(.fn F_fq17 [d]))]) fun v6=>oM (eStore E.base ((push s5 (.cells [(.slice true 0 []),.nilfn]))) 2 (.ptr s5.heap.length 0 2) (.agg v6)) fun s7=>oM (ld s7.heap none d) fun v8=>VC E F_fq40 [v8] s7 fun v9 s10=>(sK (WC E (.block 0 fq16.n3)) (sK (WC E fq16.n18) Q)) .normal [a,c,d,f,g,i,j,(.ptr (v3.2).heap.length 0 1),(.ptr s5.heap.length 0 2),p,q,r,t,u,w,y,z,A,B,C,D,v1,v2,v3.1,(.fn F_fq17 [d]),(.agg v6),v8,v9,R,T,U,V,W,X,Y,Z,a0,a1,a2,a3,a4,a5,a6,a7,a8,a9,c0,c1,c2,c3,c4,c5,c6,c7,c8,c9,d0,d1,d2,d3,d4,d5,d6,d7,d8,d9,f0] s10):=by kernel_rfl
theorem fq16.n4_w:WC E fq16.n4 [a,c,d,f,g,i,j,l,o,p,q,r,t,u,w,y,z,A,B,C,D,F,G,H,L,M,N,P,R,T,U,V,W,X,Y,Z,a0,a1,a2,a3,a4,a5,a6,a7,a8,a9,c0,c1,c2,c3,c4,c5,c6,c7,c8,c9,d0,d1,d2,d3,d4,d5,d6,d7,d8,d9,f0] s Q=(Q .normal [a,c,d,f,g,i,j,l,o,R,T,r,t,u,w,y,z,A,B,C,D,F,G,H,L,M,N,P,R,T,U,V,W,X,Y,Z,a0,a1,a2,a3,a4,a5,a6,a7,a8,a9,c0,c1,c2,c3,c4,c5,c6,c7,c8,c9,d0,d1,d2,d3,d4,d5,d6,d7,d8,d9,f0] s):=by kernel_rfl
theorem fq16.n5_w:WC E fq16.n5 [a,c,d,f,g,i,j,l,o,p,q,r,t,u,w,y,z,A,B,C,D,F,G,H,L,M,N,P,R,T,U,V,W,X,Y,Z,a0,a1,a2,a3,a4,a5,a6,a7,a8,a9,c0,c1,c2,c3,c4,c5,c6,c7,c8,c9,d0,d1,d2,d3,d4,d5,d6,d7,d8,d9,f0] s Q=(oM (vLen false q) fun v1=>(sK (WC E (.block 2 fq16.n6)) (sK (WC E fq16.n10) (bK 1 Q))) .normal [a,c,d,f,g,i,j,l,o,p,q,r,t,u,w,y,z,A,B,C,D,F,G,H,L,M,N,P,R,T,q,v1,(.int .i64 0),X,Y,Z,a0,a1,a2,a3,a4,a5,a6,a7,a8,a9,c0,c1,c2,c3,c4,c5,c6,c7,c8,c9,d0,d1,d2,d3,d4,d5,d6,d7,d8,d9,f0] s):=by kernel_rfl
theorem fq16.n7_w:WC E fq16.n7 [a,c,d,f,g,i,j,l,o,p,q,r,t,u,w,y,z,A,B,C,D,F,G,H,L,M,N,P,R,T,U,V,W,X,Y,Z,a0,a1,a2,a3,a4,a5,a6,a7,a8,a9,c0,c1,c2,c3,c4,c5,c6,c7,c8,c9,d0,d1,d2,d3,d4,d5,d6,d7,d8,d9,f0] s Q=(oM (evBin .lss W V) fun v1=>cM v1 ((sK (WC E fq16.n9) Q) .normal [a,c,d,f,g,i,j,l,o,p,q,r,t,u,w,y,z,A,B,C,D,F,G,H,L,M,N,P,R,T,U,V,W,v1,Y,Z,a0,a1,a2,a3,a4,a5,a6,a7,a8,a9,c0,c1,c2,c3,c4,c5,c6,c7,c8,c9,d0,d1,d2,d3,d4,d5,d6,d7,d8,d9,f0] s) ((sK (WC E fq16.n9) Q) (.exit 2) [a,c,d,f,g,i,j,l,o,p,q,r,t,u,w,y,z,A,B,C,D,F,G,H,L,M,N,P,R,T,U,V,W,v1,Y,Z,a0,a1,a2,a3,a4,a5,a6,a7,a8,a9,c0,c1,c2,c3,c4,c5,c6,c7,c8,c9,d0,d1,d2,d3,d4,d5,d6,d7,d8,d9,f0] s)):=by kernel_rfl
theorem fq16.n9_w:WC E fq16.n9 [a,c,d,f,g,i,j,l,o,p,q,r,t,u,w,y,z,A,B,C,D,F,G,H,L,M,N,P,R,T,U,V,W,X,Y,Z,a0,a1,a2,a3,a4,a5,a6,a7,a8,a9,c0,c1,c2,c3,c4,c5,c6,c7,c8,c9,d0,d1,d2,d3,d4,d5,d6,d7,d8,d9,f0] s Q=(oM (vIaddr s.heap 1 none U W) fun v1=>oM (ld s.heap none v1) fun v2=>VC E F_fq21 [o,v2] s fun v3 s4=>oM (evBin .add W (.int .i64 1)) fun v5=>Q .normal [a,c,d,f,g,i,j,l,o,p,q,r,v2,u,w,y,z,A,B,C,D,F,G,H,L,M,N,P,R,T,U,V,v5,X,v1,v2,v2,v3,v5,a3,a4,a5,a6,a7,a8,a9,c0,c1,c2,c3,c4,c5,c6,c7,c8,c9,d0,d1,d2,d3,d4,d5,d6,d7,d8,d9,f0] s4):=by kernel_rfl
theorem fq16.n10_w:WC E fq16.n10 [a,c,d,f,g,i,j,l,o,p,q,r,t,u,w,y,z,A,B,C,D,F,G,H,L,M,N,P,R,T,U,V,W,X,Y,Z,a0,a1,a2,a3,a4,a5,a6,a7,a8,a9,c0,c1,c2,c3,c4,c5,c6,c7,c8,c9,d0,d1,d2,d3,d4,d5,d6,d7,d8,d9,f0] s Q=((sK (WC E (.block 4 fq16.n11)) Q) .normal [a,c,d,f,g,i,j,l,o,p,q,r,t,(.int .i64 0),w,y,z,A,B,C,D,F,G,H,L,M,N,P,R,T,U,V,W,X,Y,Z,a0,a1,a2,a3,a4,a5,a6,a7,a8,a9,c0,c1,c2,c3,c4,c5,c6,c7,c8,c9,d0,d1,d2,d3,d4,d5,d6,d7,d8,d9,f0] s):=by kernel_rfl
theorem fq16.n12_w:WC E fq16.n12 [a,c,d,f,g,i,j,l,o,p,q,r,t,u,w,y,z,A,B,C,D,F,G,H,L,M,N,P,R,T,U,V,W,X,Y,Z,a0,a1,a2,a3,a4,a5,a6,a7,a8,a9,c0,c1,c2,c3,c4,c5,c6,c7,c8,c9,d0,d1,d2,d3,d4,d5,d6,d7,d8,d9,f0] s Q=(oM (ld s.heap none f) fun v1=>oM (evBin .lss u v1) fun v2=>gO v2 true s (fun k3=>oM (vOff 0 o) fun v4=>k3 v4 s) fun v5 s5=>gO v2 true s5 (fun k6=>oM (ld s5.heap none v5) fun v7=>k6 v7 s5) fun v8 s8=>gO v2 true s8 (fun k9=>oM (vLen false v8) fun v10=>k9 v10 s8) fun v11 s11=>gO v2 true s11 (fun k12=>oM (evBin .gtr v11 (.int .i64 0)) fun v13=>k12 v13 s11) fun v14 s14=>oM (vPick v2 v14 (.bool false)) fun v15=>cM v15 ((sK (WC E fq16.n14) Q) .normal [a,c,d,f,g,i,j,l,o,p,q,r,t,u,w,y,z,A,B,C,D,F,G,H,L,M,N,P,R,T,U,V,W,X,Y,Z,a0,a1,a2,u,v1,v2,v2,v5,v8,v11,v14,v15,c2,c3,c4,c5,c6,c7,c8,c9,d0,d1,d2,d3,d4,d5,d6,d7,d8,d9,f0] s14) ((sK (WC E fq16.n14) Q) (.exit 4) [a,c,d,f,g,i,j,l,o,p,q,r,t,u,w,y,z,A,B,C,D,F,G,H,L,M,N,P,R,T,U,V,W,X,Y,Z,a0,a1,a2,u,v1,v2,v2,v5,v8,v11,v14,v15,c2,c3,c4,c5,c6,c7,c8,c9,d0,d1,d2,d3,d4,d5,d6,d7,d8,d9,f0] s14)):=by kernel_rfl
theorem fq16.n14_w:WC E fq16.n14 [a,c,d,f,g,i,j,l,o,p,q,r,t,u,w,y,z,A,B,C,D,F,G,H,L,M,N,P,R,T,U,V,W,X,Y,Z,a0,a1,a2,a3,a4,a5,a6,a7,a8,a9,c0,c1,c2,c3,c4,c5,c6,c7,c8,c9,d0,d1,d2,d3,d4,d5,d6,d7,d8,d9,f0] s Q=(VC E F_fq22 [o] s fun v1 s2=>oM (ld s2.heap none d) fun v3=>oM (vIaddr s2.heap 3 none v3 v1) fun v4=>oM (vOff 2 v4) fun v5=>oM (ld s2.heap none v5) fun v6=>oM (evBin .leq v6 p) fun v7=>cM v7 (WC E fq16.n15 [a,c,d,f,g,i,j,l,o,p,q,r,t,u,v1,y,z,A,B,C,D,F,G,H,L,M,N,P,R,T,U,V,W,X,Y,Z,a0,a1,a2,a3,a4,a5,a6,a7,a8,a9,c0,c1,c2,c3,v1,v3,v1,v4,v5,v6,p,v7,d2,d3,d4,d5,d6,d7,d8,d9,f0] s2 (sK (WC E fq16.n16) (bK 5 (sK (WC E fq16.n17) Q)))) ((sK (WC E fq16.n16) (bK 5 (sK (WC E fq16.n17) Q))) .normal [a,c,d,f,g,i,j,l,o,p,q,r,t,u,v1,y,z,A,B,C,D,F,G,H,L,M,N,P,R,T,U,V,W,X,Y,Z,a0,a1,a2,a3,a4,a5,a6,a7,a8,a9,c0,c1,c2,c3,v1,v3,v1,v4,v5,v6,p,v7,d2,d3,d4,d5,d6,d7,d8,d9,f0] s2)):=by kernel_rfl
theorem fq16.n15_w:WC E fq16.n15 [a,c,d,f,g,i,j,l,o,p,q,r,t,u,w,y,z,A,B,C,D,F,G,H,L,M,N,P,R,T,U,V,W,X,Y,Z,a0,a1,a2,a3,a4,a5,a6,a7,a8,a9,c0,c1,c2,c3,c4,c5,c6,c7,c8,c9,d0,d1,d2,d3,d4,d5,d6,d7,d8,d9,f0] s Q=(oM (eStore E.base s 1 g (.slice true 0 [])) fun s1=>oM (eStore E.base s1 1 i (.int .i64 7)) fun s2=>Q .ret [a,c,d,f,g,i,j,l,o,p,q,r,t,u,w,y,z,A,B,C,D,F,G,H,L,M,N,P,R,T,U,V,W,X,Y,Z,a0,a1,a2,a3,a4,a5,a6,a7,a8,a9,c0,c1,c2,c3,c4,c5,c6,c7,c8,c9,d0,d1,d2,d3,d4,d5,d6,d7,d8,d9,f0] s2):=by kernel_rfl
theorem fq16.n16_w:WC E fq16.n16 [a,c,d,f,g,i,j,l,o,p,q,r,t,u,w,y,z,A,B,C,D,F,G,H,L,M,N,P,R,T,U,V,W,X,Y,Z,a0,a1,a2,a3,a4,a5,a6,a7,a8,a9,c0,c1,c2,c3,c4,c5,c6,c7,c8,c9,d0,d1,d2,d3,d4,d5,d6,d7,d8,d9,f0] s Q=(oM (ld s.heap none l) fun v1=>oM (vIaddr s.heap 1 none v1 w) fun v2=>oM (eStore E.base s 1 v2 p) fun s3=>Q .normal [a,c,d,f,g,i,j,l,o,p,q,r,t,u,w,y,z,A,B,C,D,F,G,H,L,M,N,P,R,T,U,V,W,X,Y,Z,a0,a1,a2,a3,a4,a5,a6,a7,a8,a9,c0,c1,c2,c3,c4,c5,c6,c7,c8,c9,d0,d1,v1,w,p,v2,d6,d7,d8,d9,f0] s3):=by kernel_rfl
theorem fq16.n17_w:WC E fq16.n17 [a,c,d,f,g,i,j,l,o,p,q,r,t,u,w,y,z,A,B,C,D,F,G,H,L,M,N,P,R,T,U,V,W,X,Y,Z,a0,a1,a2,a3,a4,a5,a6,a7,a8,a9,c0,c1,c2,c3,c4,c5,c6,c7,c8,c9,d0,d1,d2,d3,d4,d5,d6,d7,d8,d9,f0] s Q=(oM (evBin .add u (.int .i64 1)) fun v1=>Q .normal [a,c,d,f,g,i,j,l,o,p,q,r,t,v1,w,y,z,A,B,C,D,F,G,H,L,M,N,P,R,T,U,V,W,X,Y,Z,a0,a1,a2,a3,a4,a5,a6,a7,a8,a9,c0,c1,u,v1,c4,c5,c6,c7,c8,c9,d0,d1,d2,d3,d4,d5,d6,d7,d8,d9,f0] s):=by kernel_rfl
theorem fq16.n18_w:WC E fq16.n18 [a,c,d,f,g,i,j,l,o,p,q,r,t,u,w,y,z,A,B,C,D,F,G,H,L,M,N,P,R,T,U,V,W,X,Y,Z,a0,a1,a2,a3,a4,a5,a6,a7,a8,a9,c0,c1,c2,c3,c4,c5,c6,c7,c8,c9,d0,d1,d2,d3,d4,d5,d6,d7,d8,d9,f0] s Q=(oM (vOff 0 o) fun v1=>oM (ld s.heap none v1) fun v2=>oM (vLen false v2) fun v3=>oM (evBin .gtr v3 (.int .i64 0)) fun v4=>cM v4 (WC E fq16.n19 [a,c,d,f,g,i,j,l,o,p,q,r,t,u,w,y,z,A,B,C,D,F,G,H,L,M,N,P,R,T,U,V,W,X,Y,Z,a0,a1,a2,a3,a4,a5,a6,a7,a8,a9,c0,c1,c2,c3,c4,c5,c6,c7,c8,c9,d0,d1,d2,d3,d4,d5,v1,v2,v3,v4,f0] s (sK (WC E fq16.n20) Q)) ((sK (WC E fq16.n20) Q) .normal [a,c,d,f,g,i,j,l,o,p,q,r,t,u,w,y,z,A,B,C,D,F,G,H,L,M,N,P,R,T,U,V,W,X,Y,Z,a0,a1,a2,a3,a4,a5,a6,a7,a8,a9,c0,c1,c2,c3,c4,c5,c6,c7,c8,c9,d0,d1,d2,d3,d4,d5,v1,v2,v3,v4,f0] s)):=by kernel_rfl
theorem fq16.n20_w:WC E fq16.n20 [a,c,d,f,g,i,j,l,o,p,q,r,t,u,w,y,z,A,B,C,D,F,G,H,L,M,N,P,R,T,U,V,W,X,Y,Z,a0,a1,a2,a3,a4,a5,a6,a7,a8,a9,c0,c1,c2,c3,c4,c5,c6,c7,c8,c9,d0,d1,d2,d3,d4,d5,d6,d7,d8,d9,f0] s Q=(oM (ld s.heap none l) fun v1=>oM (eStore E.base s 1 g v1) fun s2=>oM (eStore E.base s2 1 i (.int .i64 0)) fun s3=>Q .ret [a,c,d,f,g,i,j,l,o,p,q,r,t,u,w,y,z,A,B,C,D,F,G,H,L,M,N,P,R,T,U,V,W,X,Y,Z,a0,a1,a2,a3,a4,a5,a6,a7,a8,a9,c0,c1,c2,c3,c4,c5,c6,c7,c8,c9,d0,d1,d2,d3,d4,d5,d6,d7,d8,d9,v1] s3):=by kernel_rfl
theorem fq9.enter {k:Nat} {b:Option Nat} {K:AV→St→Prop} (h:WC ⟨prog,k,some s.heap.length⟩ fq9.n0 [a,c,.undef,.undef,.undef,.undef,.undef,.undef,.undef,.undef,.undef,.undef,.undef] { s with leak:=false } (RK s.heap.length s.leak fq9.res K)):VC ⟨prog,k + 1,b⟩ F_fq9 [a,c] s K:=VC_ra (P:=prog) (F':=fq9.fn) rfl fq9.ra fq9.ul rfl h
theorem fq9.ret {n:Nat} {lk:Bool} {K:AV→St→Prop}:RK n lk fq9.res K .ret [a,c,d,f,g,i,j,l,o,p,q,r,t] s=(K (leave n lk [⟨2,none,none⟩,⟨3,none,none⟩,⟨4,none,none⟩] [d,f,g] s).1 (leave n lk [⟨2,none,none⟩,⟨3,none,none⟩,⟨4,none,none⟩] [d,f,g] s).2):=by kernel_rfl
theorem fq9.n0_w:WC E fq9.n0 [a,c,d,f,g,i,j,l,o,p,q,r,t] s Q=(VC E F_fq18 [a,c] s fun v1 s2=>oM (evBin .neq v1 (.int .i64 0)) fun v3=>cM v3 (WC E fq9.n1 [a,c,(.int .i64 0),(.int .i64 0),(.int .i64 0),i,j,l,o,v1,v3,r,t] s2 (sK (WC E fq9.n2) Q)) ((sK (WC E fq9.n2) Q) .normal [a,c,(.int .i64 0),(.int .i64 0),(.int .i64 0),i,j,l,o,v1,v3,r,t] s2)):=by kernel_rfl
theorem fq9.n2_w:WC E fq9.n2 [a,c,d,f,g,i,j,l,o,p,q,r,t] s Q=((sK (WC E (.block 0 fq9.n3)) (sK (WC E fq9.n21) Q)) .normal [a,c,d,f,g,i,j,(.int .i64 0),o,p,q,r,t] s):=by kernel_rfl
theorem fq9.n4_w:WC E fq9.n4 [a,c,d,f,g,i,j,l,o,p,q,r,t] s Q=(oM (evBin .lss l (.int .i64 500)) fun v1=>cM v1 ((sK (WC E fq9.n6) Q) .normal [a,c,d,f,g,i,j,l,o,v1,q,r,t] s) ((sK (WC E fq9.n6) Q) (.exit 0) [a,c,d,f,g,i,j,l,o,v1,q,r,t] s)):=by kernel_rfl
theorem fq9.n6_w:WC E fq9.n6 [a,c,d,f,g,i,j,l,o,p,q,r,t] s Q=(oM (vLen false a) fun v1=>(sK (WC E (.block 2 fq9.n7)) (sK (WC E fq9.n13) (bK 1 (sK (WC E fq9.n20) Q)))) .normal [a,c,d,f,g,i,j,l,(.int .i64 0),(.ptr s.heap.length 0 501),v1,r,t] (push s (.cells [(.int .i64 0),(.int .i64 0),(.int .i64 0),(.int .i64 0),(.int .i64 0),(.int .i64 0),(.int .i64 0),(.int .i64 0),(.int .i64 0),(.int .i64 0),(.int .i64 0),(.int .i64 0),(.int .i64 0),(.int .i64 0),(.int .i64 0),(.int .i64 0),(.int .i64 0),(.int .i64 0),(.int .i64 0),(.int .i64 0),(.int .i64 0),(.int .i64 0),(.int .i64 0),(.int .i64 0),(.int .i64 0),(.int .i64 0),(.int .i64 0),(.int .i64 0),(.int .i64 0),(.int .i64 0),(.int .i64 0),(.int .i64 0),(.int .i64 0),(.int .i64 0),(.int .i64 0),(.int .i64 0),(.int .i64 0),(.int .i64 0),(.int .i64 0),(.int .i64 0),(.int .i64 0),(.int .i64 0),(.int .i64 0),(.int .i64 0),(.int .i64 0),(.int .i64 0),(.int .i64 0),(.int .i64 0),(.int .i64 0),(.int .i64 0),(.int .i64 0),(.int .i64 0),(.int .i64 0),(.int .i64 0),(.int .i64 0),(.int .i64 0),(.int .i64 0),(.int .i64 0),(.int .i64 0),(.int .i64 0),(.int .i64 0),(.int .i64 0),(.int .i64 0),(.int .i64 0),(.int .i64 0),(.int .i64 0),(.int .i64 0),(.int .i64 0),(.int .i64 0),(.int .i64 0),(.int .i64 0),(.int .i64 0),(.int .i64 0),(.int .i64 0),(.int .i64 0),(.int .i64 0),(.int .i64 0),(.int .i64 0),(.int .i64 0),(.int .i64 0),(.int .i64 0),(.int .i64 0),(.int .i64 0),(.int .i64 0),(.int .i64 0),(.int .i64 0),(.int .i64 0),(.int .i64 0),(.int .i64 0),(.int .i64 0),(.int .i64 0),(.int .i64 0),(.int .i64 0),(.int .i64 0),(.int .i64 0),(.int .i64 0),(.int .i64 0),(.int .i64 0),(.int .i64 0),(.int .i64 0),(.int .i64 0),(.int .i64 0),(.int .i64 0),(.int .i64 0),(.int .i64 0),(.int .i64 0),(.int .i64 0),(.int .i64 0),(.int .i64 0),(.int .i64 0),(.int .i64 0),(.int .i64 0),(.int .i64 0),(.int .i64 0),(.int .i64 0),(.int .i64 0),(.int .i64 0),(.int .i64 0),(.int .i64 0),(.int .i64 0),(.int .i64 0),(.int .i64 0),(.int .i64 0),(.int .i64 0),(.int .i64 0),(.int .i64 0),(.int .i64 0),(.int .i64 0),(.int .i64 0),(.int .i64 0),(.int .i64 0),(.int .i64 0),(.int .i64 0),(.int .i64 0),(.int .i64 0),(.int .i64 0),(.int .i64 0),(.int .i64 0),(.int .i64 0),(.int .i64 0),(.int .i64 0),(.int .i64 0),(.int .i64 0),(.int .i64 0),(.int .i64 0),(.int .i64 0),(.int .i64 0),(.int .i64 0),(.int .i64 0),(.int .i64 0),(.int .i64 0),(.int .i64 0),(.int .i64 0),(.int .i64 0),(.int .i64 0),(.int .i64 0),(.int .i64 0),(.int .i64 0),(.int .i64 0),(.int .i64 0),(.int .i64 0),(.int .i64 0),(.int .i64 0),(.int .i64 0),(.int .i64 0),(.int .i64 0),(.int .i64 0),(.int .i64 0),(.int .i64 0),(.int .i64 0),(.int .i64 0),(.int .i64 0),(.int .i64 0),(.int .i64 0),(.int .i64 0),(.int .i64 0),(.int .i64 0),(.int .i64 0),(.int .i64 0),(.int .i64 0),(.int .i64 0),(.int .i64 0),(.int .i64 0),(.int .i64 0),(.int .i64 0),(.int .i64 0),(.int .i64 0),(.int .i64 0),(.int .i64 0),(.int .i64 0),(.int .i64 0),(.int .i64 0),(.int .i64 0),(.int .i64 0),(.int .i64 0),(.int .i64 0),(.int .i64 0),(.int .i64 0),(.int .i64 0),(.int .i64 0),(.int .i64 0),(.int .i64 0),(.int .i64 0),(.int .i64 0),(.int .i64 0),(.int .i64 0),(.int .i64 0),(.int .i64 0),(.int .i64 0),(.int .i64 0),(.int .i64 0),(.int .i64 0),(.int .i64 0),(.int .i64 0),(.int .i64 0),(.int .i64 0),(.int .i64 0),(.int .i64 0),(.int .i64 0),(.int .i64 0),(.int .i64 0),(.int .i64 0),(.int .i64 0),(.int .i64 0),(.int .i64 0),(.int .i64 0),(.int .i64 0),(.int .i64 0),(.int .i64 0),(.int .i64 0),(.int .i64 0),(.int .i64 0),(.int .i64 0),(.int .i64 0),(.int .i64 0),(.int .i64 0),(.int .i64 0),(.int .i64 0),(.int .i64 0),(.int .i64 0),(.int .i64 0),(.int .i64 0),(.int .i64 0),(.int .i64 0),(.int .i64 0),(.int .i64 0),(.int .i64 0),(.int .i64 0),(.int .i64 0),(.int .i64 0),(.int .i64 0),(.int .i64 0),(.int .i64 0),(.int .i64 0),(.int .i64 0),(.int .i64 0),(.int .i64 0),(.int .i64 0),(.int .i64 0),(.int .i64 0),(.int .i64 0),(.int .i64 0),(.int .i64 0),(.int .i64 0),(.int .i64 0),(.int .i64 0),(.int .i64 0),(.int .i64 0),(.int .i64 0),(.int .i64 0),(.int .i64 0),(.int .i64 0),(.int .i64 0),(.int .i64 0),(.int .i64 0),(.int .i64 0),(.int .i64 0),(.int .i64 0),(.int .i64 0),(.int .i64 0),(.int .i64 0),(.int .i64 0),(.int .i64 0),(.int .i64 0),(.int .i64 0),(.int .i64 0),(.int .i64 0),(.int .i64 0),(.int .i64 0),(.int .i64 0),(.int .i64 0),(.int .i64 0),(.int .i64 0),(.int .i64 0),(.int .i64 0),(.int .i64 0),(.int .i64 0),(.int .i64 0),(.int .i64 0),(.int .i64 0),(.int .i64 0),(.int .i64 0),(.int .i64 0),(.int .i64 0),(.int .i64 0),(.int .i64 0),(.int .i64 0),(.int .i64 0),(.int .i64 0),(.int .i64 0),(.int .i64 0),(.int .i64 0),(.int .i64 0),(.int .i64 0),(.int .i64 0),(.int .i64 0),(.int .i64 0),(.int .i64 0),(.int .i64 0),(.int .i64 0),(.int .i64 0),(.int .i64 0),(.int .i64 0),(.int .i64 0),(.int .i64 0),(.int .i64 0),(.int .i64 0),(.int .i64 0),(.int .i64 0),(.int .i64 0),(.int .i64 0),(.int .i64 0),(.int .i64 0),(.int .i64 0),(.int .i64 0),(.int .i64 0),(.int .i64 0),(.int .i64 0),(.int .i64 0),(.int .i64 0),(.int .i64 0),(.int .i64 0),(.int .i64 0),(.int .i64 0),(.int .i64 0),(.int .i64 0),(.int .i64 0),(.int .i64 0),(.int .i64 0),(.int .i64 0),(.int .i64 0),(.int .i64 0),(.int .i64 0),(.int .i64 0),(.int .i64 0),(.int .i64 0),(.int .i64 0),(.int .i64 0),(.int .i64 0),(.int .i64 0),(.int .i64 0),(.int .i64 0),(.int .i64 0),(.int .i64 0),(.int .i64 0),(.int .i64 0),(.int .i64 0),(.int .i64 0),(.int .i64 0),(.int .i64 0),(.int .i64 0),(.int .i64 0),(.int .i64 0),(.int .i64 0),(.int .i64 0),(.int .i64 0),(.int .i64 0),(.int .i64 0),(.int .i64 0),(.int .i64 0),(.int .i64 0),(.int .i64 0),(.int .i64 0),(.int .i64 0),(.int .i64 0),(.int .i64 0),(.int .i64 0),(.int .i64 0),(.int .i64 0),(.int .i64 0),(.int .i64 0),(.int .i64 0),(.int .i64 0),(.int .i64 0),(.int .i64 0),(.int .i64 0),(.int .i64 0),(.int .i64 0),(.int .i64 0),(.int .i64 0),(.int .i64 0),(.int .i64 0),(.int .i64 0),(.int .i64 0),(.int .i64 0),(.int .i64 0),(.int .i64 0),(.int .i64 0),(.int .i64 0),(.int .i64 0),(.int .i64 0),(.int .i64 0),(.int .i64 0),(.int .i64 0),(.int .i64 0),(.int .i64 0),(.int .i64 0),(.int .i64 0),(.int .i64 0),(.int .i64 0),(.int .i64 0),(.int .i64 0),(.int .i64 0),(.int .i64 0),(.int .i64 0),(.int .i64 0),(.int .i64 0),(.int .i64 0),(.int .i64 0),(.int .i64 0),(.int .i64 0),(.int .i64 0),(.int .i64 0),(.int .i64 0),(.int .i64 0),(.int .i64 0),(.int .i64 0),(.int .i64 0),(.int .i64 0),(.int .i64 0),(.int .i64 0),(.int .i64 0),(.int .i64 0),(.int .i64 0),(.int .i64 0),(.int .i64 0),(.int .i64 0),(.int .i64 0),(.int .i64 0),(.int .i64 0),(.int .i64 0),(.int .i64 0),(.int .i64 0),(.int .i64 0),(.int .i64 0),(.int .i64 0),(.int .i64 0),(.int .i64 0),(.int .i64 0),(.int .i64 0),(.int .i64 0),(.int .i64 0),(.int .i64 0),(.int .i64 0),(.int .i64 0),(.int .i64 0),(.int .i64 0),(.int .i64 0),(.int .i64 0),(.int .i64 0),(.int .i64 0),(.int .i64 0),(.int .i64 0),(.int .i64 0),(.int .i64 0),(.int .i64 0),(.int .i64 0),(.int .i64 0),(.int .i64 0),(.int .i64 0),(.int .i64 0),(.int .i64 0),(.int .i64 0),(.int .i64 0),(.int .i64 0),(.int .i64 0),(.int .i64 0),(.int .i64 0),(.int .i64 0),(.int .i64 0),(.int .i64 0),(.int .i64 0),(.int .i64 0),(.int .i64 0),(.int .i64 0),(.int .i64 0),(.int .i64 0),(.int .i64 0),(.int .i64 0),(.int .i64 0),(.int .i64 0)]))):=by kernel_rfl
theorem fq9.n8_w:WC E fq9.n8 [a,c,d,f,g,i,j,l,o,p,q,r,t] s Q=(oM (evBin .lss o q) fun v1=>cM v1 ((sK (WC E fq9.n10) Q) .normal [a,c,d,f,g,i,j,l,o,p,q,v1,t] s) ((sK (WC E fq9.n10) Q) (.exit 2) [a,c,d,f,g,i,j,l,o,p,q,v1,t] s)):=by kernel_rfl
theorem fq9.n9_w:WC E fq9.n9 [a,c,d,f,g,i,j,l,o,p,q,r,t] s Q=(Q (.exit 2) [a,c,d,f,g,i,j,l,o,p,q,r,t] s):=by kernel_rfl
theorem fq9.n10_w:WC E fq9.n10 [a,c,d,f,g,i,j,l,o,p,q,r,t] s Q=(oM (vIaddr s.heap 3 none a o) fun v1=>oM (ld s.heap (some 3) v1) fun v2=>oM (eStore E.base ((push s (.cells [(.int .i64 0),(.int .i64 0),(.int .i64 0)]))) 3 (.ptr s.heap.length 0 3) v2) fun s3=>oM (vOff 1 (.ptr s.heap.length 0 3)) fun v4=>oM (ld s3.heap none v4) fun v5=>oM (evBin .geq v5 l) fun v6=>cM v6 (WC E fq9.n11 [a,c,d,f,g,i,j,l,o,p,q,v6,(.ptr s.heap.length 0 3)] s3 (bK 3 (sK (WC E fq9.n12) Q))) ((bK 3 (sK (WC E fq9.n12) Q)) .normal [a,c,d,f,g,i,j,l,o,p,q,v6,(.ptr s.heap.length 0 3)] s3)):=by kernel_rfl
theorem fq9.n11_w:WC E fq9.n11 [a,c,d,f,g,i,j,l,o,p,q,r,t] s Q=(oM (vOff 2 t) fun v1=>oM (ld s.heap none v1) fun v2=>oM (vIaddr s.heap 1 (some 501) p v2) fun v3=>oM (ld s.heap none v3) fun v4=>oM (evBin .add v4 (.int .i64 1)) fun v5=>oM (vIaddr s.heap 1 (some 501) p v2) fun v6=>oM (eStore E.base s 1 v6 v5) fun s7=>Q .normal [a,c,d,f,g,i,j,l,o,p,q,v6,v5] s7):=by kernel_rfl
theorem fq9.n12_w:WC E fq9.n12 [a,c,d,f,g,i,j,l,o,p,q,r,t] s Q=(oM (evBin .add o (.int .i64 1)) fun v1=>Q .normal [a,c,d,f,g,i,j,l,v1,p,q,v1,t] s):=by kernel_rfl
theorem fq9.n13_w:WC E fq9.n13 [a,c,d,f,g,i,j,l,o,p,q,r,t] s Q=(oM (evBin .add l (.int .i64 1)) fun v1=>(sK (WC E (.block 4 fq9.n14)) Q) .normal [a,c,d,f,g,(.int .i64 0),v1,l,o,p,v1,r,t] s):=by kernel_rfl
theorem fq9.n15_w:WC E fq9.n15 [a,c,d,f,g,i,j,l,o,p,q,r,t] s Q=(oM (evBin .leq j (.int .i64 500)) fun v1=>cM v1 ((sK (WC E fq9.n17) Q) .normal [a,c,d,f,g,i,j,l,o,p,v1,r,t] s) ((sK (WC E fq9.n17) Q) (.exit 4) [a,c,d,f,g,i,j,l,o,p,v1,r,t] s)):=by kernel_rfl
theorem fq9.n17_w:WC E fq9.n17 [a,c,d,f,g,i,j,l,o,p,q,r,t] s Q=(oM (vIaddr s.heap 1 (some 501) p j) fun v1=>oM (ld s.heap none v1) fun v2=>oM (evBin .add i v2) fun v3=>oM (evBin .sub j l) fun v4=>oM (evBin .mul v4 c) fun v5=>oM (evBin .gtr v3 v5) fun v6=>cM v6 (WC E fq9.n18 [a,c,d,f,g,v3,j,l,o,p,v6,r,t] s (bK 5 (sK (WC E fq9.n19) Q))) ((bK 5 (sK (WC E fq9.n19) Q)) .normal [a,c,d,f,g,v3,j,l,o,p,v6,r,t] s)):=by kernel_rfl
theorem fq9.n18_w:WC E fq9.n18 [a,c,d,f,g,i,j,l,o,p,q,r,t] s Q=(Q .ret [a,c,l,j,(.int .i64 0),i,j,l,o,p,q,r,t] s):=by kernel_rfl
theorem fq23.enter {k:Nat} {b:Option Nat} {K:AV→St→Prop} (h:WC ⟨prog,k,some s.heap.length⟩ fq23.n0 [a,.undef,.undef,.undef,.undef,.undef,.undef,.undef,.undef,.undef,.undef,.undef,.undef,.undef,.undef,.undef,.undef,.undef,.undef,.undef,.undef,.undef,.undef,.undef,.undef,.undef,.undef,.undef,.undef] { s with leak:=false } (RK s.heap.length s.leak fq23.res K)):VC ⟨prog,k + 1,b⟩ F_fq23 [a] s K:=VC_ra (P:=prog) (F':=fq23.fn) rfl fq23.ra fq23.ul rfl h
theorem fq23.ret {n:Nat} {lk:Bool} {K:AV→St→Prop}:RK n lk fq23.res K .ret [a,c,d,f,g,i,j,l,o,p,q,r,t,u,w,y,z,A,B,C,D,F,G,H,L,M,N,P,R] s=(K (leave n lk [⟨1,none,none⟩,⟨2,none,none⟩] [c,d] s).1 (leave n lk [⟨1,none,none⟩,⟨2,none,none⟩] [c,d] s).2):=by kernel_rfl
theorem fq23.n0_w:WC E fq23.n0 [a,c,d,f,g,i,j,l,o,p,q,r,t,u,w,y,z,A,B,C,D,F,G,H,L,M,N,P,R] s Q=(oM (eBox s 6 a) fun v1=>oM (ld (v1.2).heap (some 6) v1.1) fun v3=>VC E F_fq5 [v3] (v1.2) fun v4 s5=>oM (evUn .not v4) fun v6=>cM v6 (WC E fq23.n1 [v1.1,.nilptr,(.bool false),f,g,i,j,v6,o,p,q,r,t,u,w,y,z,A,B,C,D,F,G,H,L,M,N,P,R] s5 (sK (WC E fq23.n2) Q)) ((sK (WC E fq23.n2) Q) .normal [v1.1,.nilptr,(.bool false),f,g,i,j,v6,o,p,q,r,t,u,w,y,z,A,B,C,D,F,G,H,L,M,N,P,R] s5)):=by kernel_rfl
theorem fq23.n1_w:WC E fq23.n1 [a,c,d,f,g,i,j,l,o,p,q,r,t,u,w,y,z,A,B,C,D,F,G,H,L,M,N,P,R] s Q=(Q .ret [a,.nilptr,(.bool false),f,g,i,j,l,o,p,q,r,t,u,w,y,z,A,B,C,D,F,G,H,L,M,N,P,R] s):=by kernel_rfl
theorem fq23.n2_w:WC E fq23.n2 [a,c,d,f,g,i,j,l,o,p,q,r,t,u,w,y,z,A,B,C,D,F,G,H,L,M,N,P,R] s Q=(oM (ld s.heap (some 6) a) fun v1=>oM (fillA [(.int .i64 0),(.int .i64 0),(.int .i64 0),(.slice true 0 []),(.slice true 0 []),(.slice true 0 []),(.slice true 0 []),(.slice true 0 [])] [(0,6,v1)]) fun v2=>oM (eBox s 8 (.agg v2)) fun v3=>oM (vOff 5 a) fun v5=>oM (ld (v3.2).heap none v5) fun v6=>oM (vLen false v6) fun v7=>oM (evBin .shl (.int .u64 1) v7) fun v8=>(sK (WC E (.block 0 fq23.n3)) (sK (WC E fq23.n15) Q)) .normal [a,c,d,f,g,(.int .u64 0),j,v3.1,v8,p,q,r,t,u,w,y,z,A,B,C,D,F,G,H,L,M,N,P,R] (v3.2)):=by kernel_rfl
theorem fq23.n4_w:WC E fq23.n4 [a,c,d,f,g,i,j,l,o,p,q,r,t,u,w,y,z,A,B,C,D,F,G,H,L,M,N,P,R] s Q=(oM (evBin .lss i o) fun v1=>cM v1 ((sK (WC E fq23.n6) Q) .normal [a,c,d,f,g,i,j,l,o,v1,q,r,t,u,w,y,z,A,B,C,D,F,G,H,L,M,N,P,R] s) ((sK (WC E fq23.n6) Q) (.exit 0) [a,c,d,f,g,i,j,l,o,v1,q,r,t,u,w,y,z,A,B,C,D,F,G,H,L,M,N,P,R] s)):=by kernel_rfl
theorem fq23.n6_w:WC E fq23.n6 [a,c,d,f,g,i,j,l,o,p,q,r,t,u,w,y,z,A,B,C,D,F,G,H,L,M,N,P,R] s Q=(oM (vOff 5 a) fun v1=>oM (ld s.heap none v1) fun v2=>oM (vLen false v2) fun v3=>(sK (WC E (.block 2 fq23.n7)) (sK (WC E fq23.n13) (bK 1 (sK (WC E fq23.n14) Q)))) .normal [a,c,d,(.int .i64 0),(.int .i64 0),i,(.int .i64 0),l,o,v2,v3,r,t,u,w,y,z,A,B,C,D,F,G,H,L,M,N,P,R] s):=by kernel_rfl
theorem fq23.n8_w:WC E fq23.n8 [a,c,d,f,g,i,j,l,o,p,q,r,t,u,w,y,z,A,B,C,D,F,G,H,L,M,N,P,R] s Q=(oM (evBin .lss j q) fun v1=>cM v1 ((sK (WC E fq23.n10) Q) .normal [a,c,d,f,g,i,j,l,o,p,q,v1,t,u,w,y,z,A,B,C,D,F,G,H,L,M,N,P,R] s) ((sK (WC E fq23.n10) Q) (.exit 2) [a,c,d,f,g,i,j,l,o,p,q,v1,t,u,w,y,z,A,B,C,D,F,G,H,L,M,N,P,R] s)):=by kernel_rfl
theorem fq23.n10_w:WC E fq23.n10 [a,c,d,f,g,i,j,l,o,p,q,r,t,u,w,y,z,A,B,C,D,F,G,H,L,M,N,P,R] s Q=(oM (vIaddr s.heap 3 none p j) fun v1=>oM (ld s.heap (some 3) v1) fun v2=>oM (eStore E.base ((push s (.cells [(.int .i64 0),(.int .i64 0),(.int .i64 0)]))) 3 (.ptr s.heap.length 0 3) v2) fun s3=>VC E F_fq31 [i,j] s3 fun v4 s5=>cM v4 (WC E fq23.n11 [a,c,d,f,g,i,j,l,o,p,q,v4,(.ptr s.heap.length 0 3),u,w,y,z,A,B,C,D,F,G,H,L,M,N,P,R] s5 (bK 3 (sK (WC E fq23.n12) Q))) ((bK 3 (sK (WC E fq23.n12) Q)) .normal [a,c,d,f,g,i,j,l,o,p,q,v4,(.ptr s.heap.length 0 3),u,w,y,z,A,B,C,D,F,G,H,L,M,N,P,R] s5)):=by kernel_rfl
theorem fq23.n11_w:WC E fq23.n11 [a,c,d,f,g,i,j,l,o,p,q,r,t,u,w,y,z,A,B,C,D,F,G,H,L,M,N,P,R] s Q=(oM (vOff 0 t) fun v1=>oM (ld s.heap none v1) fun v2=>oM (evBin .add f v2) fun v3=>oM (vOff 1 t) fun v4=>oM (ld s.heap none v4) fun v5=>oM (evBin .add g v5) fun v6=>Q .normal [a,c,d,v3,v6,i,j,l,o,p,q,v3,v6,u,w,y,z,A,B,C,D,F,G,H,L,M,N,P,R] s):=by kernel_rfl
theorem fq23.n12_w:WC E fq23.n12 [a,c,d,f,g,i,j,l,o,p,q,r,t,u,w,y,z,A,B,C,D,F,G,H,L,M,N,P,R] s Q=(oM (evBin .add j (.int .i64 1)) fun v1=>Q .normal [a,c,d,f,g,i,v1,l,o,p,q,v1,t,u,w,y,z,A,B,C,D,F,G,H,L,M,N,P,R] s):=by kernel_rfl
theorem fq23.n13_w:WC E fq23.n13 [a,c,d,f,g,i,j,l,o,p,q,r,t,u,w,y,z,A,B,C,D,F,G,H,L,M,N,P,R] s Q=(oM (vChk l) fun v1=>oM (vOff 6 v1) fun v2=>oM (ld s.heap none v2) fun v3=>oM (eLit s 1 [(.int .i64 0)] [(0,1,f)] false false) fun v4=>oM (eApp E.base (v4.2) 1 8 v3 v4.1) fun v6=>oM (vChk l) fun v8=>oM (vOff 7 v8) fun v9=>oM (ld (v6.2).heap none v9) fun v10=>oM (eLit (v6.2) 1 [(.int .i64 0)] [(0,1,g)] false false) fun v11=>oM (eApp E.base (v11.2) 1 8 v10 v11.1) fun v13=>oM (vChk l) fun v15=>oM (vOff 6 v15) fun v16=>oM (eStore E.base (v13.2) 1 v16 v6.1) fun s17=>oM (vChk l) fun v18=>oM (vOff 7 v18) fun v19=>oM (eStore E.base s17 1 v19 v13.1) fun s20=>(chkRead E.base [a,c,d,f,g,i,j,l,o,l,l,l,v1,v2,v3,f,v4.1,v6.1,l,v8,v9,v10,g,v11.1,v13.1,v15,v16,v18,v19] ⟨(some 21),(.load none (.r 20)),none⟩ [s.heap,(v6.2).heap]=true)∧Q .normal [a,c,d,f,g,i,j,l,o,l,l,l,v1,v2,v3,f,v4.1,v6.1,l,v8,v9,v10,g,v11.1,v13.1,v15,v16,v18,v19] s20):=by kernel_rfl
theorem fq23.n14_w:WC E fq23.n14 [a,c,d,f,g,i,j,l,o,p,q,r,t,u,w,y,z,A,B,C,D,F,G,H,L,M,N,P,R] s Q=(oM (evBin .add i (.int .u64 1)) fun v1=>Q .normal [a,c,d,f,g,v1,j,l,o,v1,q,r,t,u,w,y,z,A,B,C,D,F,G,H,L,M,N,P,R] s):=by kernel_rfl
theorem fq23.n15_w:WC E fq23.n15 [a,c,d,f,g,i,j,l,o,p,q,r,t,u,w,y,z,A,B,C,D,F,G,H,L,M,N,P,R] s Q=(Q .ret [a,l,(.bool true),f,g,i,j,l,o,p,q,r,t,u,w,y,z,A,B,C,D,F,G,H,L,M,N,P,R] s):=by kernel_rfl
def fq23.n3_J (a c d l o:AV) (I:Nat→AV→St→Prop) (m:Nat) (ρ:Regs) (s:St):Prop:=∃ f g i j p q r t u w y z A B C D F G H L M N P R:AV,ρ=[a,c,d,f,g,i,j,l,o,p,q,r,t,u,w,y,z,A,B,C,D,F,G,H,L,M,N,P,R]∧I m i s
theorem fq23.n3_go {I:Nat→AV→St→Prop} {m m':Nat} (hm:m' < m) (h:I m' i s):LK (fq23.n3_J a c d l o I) m Q .normal [a,c,d,f,g,i,j,l,o,p,q,r,t,u,w,y,z,A,B,C,D,F,G,H,L,M,N,P,R] s:=⟨m',hm,_,_,_,_,_,_,_,_,_,_,_,_,_,_,_,_,_,_,_,_,_,_,_,_,rfl,h⟩
theorem fq23.n3_l (I:Nat→AV→St→Prop) (m:Nat) (hm:m < E.k) (h0:I m i s) (step:∀ (m:Nat) (f g i j p q r t u w y z A B C D F G H L M N P R:AV) (s:St),I m i s→WC E fq23.n4 [a,c,d,f,g,i,j,l,o,p,q,r,t,u,w,y,z,A,B,C,D,F,G,H,L,M,N,P,R] s (LK (fq23.n3_J a c d l o I) m Q)):WC E fq23.n3 [a,c,d,f,g,i,j,l,o,p,q,r,t,u,w,y,z,A,B,C,D,F,G,H,L,M,N,P,R] s Q:=WC_loop (J:=fq23.n3_J a c d l o I) m hm ⟨_,_,_,_,_,_,_,_,_,_,_,_,_,_,_,_,_,_,_,_,_,_,_,_,rfl,h0⟩ (fun m ρ s ⟨f,g,i,j,p,q,r,t,u,w,y,z,A,B,C,D,F,G,H,L,M,N,P,R,e,h⟩=>by rw [e]; exact step m f g i j p q r t u w y z A B C D F G H L M N P R s h)
def fq23.n7_J (a c d i l o p q u w y z A B C D F G H L M N P R:AV) (I:Nat→AV→AV→AV→St→Prop) (m:Nat) (ρ:Regs) (s:St):Prop:=∃ f g j r t:AV,ρ=[a,c,d,f,g,i,j,l,o,p,q,r,t,u,w,y,z,A,B,C,D,F,G,H,L,M,N,P,R]∧I m f g j s
theorem fq23.n7_go {I:Nat→AV→AV→AV→St→Prop} {m m':Nat} (hm:m' < m) (h:I m' f g j s):LK (fq23.n7_J a c d i l o p q u w y z A B C D F G H L M N P R I) m Q .normal [a,c,d,f,g,i,j,l,o,p,q,r,t,u,w,y,z,A,B,C,D,F,G,H,L,M,N,P,R] s:=⟨m',hm,_,_,_,_,_,rfl,h⟩
theorem fq23.n7_l (I:Nat→AV→AV→AV→St→Prop) (m:Nat) (hm:m < E.k) (h0:I m f g j s) (step:∀ (m:Nat) (f g j r t:AV) (s:St),I m f g j s→WC E fq23.n8 [a,c,d,f,g,i,j,l,o,p,q,r,t,u,w,y,z,A,B,C,D,F,G,H,L,M,N,P,R] s (LK (fq23.n7_J a c d i l o p q u w y z A B C D F G H L M N P R I) m Q)):WC E fq23.n7 [a,c,d,f,g,i,j,l,o,p,q,r,t,u,w,y,z,A,B,C,D,F,G,H,L,M,N,P,R] s Q:=WC_loop (J:=fq23.n7_J a c d i l o p q u w y z A B C D F G H L M N P R I) m hm ⟨_,_,_,_,_,rfl,h0⟩ (fun m ρ s ⟨f,g,j,r,t,e,h⟩=>by rw [e]; exact step m f g j r t s h)
theorem fq24.enter {k:Nat} {b:Option Nat} {K:AV→St→Prop} (h:WC ⟨prog,k,some s.heap.length⟩ fq24.n0 [a,.undef,.undef,.undef,.undef,.undef,.undef,.undef,.undef,.undef,.undef,.undef,.undef,.undef,.undef,.undef,.undef,.undef,.undef,.undef,.undef,.undef,.undef,.undef,.undef,.undef,.undef,.undef] { s with leak:=false } (RK s.heap.length s.leak fq24.res K)):VC ⟨prog,k + 1,b⟩ F_fq24 [a] s K:=VC_ra (P:=prog) (F':=fq24.fn) rfl fq24.ra fq24.ul rfl h
theorem fq24.ret {n:Nat} {lk:Bool} {K:AV→St→Prop}:RK n lk fq24.res K .ret [a,c,d,f,g,i,j,l,o,p,q,r,t,u,w,y,z,A,B,C,D,F,G,H,L,M,N,P] s=(K (leave n lk [⟨1,none,none⟩] [c] s).1 (leave n lk [⟨1,none,none⟩] [c] s).2):=by kernel_rfl
theorem fq24.n0_w:WC E fq24.n0 [a,c,d,f,g,i,j,l,o,p,q,r,t,u,w,y,z,A,B,C,D,F,G,H,L,M,N,P] s Q=(VC E F_fq27 [a] s fun v1 s2=>oM (vLen false v1) fun v3=>oM (eMksl s2 1 8 [.nilmap] v3 v3) fun v4=>oM (vChk a) fun v6=>oM (vOff 0 v6) fun v7=>oM (vOff 3 v7) fun v8=>oM (ld (v4.2).heap none v8) fun v9=>oM (vLen false v9) fun v10=>oM (vIaddr ((push (v4.2) (.map (.mk true [(.int .i64),(.int .i64)]) 0 []))).heap 1 none v4.1 v10) fun v11=>oM (eStore E.base ((push (v4.2) (.map (.mk true [(.int .i64),(.int .i64)]) 0 []))) 1 v11 (.map (v4.2).heap.length)) fun s12=>oM (vChk a) fun v13=>oM (vOff 0 v13) fun v14=>oM (vOff 3 v14) fun v15=>oM (ld s12.heap none v15) fun v16=>oM (vLen false v16) fun v17=>oM (vIaddr s12.heap 1 none v1 v17) fun v18=>oM (ld s12.heap none v18) fun v19=>oM (eRange s12 v19) fun v20=>(sK (WC E (.block 0 fq24.n1)) (sK (WC E fq24.n5) Q)) .normal [a,(.slice true 0 []),d,f,v1,v4.1,v20.1,(.map (v4.2).heap.length),o,p,q,r,t,u,w,y,z,A,B,C,D,F,G,H,L,M,N,P] (v20.2)):=by kernel_rfl
theorem fq24.n2_w:WC E fq24.n2 [a,c,d,f,g,i,j,l,o,p,q,r,t,u,w,y,z,A,B,C,D,F,G,H,L,M,N,P] s Q=(VN j s fun v1 s2=>oM (vExt 0 v1) fun v3=>cM v3 ((sK (WC E fq24.n4) Q) .normal [a,c,d,f,g,i,j,v3,o,p,q,r,t,u,w,y,z,A,B,C,D,F,G,H,L,M,N,P] s2) ((sK (WC E fq24.n4) Q) (.exit 0) [a,c,d,f,g,i,j,v3,o,p,q,r,t,u,w,y,z,A,B,C,D,F,G,H,L,M,N,P] s2)):=by kernel_rfl
theorem fq24.n4_w:WC E fq24.n4 [a,c,d,f,g,i,j,l,o,p,q,r,t,u,w,y,z,A,B,C,D,F,G,H,L,M,N,P] s Q=(oM (vEntry s.heap j) fun v1=>oM (vExt 0 v1) fun v2=>oM (eStore E.base ((push s (.cells [(.int .i64 0),(.int .i64 0)]))) 2 (.ptr s.heap.length 0 2) v2) fun s3=>oM (vChk a) fun v4=>oM (vOff 0 v4) fun v5=>oM (vOff 3 v5) fun v6=>oM (ld s3.heap none v6) fun v7=>oM (vLen false v7) fun v8=>oM (vIaddr s3.heap 1 none i v8) fun v9=>oM (ld s3.heap none v9) fun v10=>oM (ld s3.heap (some 2) (.ptr s.heap.length 0 2)) fun v11=>oM (fillA [(.int .i64 0),(.int .i64 0)] []) fun v12=>oM (eMupd E.base s3 (.mk true [(.int .i64),(.int .i64)]) v10 v11 (.agg v12)) fun s13=>(bK 1 Q) .normal [a,c,d,f,g,i,j,v10,v11,(.agg v12),q,r,t,u,w,y,z,A,B,C,D,F,G,H,L,M,N,P] s13):=by kernel_rfl
theorem fq24.n5_w:WC E fq24.n5 [a,c,d,f,g,i,j,l,o,p,q,r,t,u,w,y,z,A,B,C,D,F,G,H,L,M,N,P] s Q=(oM (vChk a) fun v1=>oM (vOff 0 v1) fun v2=>oM (vOff 3 v2) fun v3=>oM (ld s.heap none v3) fun v4=>oM (vLen false v4) fun v5=>oM (evBin .sub v5 (.int .i64 1)) fun v6=>(sK (WC E (.block 2 fq24.n6)) (sK (WC E fq24.n23) Q)) .normal [a,c,v6,f,g,i,v6,l,o,p,q,r,t,u,w,y,z,A,B,C,D,F,G,H,L,M,N,P] s):=by kernel_rfl
theorem fq24.n7_w:WC E fq24.n7 [a,c,d,f,g,i,j,l,o,p,q,r,t,u,w,y,z,A,B,C,D,F,G,H,L,M,N,P] s Q=(oM (evBin .geq d (.int .i64 0)) fun v1=>cM v1 ((sK (WC E fq24.n9) Q) .normal [a,c,d,f,g,i,v1,l,o,p,q,r,t,u,w,y,z,A,B,C,D,F,G,H,L,M,N,P] s) ((sK (WC E fq24.n9) Q) (.exit 2) [a,c,d,f,g,i,v1,l,o,p,q,r,t,u,w,y,z,A,B,C,D,F,G,H,L,M,N,P] s)):=by kernel_rfl
theorem fq24.n9_w:WC E fq24.n9 [a,c,d,f,g,i,j,l,o,p,q,r,t,u,w,y,z,A,B,C,D,F,G,H,L,M,N,P] s Q=(oM (vIaddr ((push s (.map (.mk true [(.int .i64),(.int .i64)]) 0 []))).heap 1 none i d) fun v1=>oM (eStore E.base ((push s (.map (.mk true [(.int .i64),(.int .i64)]) 0 []))) 1 v1 (.map s.heap.length)) fun s2=>oM (vIaddr s2.heap 1 none g d) fun v3=>oM (ld s2.heap none v3) fun v4=>oM (eRange s2 v4) fun v5=>(sK (WC E (.block 4 fq24.n10)) (bK 3 (sK (WC E fq24.n22) Q))) .normal [a,c,d,f,g,i,v5.1,v1,o,p,q,r,t,u,w,y,z,A,B,C,D,F,G,H,L,M,N,P] (v5.2)):=by kernel_rfl
theorem fq24.n11_w:WC E fq24.n11 [a,c,d,f,g,i,j,l,o,p,q,r,t,u,w,y,z,A,B,C,D,F,G,H,L,M,N,P] s Q=(VN j s fun v1 s2=>oM (vExt 0 v1) fun v3=>cM v3 ((sK (WC E fq24.n13) Q) .normal [a,c,d,f,g,i,j,v3,o,p,q,r,t,u,w,y,z,A,B,C,D,F,G,H,L,M,N,P] s2) ((sK (WC E fq24.n13) Q) (.exit 4) [a,c,d,f,g,i,j,v3,o,p,q,r,t,u,w,y,z,A,B,C,D,F,G,H,L,M,N,P] s2)):=by kernel_rfl
theorem fq24.n13_w:WC E fq24.n13 [a,c,d,f,g,i,j,l,o,p,q,r,t,u,w,y,z,A,B,C,D,F,G,H,L,M,N,P] s Q=(oM (vEntry s.heap j) fun v1=>oM (vExt 0 v1) fun v2=>oM (eStore E.base ((push s (.cells [(.int .i64 0),(.int .i64 0)]))) 2 (.ptr s.heap.length 0 2) v2) fun s3=>oM (vChk a) fun v4=>oM (vOff 6 v4) fun v5=>oM (ld s3.heap none v5) fun v6=>oM (vLen false v6) fun v7=>(sK (WC E (.block 6 fq24.n14)) (bK 5 Q)) .normal [a,c,d,(.int .i64 0),g,i,j,v7,(.ptr s.heap.length 0 2),p,q,r,t,u,w,y,z,A,B,C,D,F,G,H,L,M,N,P] s3):=by kernel_rfl
theorem fq24.n15_w:WC E fq24.n15 [a,c,d,f,g,i,j,l,o,p,q,r,t,u,w,y,z,A,B,C,D,F,G,H,L,M,N,P] s Q=(oM (evBin .lss f l) fun v1=>cM v1 ((sK (WC E fq24.n17) Q) .normal [a,c,d,f,g,i,j,l,o,v1,q,r,t,u,w,y,z,A,B,C,D,F,G,H,L,M,N,P] s) ((sK (WC E fq24.n17) Q) (.exit 6) [a,c,d,f,g,i,j,l,o,v1,q,r,t,u,w,y,z,A,B,C,D,F,G,H,L,M,N,P] s)):=by kernel_rfl
theorem fq24.n17_w:WC E fq24.n17 [a,c,d,f,g,i,j,l,o,p,q,r,t,u,w,y,z,A,B,C,D,F,G,H,L,M,N,P] s Q=(oM (evBin .add d (.int .i64 1)) fun v1=>oM (vIaddr ((push s (.cells [(.int .i64 0),(.int .i64 0)]))).heap 1 none i v1) fun v2=>oM (ld ((push s (.cells [(.int .i64 0),(.int .i64 0)]))).heap none v2) fun v3=>oM (vOff 0 o) fun v4=>oM (ld ((push s (.cells [(.int .i64 0),(.int .i64 0)]))).heap none v4) fun v5=>VC E F_fq26 [a,d,v5,f] ((push s (.cells [(.int .i64 0),(.int .i64 0)]))) fun v6 s7=>oM (fillA [(.int .i64 0),(.int .i64 0)] [(0,1,v6),(1,1,f)]) fun v8=>oM (vLook s7.heap (.mk true [(.int .i64),(.int .i64)]) (.agg [(.int .i64 0),(.int .i64 0)]) true v3 (.agg v8)) fun v9=>oM (vExt 0 v9) fun v10=>oM (vExt 1 v9) fun v11=>oM (eStore E.base s7 2 (.ptr s.heap.length 0 2) v10) fun s12=>(chkRead E.base [a,c,d,f,g,i,j,l,o,(.ptr s.heap.length 0 2),i,d,v1,v2,v3,a,d,v4,v5,f,v6,f,(.agg v8),v9,v9,v10,v11,v11] ⟨(some 13),(.iaddr 1 none (.r 10) (.r 12)),none⟩ [((push s (.cells [(.int .i64 0),(.int .i64 0)]))).heap,s7.heap]=true)∧(chkRead E.base [a,c,d,f,g,i,j,l,o,(.ptr s.heap.length 0 2),i,d,v1,v2,v3,a,d,v4,v5,f,v6,f,(.agg v8),v9,v9,v10,v11,v11] ⟨(some 14),(.load none (.r 13)),none⟩ [((push s (.cells [(.int .i64 0),(.int .i64 0)]))).heap,s7.heap]=true)∧(chkRead E.base [a,c,d,f,g,i,j,l,o,(.ptr s.heap.length 0 2),i,d,v1,v2,v3,a,d,v4,v5,f,v6,f,(.agg v8),v9,v9,v10,v11,v11] ⟨(some 9),(.alloc [(.int .i64 0),(.int .i64 0)]),none⟩ [((push s (.cells [(.int .i64 0),(.int .i64 0)]))).heap,s7.heap]=true)∧oM (evUn .not v11) fun v13=>cM v13 ((sK (WC E fq24.n19) (bK 7 (sK (WC E fq24.n21) Q))) (.exit 7) [a,c,d,f,g,i,j,l,o,(.ptr s.heap.length 0 2),v13,d,v1,v2,v3,a,d,v4,v5,f,v6,f,(.agg v8),v9,v9,v10,v11,v11] s12) ((sK (WC E fq24.n19) (bK 7 (sK (WC E fq24.n21) Q))) .normal [a,c,d,f,g,i,j,l,o,(.ptr s.heap.length 0 2),v13,d,v1,v2,v3,a,d,v4,v5,f,v6,f,(.agg v8),v9,v9,v10,v11,v11] s12)):=by kernel_rfl
theorem fq24.n19_w:WC E fq24.n19 [a,c,d,f,g,i,j,l,o,p,q,r,t,u,w,y,z,A,B,C,D,F,G,H,L,M,N,P] s Q=(oM (vOff 0 p) fun v1=>oM (ld ((push s (.cells [(.int .i64 0),(.int .i64 0)]))).heap none v1) fun v2=>oM (vOff 1 o) fun v3=>oM (ld ((push s (.cells [(.int .i64 0),(.int .i64 0)]))).heap none v3) fun v4=>VC E F_fq25 [a,d,v4,f] ((push s (.cells [(.int .i64 0),(.int .i64 0)]))) fun v5 s6=>oM (evBin .add v2 v5) fun v7=>oM (fillA [(.int .i64 0),(.int .i64 0)] [(0,1,v7),(1,1,f)]) fun v8=>oM (eStore E.base s6 2 (.ptr s.heap.length 0 2) (.agg v8)) fun s9=>(chkRead E.base [a,c,d,f,g,i,j,l,o,p,(.ptr s.heap.length 0 2),v1,v2,a,d,v3,v4,f,v5,v7,f,(.agg v8),G,H,L,M,N,P] ⟨(some 12),(.load none (.r 11)),none⟩ [((push s (.cells [(.int .i64 0),(.int .i64 0)]))).heap,s6.heap]=true)∧(chkRead E.base [a,c,d,f,g,i,j,l,o,p,(.ptr s.heap.length 0 2),v1,v2,a,d,v3,v4,f,v5,v7,f,(.agg v8),G,H,L,M,N,P] ⟨(some 10),(.alloc [(.int .i64 0),(.int .i64 0)]),none⟩ [((push s (.cells [(.int .i64 0),(.int .i64 0)]))).heap,s6.heap]=true)∧oM (vIaddr ((push s9 (.cells [(.int .i64 0),(.int .i64 0)]))).heap 1 none i d) fun v10=>oM (ld ((push s9 (.cells [(.int .i64 0),(.int .i64 0)]))).heap none v10) fun v11=>oM (ld ((push s9 (.cells [(.int .i64 0),(.int .i64 0)]))).heap (some 2) o) fun v12=>oM (vLook ((push s9 (.cells [(.int .i64 0),(.int .i64 0)]))).heap (.mk true [(.int .i64),(.int .i64)]) (.agg [(.int .i64 0),(.int .i64 0)]) true v11 v12) fun v13=>oM (vExt 0 v13) fun v14=>oM (vExt 1 v13) fun v15=>oM (eStore E.base ((push s9 (.cells [(.int .i64 0),(.int .i64 0)]))) 2 (.ptr s9.heap.length 0 2) v14) fun s16=>(chkRead E.base [a,c,d,f,g,i,j,l,o,(.ptr s9.heap.length 0 2),(.ptr s.heap.length 0 2),i,d,v10,v11,v12,v13,v13,v14,v15,v15,(.agg v8),G,H,L,M,N,P] ⟨(some 9),(.alloc [(.int .i64 0),(.int .i64 0)]),none⟩ [((push s9 (.cells [(.int .i64 0),(.int .i64 0)]))).heap]=true)∧oM (evUn .not v15) fun v17=>gO v17 false s16 (fun k18=>oM (vOff 0 (.ptr s.heap.length 0 2)) fun v19=>k18 v19 s16) fun v20 s20=>gO v17 false s20 (fun k21=>oM (ld s20.heap none v20) fun v22=>k21 v22 s20) fun v23 s23=>gO v17 false s23 (fun k24=>oM (vOff 0 (.ptr s9.heap.length 0 2)) fun v25=>k24 v25 s23) fun v26 s26=>gO v17 false s26 (fun k27=>oM (ld s26.heap none v26) fun v28=>k27 v28 s26) fun v29 s29=>gO v17 false s29 (fun k30=>oM (evBin .lss v23 v29) fun v31=>k30 v31 s29) fun v32 s32=>oM (vPick v17 (.bool true) v32) fun v33=>cM v33 (WC E fq24.n20 [a,c,d,f,g,i,j,l,o,v33,(.ptr s.heap.length 0 2),v17,v23,v10,v11,v12,v13,v13,v14,v15,v15,(.agg v8),G,H,L,M,N,P] s32 Q) (Q .normal [a,c,d,f,g,i,j,l,o,v33,(.ptr s.heap.length 0 2),v17,v23,v10,v11,v12,v13,v13,v14,v15,v15,(.agg v8),G,H,L,M,N,P] s32)):=by kernel_rfl
theorem fq24.n20_w:WC E fq24.n20 [a,c,d,f,g,i,j,l,o,p,q,r,t,u,w,y,z,A,B,C,D,F,G,H,L,M,N,P] s Q=(oM (vIaddr s.heap 1 none i d) fun v1=>oM (ld s.heap none v1) fun v2=>oM (ld s.heap (some 2) o) fun v3=>oM (ld s.heap (some 2) q) fun v4=>oM (eMupd E.base s (.mk true [(.int .i64),(.int .i64)]) v2 v3 v4) fun s5=>Q .normal [a,c,d,f,g,i,j,l,o,v2,v4,v3,t,u,w,y,z,A,B,C,D,F,G,H,L,M,N,P] s5):=by kernel_rfl
theorem fq24.n21_w:WC E fq24.n21 [a,c,d,f,g,i,j,l,o,p,q,r,t,u,w,y,z,A,B,C,D,F,G,H,L,M,N,P] s Q=(oM (evBin .add f (.int .i64 1)) fun v1=>Q .normal [a,c,d,v1,g,i,j,l,o,v1,q,r,t,u,w,y,z,A,B,C,D,F,G,H,L,M,N,P] s):=by kernel_rfl
theorem fq24.n22_w:WC E fq24.n22 [a,c,d,f,g,i,j,l,o,p,q,r,t,u,w,y,z,A,B,C,D,F,G,H,L,M,N,P] s Q=(oM (evBin .sub d (.int .i64 1)) fun v1=>Q .normal [a,c,v1,f,g,i,v1,l,o,p,q,r,t,u,w,y,z,A,B,C,D,F,G,H,L,M,N,P] s):=by kernel_rfl
theorem fq24.n23_w:WC E fq24.n23 [a,c,d,f,g,i,j,l,o,p,q,r,t,u,w,y,z,A,B,C,D,F,G,H,L,M,N,P] s Q=(Q .ret [a,i,d,f,g,i,j,l,o,p,q,r,t,u,w,y,z,A,B,C,D,F,G,H,L,M,N,P] s):=by kernel_rfl
def fq24.n1_J (a c d f g i j q r t u w y z A B C D F G H L M N P:AV) (I:Nat→St→Prop) (m:Nat) (ρ:Regs) (s:St):Prop:=∃ l o p:AV,ρ=[a,c,d,f,g,i,j,l,o,p,q,r,t,u,w,y,z,A,B,C,D,F,G,H,L,M,N,P]∧I m  s
theorem fq24.n1_go {I:Nat→St→Prop} {m m':Nat} (hm:m' < m) (h:I m'  s):LK (fq24.n1_J a c d f g i j q r t u w y z A B C D F G H L M N P I) m Q .normal [a,c,d,f,g,i,j,l,o,p,q,r,t,u,w,y,z,A,B,C,D,F,G,H,L,M,N,P] s:=⟨m',hm,_,_,_,rfl,h⟩
theorem fq24.n1_l (I:Nat→St→Prop) (m:Nat) (hm:m < E.k) (h0:I m  s) (step:∀ (m:Nat) (l o p:AV) (s:St),I m  s→WC E fq24.n2 [a,c,d,f,g,i,j,l,o,p,q,r,t,u,w,y,z,A,B,C,D,F,G,H,L,M,N,P] s (LK (fq24.n1_J a c d f g i j q r t u w y z A B C D F G H L M N P I) m Q)):WC E fq24.n1 [a,c,d,f,g,i,j,l,o,p,q,r,t,u,w,y,z,A,B,C,D,F,G,H,L,M,N,P] s Q:=WC_loop (J:=fq24.n1_J a c d f g i j q r t u w y z A B C D F G H L M N P I) m hm ⟨_,_,_,rfl,h0⟩ (fun m ρ s ⟨l,o,p,e,h⟩=>by rw [e]; exact step m l o p s h)
def fq24.n6_J (a c g i:AV) (I:Nat→AV→St→Prop) (m:Nat) (ρ:Regs) (s:St):Prop:=∃ d f j l o p q r t u w y z A B C D F G H L M N P:AV,ρ=[a,c,d,f,g,i,j,l,o,p,q,r,t,u,w,y,z,A,B,C,D,F,G,H,L,M,N,P]∧I m d s
theorem fq24.n6_go {I:Nat→AV→St→Prop} {m m':Nat} (hm:m' < m) (h:I m' d s):LK (fq24.n6_J a c g i I) m Q .normal [a,c,d,f,g,i,j,l,o,p,q,r,t,u,w,y,z,A,B,C,D,F,G,H,L,M,N,P] s:=⟨m',hm,_,_,_,_,_,_,_,_,_,_,_,_,_,_,_,_,_,_,_,_,_,_,_,_,rfl,h⟩
theorem fq24.n6_l (I:Nat→AV→St→Prop) (m:Nat) (hm:m < E.k) (h0:I m d s) (step:∀ (m:Nat) (d f j l o p q r t u w y z A B C D F G H L M N P:AV) (s:St),I m d s→WC E fq24.n7 [a,c,d,f,g,i,j,l,o,p,q,r,t,u,w,y,z,A,B,C,D,F,G,H,L,M,N,P] s (LK (fq24.n6_J a c g i I) m Q)):WC E fq24.n6 [a,c,d,f,g,i,j,l,o,p,q,r,t,u,w,y,z,A,B,C,D,F,G,H,L,M,N,P] s Q:=WC_loop (J:=fq24.n6_J a c g i I) m hm ⟨_,_,_,_,_,_,_,_,_,_,_,_,_,_,_,_,_,_,_,_,_,_,_,_,rfl,h0⟩ (fun m ρ s ⟨d,f,j,l,o,p,q,r,t,u,w,y,z,A,B,C,D,F,G,H,L,M,N,P,e,h⟩=>by rw [e]; exact step m d f j l o p q r t u w y z A B C D F G H L M N P s h)
def fq24.n10_J (a c d g i j:AV) (I:Nat→St→Prop) (m:Nat) (ρ:Regs) (s:St):Prop:=∃ f l o p q r t u w y z A B C D F G H L M N P:AV,ρ=[a,c,d,f,g,i,j,l,o,p,q,r,t,u,w,y,z,A,B,C,D,F,G,H,L,M,N,P]∧I m  s
theorem fq24.n10_go {I:Nat→St→Prop} {m m':Nat} (hm:m' < m) (h:I m'  s):LK (fq24.n10_J a c d g i j I) m Q .normal [a,c,d,f,g,i,j,l,o,p,q,r,t,u,w,y,z,A,B,C,D,F,G,H,L,M,N,P] s:=⟨m',hm,_,_,_,_,_,_,_,_,_,_,_,_,_,_,_,_,_,_,_,_,_,_,rfl,h⟩
theorem fq24.n10_l (I:Nat→St→Prop) (m:Nat) (hm:m < E.k) (h0:I m  s) (step:∀ (m:Nat) (f l o p q r t u w y z A B C D F G H L M N P:AV) (s:St),I m  s→WC E fq24.n11 [a,c,d,f,g,i,j,l,o,p,q,r,t,u,w,y,z,A,B,C,D,F,G,H,L,M,N,P] s (LK (fq24.n10_J a c d g i j I) m Q)):WC E fq24.n10 [a,c,d,f,g,i,j,l,o,p,q,r,t,u,w,y,z,A,B,C,D,F,G,H,L,M,N,P] s Q:=WC_loop (J:=fq24.n10_J a c d g i j I) m hm ⟨_,_,_,_,_,_,_,_,_,_,_,_,_,_,_,_,_,_,_,_,_,_,rfl,h0⟩ (fun m ρ s ⟨f,l,o,p,q,r,t,u,w,y,z,A,B,C,D,F,G,H,L,M,N,P,e,h⟩=>by rw [e]; exact step m f l o p q r t u w y z A B C D F G H L M N P s h)
def fq24.n14_J (a c d g i j l o:AV) (I:Nat→AV→St→Prop) (m:Nat) (ρ:Regs) (s:St):Prop:=∃ f p q r t u w y z A B C D F G H L M N P:AV,ρ=[a,c,d,f,g,i,j,l,o,p,q,r,t,u,w,y,z,A,B,C,D,F,G,H,L,M,N,P]∧I m f s
theorem fq24.n14_go {I:Nat→AV→St→Prop} {m m':Nat} (hm:m' < m) (h:I m' f s):LK (fq24.n14_J a c d g i j l o I) m Q .normal [a,c,d,f,g,i,j,l,o,p,q,r,t,u,w,y,z,A,B,C,D,F,G,H,L,M,N,P] s:=⟨m',hm,_,_,_,_,_,_,_,_,_,_,_,_,_,_,_,_,_,_,_,_,rfl,h⟩
theorem fq24.n14_l (I:Nat→AV→St→Prop) (m:Nat) (hm:m < E.k) (h0:I m f s) (step:∀ (m:Nat) (f p q r t u w y z A B C D F G H L M N P:AV) (s:St),I m f s→WC E fq24.n15 [a,c,d,f,g,i,j,l,o,p,q,r,t,u,w,y,z,A,B,C,D,F,G,H,L,M,N,P] s (LK (fq24.n14_J a c d g i j l o I) m Q)):WC E fq24.n14 [a,c,d,f,g,i,j,l,o,p,q,r,t,u,w,y,z,A,B,C,D,F,G,H,L,M,N,P] s Q:=WC_loop (J:=fq24.n14_J a c d g i j l o I) m hm ⟨_,_,_,_,_,_,_,_,_,_,_,_,_,_,_,_,_,_,_,_,rfl,h0⟩ (fun m ρ s ⟨f,p,q,r,t,u,w,y,z,A,B,C,D,F,G,H,L,M,N,P,e,h⟩=>by rw [e]; exact step m f p q r t u w y z A B C D F G H L M N P s h)
theorem fq26.enter {k:Nat} {b:Option Nat} {K:AV→St→Prop} (h:WC ⟨prog,k,some s.heap.length⟩ fq26.n0 [a,c,d,f,.undef,.undef,.undef] { s with leak:=false } (RK s.heap.length s.leak fq26.res K)):VC ⟨prog,k + 1,b⟩ F_fq26 [a,c,d,f] s K:=VC_ra (P:=prog) (F':=fq26.fn) rfl fq26.ra fq26.ul rfl h
theorem fq26.ret {n:Nat} {lk:Bool} {K:AV→St→Prop}:RK n lk fq26.res K .ret [a,c,d,f,g,i,j] s=(K (leave n lk [⟨4,none,none⟩] [g] s).1 (leave n lk [⟨4,none,none⟩] [g] s).2):=by kernel_rfl
theorem fq26.n0_w:WC E fq26.n0 [a,c,d,f,g,i,j] s Q=(oM (vChk a) fun v1=>oM (vOff 0 v1) fun v2=>oM (vOff 1 v2) fun v3=>oM (ld s.heap none v3) fun v4=>oM (vChk a) fun v5=>oM (vOff 0 v5) fun v6=>oM (vOff 3 v6) fun v7=>oM (ld s.heap none v7) fun v8=>oM (vIaddr s.heap 1 none v8 c) fun v9=>oM (ld s.heap none v9) fun v10=>oM (evBin .add d v10) fun v11=>oM (vChk a) fun v12=>oM (vOff 6 v12) fun v13=>oM (ld s.heap none v13) fun v14=>oM (vIaddr s.heap 1 none v14 f) fun v15=>oM (ld s.heap none v15) fun v16=>oM (evBin .sub v11 v16) fun v17=>oM (evMinMax true v4 [v17]) fun v18=>Q .ret [v18,v11,d,f,v18,v4,v8] s):=by kernel_rfl
theorem fq48.enter {k:Nat} {b:Option Nat} {K:AV→St→Prop} (h:WC ⟨prog,k,some s.heap.length⟩ fq48.n0 [a,c,d,.undef] { s with leak:=false } (RK s.heap.length s.leak fq48.res K)):VC ⟨prog,k + 1,b⟩ F_fq48 [a,c,d] s K:=VC_ra (P:=prog) (F':=fq48.fn) rfl fq48.ra fq48.ul rfl h
theorem fq48.ret {n:Nat} {lk:Bool} {K:AV→St→Prop}:RK n lk fq48.res K .ret [a,c,d,f] s=(K (leave n lk [⟨3,none,none⟩] [f] s).1 (leave n lk [⟨3,none,none⟩] [f] s).2):=by kernel_rfl
theorem fq48.n0_w:WC E fq48.n0 [a,c,d,f] s Q=(VC E F_fq43 [a,c,d] s fun v1 s2=>Q .ret [v1,c,d,v1] s2):=by kernel_rfl
theorem fq50.enter {k:Nat} {b:Option Nat} {K:AV→St→Prop} (h:WC ⟨prog,k,some s.heap.length⟩ fq50.n0 [a,c,.undef] { s with leak:=false } (RK s.heap.length s.leak fq50.res K)):VC ⟨prog,k + 1,b⟩ F_fq50 [a,c] s K:=VC_ra (P:=prog) (F':=fq50.fn) rfl fq50.ra fq50.ul rfl h
theorem fq50.ret {n:Nat} {lk:Bool} {K:AV→St→Prop}:RK n lk fq50.res K .ret [a,c,d] s=(K (leave n lk [⟨2,none,none⟩] [d] s).1 (leave n lk [⟨2,none,none⟩] [d] s).2):=by kernel_rfl
theorem fq50.n0_w:WC E fq50.n0 [a,c,d] s Q=(VC E F_fq54 [a,c] s fun v1 s2=>oM (evBin .geq v1 (.int .i64 0)) fun v3=>Q .ret [v3,c,v3] s2):=by kernel_rfl
theorem fq12.enter {k:Nat} {b:Option Nat} {K:AV→St→Prop} (h:WC ⟨prog,k,some s.heap.length⟩ fq12.n0 [a,.undef,.undef] { s with leak:=false } (RK s.heap.length s.leak fq12.res K)):VC ⟨prog,k + 1,b⟩ F_fq12 [a] s K:=VC_ra (P:=prog) (F':=fq12.fn) rfl fq12.ra fq12.ul rfl h
theorem fq12.ret {n:Nat} {lk:Bool} {K:AV→St→Prop}:RK n lk fq12.res K .ret [a,c,d] s=(K (leave n lk [⟨1,none,none⟩] [c] s).1 (leave n lk [⟨1,none,none⟩] [c] s).2):=by kernel_rfl
theorem fq12.n0_w:WC E fq12.n0 [a,c,d] s Q=(oM (eBox s 2 a) fun v1=>oM (vOff 0 v1.1) fun v3=>oM (ld (v1.2).heap none v3) fun v4=>oM (vOff 1 v1.1) fun v5=>oM (ld (v1.2).heap none v5) fun v6=>oM (eLit (v1.2) 1 [(.int .i64 0),(.int .i64 0)] [(0,1,v4),(1,1,v6)] false true) fun v7=>VC E F_fq19 [v7.1] (v7.2) fun v9 s10=>oM (evUn .not v9) fun v11=>Q .ret [v11,v11,v4] s10):=by kernel_rfl
theorem fq19.enter {k:Nat} {b:Option Nat} {K:AV→St→Prop} (h:WC ⟨prog,k,some s.heap.length⟩ fq19.n0 [a,.undef] { s with leak:=false } (RK s.heap.length s.leak fq19.res K)):VC ⟨prog,k + 1,b⟩ F_fq19 [a] s K:=VC_ra (P:=prog) (F':=fq19.fn) rfl fq19.ra fq19.ul rfl h
theorem fq19.ret {n:Nat} {lk:Bool} {K:AV→St→Prop}:RK n lk fq19.res K .ret [a,c] s=(K (leave n lk [⟨1,none,none⟩] [c] s).1 (leave n lk [⟨1,none,none⟩] [c] s).2):=by kernel_rfl
theorem fq19.n0_w:WC E fq19.n0 [a,c] s Q=(VC E F_fq51 [a,(.fn F_fq20 [])] s fun v1 s2=>oM (evUn .not v1) fun v3=>Q .ret [v3,v3] s2):=by kernel_rfl
theorem fq13.enter {k:Nat} {b:Option Nat} {K:AV→St→Prop} (h:WC ⟨prog,k,some s.heap.length⟩ fq13.n0 [a,c,d,f,.undef,.undef,.undef,.undef,.undef,.undef,.undef,.undef,.undef,.undef,.undef,.undef,.undef,.undef,.undef,.undef,.undef,.undef,.undef,.undef,.undef,.undef,.undef,.undef,.undef,.undef,.undef,.undef,.undef,.undef,.undef,.undef,.undef,.undef,.undef,.undef,.undef,.undef] { s with leak:=false } (RK s.heap.length s.leak fq13.res K)):VC ⟨prog,k + 1,b⟩ F_fq13 [a,c,d,f] s K:=VC_ra (P:=prog) (F':=fq13.fn) rfl fq13.ra fq13.ul rfl h
theorem fq13.ret {n:Nat} {lk:Bool} {K:AV→St→Prop}:RK n lk fq13.res K .ret [a,c,d,f,g,i,j,l,o,p,q,r,t,u,w,y,z,A,B,C,D,F,G,H,L,M,N,P,R,T,U,V,W,X,Y,Z,a0,a1,a2,a3,a4,a5] s=(K (leave n lk [⟨4,none,none⟩] [g] s).1 (leave n lk [⟨4,none,none⟩] [g] s).2):=by kernel_rfl
theorem fq13.n0_w:WC E fq13.n0 [a,c,d,f,g,i,j,l,o,p,q,r,t,u,w,y,z,A,B,C,D,F,G,H,L,M,N,P,R,T,U,V,W,X,Y,Z,a0,a1,a2,a3,a4,a5] s Q=(oM (ld s.heap none c) fun v1=>oM (vLook s.heap (.mk false [(.int .u64)]) (.agg [(.int .i64 0),(.int .i64 0)]) true v1 a) fun v2=>oM (vExt 0 v2) fun v3=>oM (vExt 1 v2) fun v4=>oM (eStore E.base ((push s (.cells [(.int .i64 0),(.int .i64 0)]))) 2 (.ptr s.heap.length 0 2) v3) fun s5=>cM v4 (WC E fq13.n1 [a,c,d,f,(.int .i64 0),i,v4,v3,(.ptr s.heap.length 0 2),p,q,r,t,u,w,y,z,A,B,C,D,F,G,H,L,M,N,P,R,T,U,V,W,X,Y,Z,a0,a1,a2,a3,a4,a5] s5 (sK (WC E fq13.n2) Q)) ((sK (WC E fq13.n2) Q) .normal [a,c,d,f,(.int .i64 0),i,v4,v3,(.ptr s.heap.length 0 2),p,q,r,t,u,w,y,z,A,B,C,D,F,G,H,L,M,N,P,R,T,U,V,W,X,Y,Z,a0,a1,a2,a3,a4,a5] s5)):=by kernel_rfl
theorem fq13.n1_w:WC E fq13.n1 [a,c,d,f,g,i,j,l,o,p,q,r,t,u,w,y,z,A,B,C,D,F,G,H,L,M,N,P,R,T,U,V,W,X,Y,Z,a0,a1,a2,a3,a4,a5] s Q=(oM (vOff 0 o) fun v1=>oM (ld s.heap none v1) fun v2=>Q .ret [v2,c,d,f,v2,i,j,l,o,p,q,r,t,u,w,y,z,A,B,C,D,F,G,H,L,M,N,P,R,T,U,V,W,X,Y,Z,a0,a1,a2,a3,a4,a5] s):=by kernel_rfl
theorem fq13.n2_w:WC E fq13.n2 [a,c,d,f,g,i,j,l,o,p,q,r,t,u,w,y,z,A,B,C,D,F,G,H,L,M,N,P,R,T,U,V,W,X,Y,Z,a0,a1,a2,a3,a4,a5] s Q=(oM (vOff 0 o) fun v1=>oM (eStore E.base s 1 v1 (.int .i64 (-1))) fun s2=>VC E F_fq37 [a] s2 fun v3 s4=>VC E F_fq38 [a,v3] s4 fun v5 s6=>(sK (WC E (.block 0 fq13.n3)) (sK (WC E fq13.n9) Q)) .normal [a,c,d,f,g,v5,v3,v5,o,p,q,r,t,u,w,y,z,A,B,C,D,F,G,H,L,M,N,P,R,T,U,V,W,X,Y,Z,a0,a1,a2,a3,a4,a5] s6):=by kernel_rfl
theorem fq13.n4_w:WC E fq13.n4 [a,c,d,f,g,i,j,l,o,p,q,r,t,u,w,y,z,A,B,C,D,F,G,H,L,M,N,P,R,T,U,V,W,X,Y,Z,a0,a1,a2,a3,a4,a5] s Q=(oM (evBin .neq i (.int .u64 0)) fun v1=>cM v1 ((sK (WC E fq13.n6) Q) .normal [a,c,d,f,g,i,j,l,o,v1,q,r,t,u,w,y,z,A,B,C,D,F,G,H,L,M,N,P,R,T,U,V,W,X,Y,Z,a0,a1,a2,a3,a4,a5] s) ((sK (WC E fq13.n6) Q) (.exit 0) [a,c,d,f,g,i,j,l,o,v1,q,r,t,u,w,y,z,A,B,C,D,F,G,H,L,M,N,P,R,T,U,V,W,X,Y,Z,a0,a1,a2,a3,a4,a5] s)):=by kernel_rfl
theorem fq13.n6_w:WC E fq13.n6 [a,c,d,f,g,i,j,l,o,p,q,r,t,u,w,y,z,A,B,C,D,F,G,H,L,M,N,P,R,T,U,V,W,X,Y,Z,a0,a1,a2,a3,a4,a5] s Q=(VC E F_fq37 [i] s fun v1 s2=>oM (ld s2.heap none d) fun v3=>VC E F_fq38 [l,v1] s2 fun v4 s5=>VV E v3 [v4] s5 fun v6 s7=>oM (ld s7.heap none f) fun v8=>oM (vIaddr s7.heap 2 none v8 j) fun v9=>oM (vOff 0 v9) fun v10=>oM (ld s7.heap none v10) fun v11=>oM (ld s7.heap none f) fun v12=>oM (vIaddr s7.heap 2 none v12 v1) fun v13=>oM (vOff 0 v13) fun v14=>oM (ld s7.heap none v14) fun v15=>oM (evBin .sub v11 v15) fun v16=>VC E F_fq39 [v16] s7 fun v17 s18=>oM (evBin .add v6 v17) fun v19=>oM (ld s18.heap none f) fun v20=>oM (vIaddr s18.heap 2 none v20 j) fun v21=>oM (vOff 1 v21) fun v22=>oM (ld s18.heap none v22) fun v23=>oM (ld s18.heap none f) fun v24=>oM (vIaddr s18.heap 2 none v24 v1) fun v25=>oM (vOff 1 v25) fun v26=>oM (ld s18.heap none v26) fun v27=>oM (evBin .sub v23 v27) fun v28=>VC E F_fq39 [v28] s18 fun v29 s30=>oM (evBin .add v19 v29) fun v31=>(chkRead E.base [a,c,d,f,g,i,j,l,o,v1,v3,l,v1,v4,v6,v8,j,v9,v10,v11,v12,v1,v13,v14,v15,v16,v17,v19,v20,j,v21,v22,v23,v24,v1,v25,v26,v27,v28,v29,v31,v31] ⟨(some 10),(.load none (.r 2)),none⟩ [s2.heap,s5.heap]=true)∧(chkRead E.base [a,c,d,f,g,i,j,l,o,v1,v3,l,v1,v4,v6,v8,j,v9,v10,v11,v12,v1,v13,v14,v15,v16,v17,v19,v20,j,v21,v22,v23,v24,v1,v25,v26,v27,v28,v29,v31,v31] ⟨(some 15),(.load none (.r 3)),none⟩ [s2.heap,s5.heap,s7.heap]=true)∧(chkRead E.base [a,c,d,f,g,i,j,l,o,v1,v3,l,v1,v4,v6,v8,j,v9,v10,v11,v12,v1,v13,v14,v15,v16,v17,v19,v20,j,v21,v22,v23,v24,v1,v25,v26,v27,v28,v29,v31,v31] ⟨(some 17),(.iaddr 2 none (.r 15) (.r 16)),none⟩ [s2.heap,s5.heap,s7.heap]=true)∧(chkRead E.base [a,c,d,f,g,i,j,l,o,v1,v3,l,v1,v4,v6,v8,j,v9,v10,v11,v12,v1,v13,v14,v15,v16,v17,v19,v20,j,v21,v22,v23,v24,v1,v25,v26,v27,v28,v29,v31,v31] ⟨(some 19),(.load none (.r 18)),none⟩ [s2.heap,s5.heap,s7.heap]=true)∧(chkRead E.base [a,c,d,f,g,i,j,l,o,v1,v3,l,v1,v4,v6,v8,j,v9,v10,v11,v12,v1,v13,v14,v15,v16,v17,v19,v20,j,v21,v22,v23,v24,v1,v25,v26,v27,v28,v29,v31,v31] ⟨(some 20),(.load none (.r 3)),none⟩ [s2.heap,s5.heap,s7.heap]=true)∧(chkRead E.base [a,c,d,f,g,i,j,l,o,v1,v3,l,v1,v4,v6,v8,j,v9,v10,v11,v12,v1,v13,v14,v15,v16,v17,v19,v20,j,v21,v22,v23,v24,v1,v25,v26,v27,v28,v29,v31,v31] ⟨(some 22),(.iaddr 2 none (.r 20) (.r 21)),none⟩ [s2.heap,s5.heap,s7.heap]=true)∧(chkRead E.base [a,c,d,f,g,i,j,l,o,v1,v3,l,v1,v4,v6,v8,j,v9,v10,v11,v12,v1,v13,v14,v15,v16,v17,v19,v20,j,v21,v22,v23,v24,v1,v25,v26,v27,v28,v29,v31,v31] ⟨(some 24),(.load none (.r 23)),none⟩ [s2.heap,s5.heap,s7.heap]=true)∧(chkRead E.base [a,c,d,f,g,i,j,l,o,v1,v3,l,v1,v4,v6,v8,j,v9,v10,v11,v12,v1,v13,v14,v15,v16,v17,v19,v20,j,v21,v22,v23,v24,v1,v25,v26,v27,v28,v29,v31,v31] ⟨(some 28),(.load none (.r 3)),none⟩ [s2.heap,s5.heap,s7.heap,s18.heap]=true)∧(chkRead E.base [a,c,d,f,g,i,j,l,o,v1,v3,l,v1,v4,v6,v8,j,v9,v10,v11,v12,v1,v13,v14,v15,v16,v17,v19,v20,j,v21,v22,v23,v24,v1,v25,v26,v27,v28,v29,v31,v31] ⟨(some 30),(.iaddr 2 none (.r 28) (.r 29)),none⟩ [s2.heap,s5.heap,s7.heap,s18.heap]=true)∧(chkRead E.base [a,c,d,f,g,i,j,l,o,v1,v3,l,v1,v4,v6,v8,j,v9,v10,v11,v12,v1,v13,v14,v15,v16,v17,v19,v20,j,v21,v22,v23,v24,v1,v25,v26,v27,v28,v29,v31,v31] ⟨(some 32),(.load none (.r 31)),none⟩ [s2.heap,s5.heap,s7.heap,s18.heap]=true)∧(chkRead E.base [a,c,d,f,g,i,j,l,o,v1,v3,l,v1,v4,v6,v8,j,v9,v10,v11,v12,v1,v13,v14,v15,v16,v17,v19,v20,j,v21,v22,v23,v24,v1,v25,v26,v27,v28,v29,v31,v31] ⟨(some 33),(.load none (.r 3)),none⟩ [s2.heap,s5.heap,s7.heap,s18.heap]=true)∧(chkRead E.base [a,c,d,f,g,i,j,l,o,v1,v3,l,v1,v4,v6,v8,j,v9,v10,v11,v12,v1,v13,v14,v15,v16,v17,v19,v20,j,v21,v22,v23,v24,v1,v25,v26,v27,v28,v29,v31,v31] ⟨(some 35),(.iaddr 2 none (.r 33) (.r 34)),none⟩ [s2.heap,s5.heap,s7.heap,s18.heap]=true)∧(chkRead E.base [a,c,d,f,g,i,j,l,o,v1,v3,l,v1,v4,v6,v8,j,v9,v10,v11,v12,v1,v13,v14,v15,v16,v17,v19,v20,j,v21,v22,v23,v24,v1,v25,v26,v27,v28,v29,v31,v31] ⟨(some 37),(.load none (.r 36)),none⟩ [s2.heap,s5.heap,s7.heap,s18.heap]=true)∧oM (vOff 0 o) fun v32=>oM (ld s30.heap none v32) fun v33=>oM (evBin .lss v33 (.int .i64 0)) fun v34=>gO v34 false s30 (fun k35=>k35 v31 s30) fun v36 s36=>gO v34 false s36 (fun k37=>oM (vOff 0 o) fun v38=>k37 v38 s36) fun v39 s39=>gO v34 false s39 (fun k40=>oM (ld s39.heap none v39) fun v41=>k40 v41 s39) fun v42 s42=>gO v34 false s42 (fun k43=>oM (evBin .lss v36 v42) fun v44=>k43 v44 s42) fun v45 s45=>oM (vPick v34 (.bool true) v45) fun v46=>cM v46 (WC E fq13.n7 [a,c,d,f,g,i,j,l,o,v1,v46,v45,v42,v4,v6,v8,j,v9,v10,v11,v12,v1,v13,v14,v15,v16,v17,v19,v20,j,v21,v22,v23,v24,v1,v25,v26,v27,v28,v29,v31,v31] s45 (bK 1 (sK (WC E fq13.n8) Q))) ((bK 1 (sK (WC E fq13.n8) Q)) .normal [a,c,d,f,g,i,j,l,o,v1,v46,v45,v42,v4,v6,v8,j,v9,v10,v11,v12,v1,v13,v14,v15,v16,v17,v19,v20,j,v21,v22,v23,v24,v1,v25,v26,v27,v28,v29,v31,v31] s45)):=by kernel_rfl
theorem fq13.n7_w:WC E fq13.n7 [a,c,d,f,g,i,j,l,o,p,q,r,t,u,w,y,z,A,B,C,D,F,G,H,L,M,N,P,R,T,U,V,W,X,Y,Z,a0,a1,a2,a3,a4,a5] s Q=(oM (fillA [(.int .i64 0),(.int .i64 0)] [(0,1,a5),(1,1,p)]) fun v1=>oM (eStore E.base s 2 o (.agg v1)) fun s2=>Q .normal [a,c,d,f,g,i,j,l,o,(.agg v1),q,r,t,u,w,y,z,A,B,C,D,F,G,H,L,M,N,P,R,T,U,V,W,X,Y,Z,a0,a1,a2,a3,a4,a5] s2):=by kernel_rfl
theorem fq13.n8_w:WC E fq13.n8 [a,c,d,f,g,i,j,l,o,p,q,r,t,u,w,y,z,A,B,C,D,F,G,H,L,M,N,P,R,T,U,V,W,X,Y,Z,a0,a1,a2,a3,a4,a5] s Q=(VC E F_fq37 [i] s fun v1 s2=>VC E F_fq38 [i,v1] s2 fun v3 s4=>Q .normal [a,c,d,f,g,v3,j,l,o,v3,q,r,t,u,w,y,z,A,B,C,D,F,G,H,L,M,N,P,R,T,U,V,W,X,Y,Z,a0,a1,a2,a3,a4,a5] s4):=by kernel_rfl
theorem fq13.n9_w:WC E fq13.n9 [a,c,d,f,g,i,j,l,o,p,q,r,t,u,w,y,z,A,B,C,D,F,G,H,L,M,N,P,R,T,U,V,W,X,Y,Z,a0,a1,a2,a3,a4,a5] s Q=(oM (ld s.heap none c) fun v1=>oM (ld s.heap (some 2) o) fun v2=>oM (eMupd E.base s (.mk false [(.int .u64)]) v1 a v2) fun s3=>oM (vOff 0 o) fun v4=>oM (ld s3.heap none v4) fun v5=>Q .ret [v5,v1,v2,f,v5,i,j,l,o,p,q,r,t,u,w,y,z,A,B,C,D,F,G,H,L,M,N,P,R,T,U,V,W,X,Y,Z,a0,a1,a2,a3,a4,a5] s3):=by kernel_rfl
def fq13.n3_J (a c d f g j l o:AV) (I:Nat→AV→St→Prop) (m:Nat) (ρ:Regs) (s:St):Prop:=∃ i p q r t u w y z A B C D F G H L M N P R T U V W X Y Z a0 a1 a2 a3 a4 a5:AV,ρ=[a,c,d,f,g,i,j,l,o,p,q,r,t,u,w,y,z,A,B,C,D,F,G,H,L,M,N,P,R,T,U,V,W,X,Y,Z,a0,a1,a2,a3,a4,a5]∧I m i s
theorem fq13.n3_go {I:Nat→AV→St→Prop} {m m':Nat} (hm:m' < m) (h:I m' i s):LK (fq13.n3_J a c d f g j l o I) m Q .normal [a,c,d,f,g,i,j,l,o,p,q,r,t,u,w,y,z,A,B,C,D,F,G,H,L,M,N,P,R,T,U,V,W,X,Y,Z,a0,a1,a2,a3,a4,a5] s:=⟨m',hm,_,_,_,_,_,_,_,_,_,_,_,_,_,_,_,_,_,_,_,_,_,_,_,_,_,_,_,_,_,_,_,_,_,_,rfl,h⟩
theorem fq13.n3_l (I:Nat→AV→St→Prop) (m:Nat) (hm:m < E.k) (h0:I m i s) (step:∀ (m:Nat) (i p q r t u w y z A B C D F G H L M N P R T U V W X Y Z a0 a1 a2 a3 a4 a5:AV) (s:St),I m i s→WC E fq13.n4 [a,c,d,f,g,i,j,l,o,p,q,r,t,u,w,y,z,A,B,C,D,F,G,H,L,M,N,P,R,T,U,V,W,X,Y,Z,a0,a1,a2,a3,a4,a5] s (LK (fq13.n3_J a c d f g j l o I) m Q)):WC E fq13.n3 [a,c,d,f,g,i,j,l,o,p,q,r,t,u,w,y,z,A,B,C,D,F,G,H,L,M,N,P,R,T,U,V,W,X,Y,Z,a0,a1,a2,a3,a4,a5] s Q:=WC_loop (J:=fq13.n3_J a c d f g j l o I) m hm ⟨_,_,_,_,_,_,_,_,_,_,_,_,_,_,_,_,_,_,_,_,_,_,_,_,_,_,_,_,_,_,_,_,_,_,rfl,h0⟩ (fun m ρ s ⟨i,p,q,r,t,u,w,y,z,A,B,C,D,F,G,H,L,M,N,P,R,T,U,V,W,X,Y,Z,a0,a1,a2,a3,a4,a5,e,h⟩=>by rw [e]; exact step m i p q r t u w y z A B C D F G H L M N P R T U V W X Y Z a0 a1 a2 a3 a4 a5 s h)
theorem fq37.enter {k:Nat} {b:Option Nat} {K:AV→St→Prop} (h:WC ⟨prog,k,some s.heap.length⟩ fq37.n0 [a,.undef] { s with leak:=false } (RK s.heap.length s.leak fq37.res K)):VC ⟨prog,k + 1,b⟩ F_fq37 [a] s K:=VC_ra (P:=prog) (F':=fq37.fn) rfl fq37.ra fq37.ul rfl h
theorem fq37.ret {n:Nat} {lk:Bool} {K:AV→St→Prop}:RK n lk fq37.res K .ret [a,c] s=(K (leave n lk [⟨1,none,none⟩] [c] s).1 (leave n lk [⟨1,none,none⟩] [c] s).2):=by kernel_rfl
theorem fq37.n0_w:WC E fq37.n0 [a,c] s Q=(VC E F_fq0 [a] s fun v1 s2=>Q .ret [v1,v1] s2):=by kernel_rfl
theorem fq38.enter {k:Nat} {b:Option Nat} {K:AV→St→Prop} (h:WC ⟨prog,k,some s.heap.length⟩ fq38.n0 [a,c,.undef] { s with leak:=false } (RK s.heap.length s.leak fq38.res K)):VC ⟨prog,k + 1,b⟩ F_fq38 [a,c] s K:=VC_ra (P:=prog) (F':=fq38.fn) rfl fq38.ra fq38.ul rfl h
theorem fq38.ret {n:Nat} {lk:Bool} {K:AV→St→Prop}:RK n lk fq38.res K .ret [a,c,d] s=(K (leave n lk [⟨2,none,none⟩] [d] s).1 (leave n lk [⟨2,none,none⟩] [d] s).2):=by kernel_rfl
theorem fq38.n0_w:WC E fq38.n0 [a,c,d] s Q=(oM (vConv .u64 c) fun v1=>oM (evBin .shl (.int .u64 1) v1) fun v2=>oM (evBin .andNot a v2) fun v3=>Q .ret [v3,v2,v3] s):=by kernel_rfl
theorem fq39.enter {k:Nat} {b:Option Nat} {K:AV→St→Prop} (h:WC ⟨prog,k,some s.heap.length⟩ fq39.n0 [a,.undef,.undef] { s with leak:=false } (RK s.heap.length s.leak fq39.res K)):VC ⟨prog,k + 1,b⟩ F_fq39 [a] s K:=VC_ra (P:=prog) (F':=fq39.fn) rfl fq39.ra fq39.ul rfl h
theorem fq39.ret {n:Nat} {lk:Bool} {K:AV→St→Prop}:RK n lk fq39.res K .ret [a,c,d] s=(K (leave n lk [⟨1,none,none⟩] [c] s).1 (leave n lk [⟨1,none,none⟩] [c] s).2):=by kernel_rfl
theorem fq39.n0_w:WC E fq39.n0 [a,c,d] s Q=(oM (evUn .neg a) fun v1=>oM (evMinMax true a [v1]) fun v2=>Q .ret [v2,v2,v1] s):=by kernel_rfl
theorem fq15.enter {k:Nat} {b:Option Nat} {K:AV→St→Prop} (h:WC ⟨prog,k,some s.heap.length⟩ fq15.n0 [a,c,d,f,g,.undef,.undef,.undef,.undef,.undef,.undef,.undef,.undef,.undef,.undef,.undef,.undef,.undef,.undef,.undef,.undef,.undef,.undef] { s with leak:=false } (RK s.heap.length s.leak fq15.res K)):VC ⟨prog,k + 1,b⟩ F_fq15 [a,c,d,f,g] s K:=VC_ra (P:=prog) (F':=fq15.fn) rfl fq15.ra fq15.ul rfl h
theorem fq15.ret {n:Nat} {lk:Bool} {K:AV→St→Prop}:RK n lk fq15.res K .ret [a,c,d,f,g,i,j,l,o,p,q,r,t,u,w,y,z,A,B,C,D,F,G] s=(K (leave n lk [⟨5,none,none⟩] [i] s).1 (leave n lk [⟨5,none,none⟩] [i] s).2):=by kernel_rfl
theorem fq15.n0_w:WC E fq15.n0 [a,c,d,f,g,i,j,l,o,p,q,r,t,u,w,y,z,A,B,C,D,F,G] s Q=(oM (evBin .eql a (.int .u64 0)) fun v1=>cM v1 (WC E fq15.n1 [a,c,d,f,g,(.int .i64 0),j,l,v1,p,q,r,t,u,w,y,z,A,B,C,D,F,G] s (sK (WC E fq15.n2) Q)) ((sK (WC E fq15.n2) Q) .normal [a,c,d,f,g,(.int .i64 0),j,l,v1,p,q,r,t,u,w,y,z,A,B,C,D,F,G] s)):=by kernel_rfl
theorem fq15.n1_w:WC E fq15.n1 [a,c,d,f,g,i,j,l,o,p,q,r,t,u,w,y,z,A,B,C,D,F,G] s Q=(Q .ret [a,c,d,f,g,(.int .i64 0),j,l,o,p,q,r,t,u,w,y,z,A,B,C,D,F,G] s):=by kernel_rfl
theorem fq15.n2_w:WC E fq15.n2 [a,c,d,f,g,i,j,l,o,p,q,r,t,u,w,y,z,A,B,C,D,F,G] s Q=(oM (ld s.heap none d) fun v1=>oM (vLook s.heap (.mk false [(.int .u64)]) (.int .i64 0) true v1 a) fun v2=>oM (vExt 0 v2) fun v3=>oM (vExt 1 v2) fun v4=>cM v4 (WC E fq15.n3 [a,c,d,f,g,i,j,l,v4,v3,q,r,t,u,w,y,z,A,B,C,D,F,G] s (sK (WC E fq15.n4) Q)) ((sK (WC E fq15.n4) Q) .normal [a,c,d,f,g,i,j,l,v4,v3,q,r,t,u,w,y,z,A,B,C,D,F,G] s)):=by kernel_rfl
theorem fq15.n3_w:WC E fq15.n3 [a,c,d,f,g,i,j,l,o,p,q,r,t,u,w,y,z,A,B,C,D,F,G] s Q=(Q .ret [a,c,d,f,g,p,j,l,o,p,q,r,t,u,w,y,z,A,B,C,D,F,G] s):=by kernel_rfl
theorem fq15.n4_w:WC E fq15.n4 [a,c,d,f,g,i,j,l,o,p,q,r,t,u,w,y,z,A,B,C,D,F,G] s Q=((sK (WC E (.block 0 fq15.n5)) (sK (WC E fq15.n11) Q)) .normal [a,c,d,f,g,i,(.int .i64 (-1)),a,o,p,q,r,t,u,w,y,z,A,B,C,D,F,G] s):=by kernel_rfl
theorem fq15.n6_w:WC E fq15.n6 [a,c,d,f,g,i,j,l,o,p,q,r,t,u,w,y,z,A,B,C,D,F,G] s Q=(oM (evBin .neq l (.int .u64 0)) fun v1=>cM v1 ((sK (WC E fq15.n8) Q) .normal [a,c,d,f,g,i,j,l,v1,p,q,r,t,u,w,y,z,A,B,C,D,F,G] s) ((sK (WC E fq15.n8) Q) (.exit 0) [a,c,d,f,g,i,j,l,v1,p,q,r,t,u,w,y,z,A,B,C,D,F,G] s)):=by kernel_rfl
theorem fq15.n8_w:WC E fq15.n8 [a,c,d,f,g,i,j,l,o,p,q,r,t,u,w,y,z,A,B,C,D,F,G] s Q=(VC E F_fq33 [l] s fun v1 s2=>oM (ld s2.heap none f) fun v3=>VC E F_fq36 [a,v1] s2 fun v4 s5=>oM (evBin .add c (.int .i64 1)) fun v6=>VV E v3 [v4,v6] s5 fun v7 s8=>oM (vIaddr s8.heap 8 (some 8) g c) fun v9=>oM (vIaddr s8.heap 1 (some 8) v9 v1) fun v10=>oM (ld s8.heap none v10) fun v11=>oM (evBin .add v7 v11) fun v12=>(chkRead E.base [a,c,d,f,g,i,j,l,v1,v3,a,v1,v4,c,v6,v7,c,v1,v9,v10,v11,v12,v12] ⟨(some 9),(.load none (.r 3)),none⟩ [s2.heap,s5.heap]=true)∧(chkRead E.base [a,c,d,f,g,i,j,l,v1,v3,a,v1,v4,c,v6,v7,c,v1,v9,v10,v11,v12,v12] ⟨(some 20),(.load none (.r 19)),none⟩ [s2.heap,s5.heap,s8.heap]=true)∧oM (evBin .lss j (.int .i64 0)) fun v13=>gO v13 false s8 (fun k14=>k14 v12 s8) fun v15 s15=>gO v13 false s15 (fun k16=>k16 j s15) fun v17 s17=>gO v13 false s17 (fun k18=>oM (evBin .lss v15 v17) fun v19=>k18 v19 s17) fun v20 s20=>oM (vPick v13 (.bool true) v20) fun v21=>cM v21 (WC E fq15.n9 [a,c,d,f,g,i,j,l,v21,v20,v17,v1,v4,c,v6,v7,c,v1,v9,v10,v11,v12,v12] s20 (bK 1 (sK (WC E fq15.n10) Q))) ((bK 1 (sK (WC E fq15.n10) Q)) .normal [a,c,d,f,g,i,j,l,v21,v20,v17,v1,v4,c,v6,v7,c,v1,v9,v10,v11,v12,v12] s20)):=by kernel_rfl
theorem fq15.n9_w:WC E fq15.n9 [a,c,d,f,g,i,j,l,o,p,q,r,t,u,w,y,z,A,B,C,D,F,G] s Q=(Q .normal [a,c,d,f,g,i,G,l,o,p,q,r,t,u,w,y,z,A,B,C,D,F,G] s):=by kernel_rfl
theorem fq15.n10_w:WC E fq15.n10 [a,c,d,f,g,i,j,l,o,p,q,r,t,u,w,y,z,A,B,C,D,F,G] s Q=(VC E F_fq33 [l] s fun v1 s2=>VC E F_fq36 [l,v1] s2 fun v3 s4=>Q .normal [a,c,d,f,g,i,j,v3,v3,p,q,r,t,u,w,y,z,A,B,C,D,F,G] s4):=by kernel_rfl
theorem fq15.n11_w:WC E fq15.n11 [a,c,d,f,g,i,j,l,o,p,q,r,t,u,w,y,z,A,B,C,D,F,G] s Q=(oM (ld s.heap none d) fun v1=>oM (eMupd E.base s (.mk false [(.int .u64)]) v1 a j) fun s2=>Q .ret [a,v1,d,f,g,j,j,l,o,p,q,r,t,u,w,y,z,A,B,C,D,F,G] s2):=by kernel_rfl
def fq15.n5_J (a c d f g i:AV) (I:Nat→AV→AV→St→Prop) (m:Nat) (ρ:Regs) (s:St):Prop:=∃ j l o p q r t u w y z A B C D F G:AV,ρ=[a,c,d,f,g,i,j,l,o,p,q,r,t,u,w,y,z,A,B,C,D,F,G]∧I m j l s
theorem fq15.n5_go {I:Nat→AV→AV→St→Prop} {m m':Nat} (hm:m' < m) (h:I m' j l s):LK (fq15.n5_J a c d f g i I) m Q .normal [a,c,d,f,g,i,j,l,o,p,q,r,t,u,w,y,z,A,B,C,D,F,G] s:=⟨m',hm,_,_,_,_,_,_,_,_,_,_,_,_,_,_,_,_,_,rfl,h⟩
theorem fq15.n5_l (I:Nat→AV→AV→St→Prop) (m:Nat) (hm:m < E.k) (h0:I m j l s) (step:∀ (m:Nat) (j l o p q r t u w y z A B C D F G:AV) (s:St),I m j l s→WC E fq15.n6 [a,c,d,f,g,i,j,l,o,p,q,r,t,u,w,y,z,A,B,C,D,F,G] s (LK (fq15.n5_J a c d f g i I) m Q)):WC E fq15.n5 [a,c,d,f,g,i,j,l,o,p,q,r,t,u,w,y,z,A,B,C,D,F,G] s Q:=WC_loop (J:=fq15.n5_J a c d f g i I) m hm ⟨_,_,_,_,_,_,_,_,_,_,_,_,_,_,_,_,_,rfl,h0⟩ (fun m ρ s ⟨j,l,o,p,q,r,t,u,w,y,z,A,B,C,D,F,G,e,h⟩=>by rw [e]; exact step m j l o p q r t u w y z A B C D F G s h)
theorem fq36.enter {k:Nat} {b:Option Nat} {K:AV→St→Prop} (h:WC ⟨prog,k,some s.heap.length⟩ fq36.n0 [a,c,.undef] { s with leak:=false } (RK s.heap.length s.leak fq36.res K)):VC ⟨prog,k + 1,b⟩ F_fq36 [a,c] s K:=VC_ra (P:=prog) (F':=fq36.fn) rfl fq36.ra fq36.ul rfl h
theorem fq36.ret {n:Nat} {lk:Bool} {K:AV→St→Prop}:RK n lk fq36.res K .ret [a,c,d] s=(K (leave n lk [⟨2,none,none⟩] [d] s).1 (leave n lk [⟨2,none,none⟩] [d] s).2):=by kernel_rfl
theorem fq36.n0_w:WC E fq36.n0 [a,c,d] s Q=(oM (vConv .u64 c) fun v1=>oM (evBin .shl (.int .u64 1) v1) fun v2=>oM (evBin .andNot a v2) fun v3=>Q .ret [v3,v2,v3] s):=by kernel_rfl
theorem fq33.enter {k:Nat} {b:Option Nat} {K:AV→St→Prop} (h:WC ⟨prog,k,some s.heap.length⟩ fq33.n0 [a,.undef] { s with leak:=false } (RK s.heap.length s.leak fq33.res K)):VC ⟨prog,k + 1,b⟩ F_fq33 [a] s K:=VC_ra (P:=prog) (F':=fq33.fn) rfl fq33.ra fq33.ul rfl h
theorem fq33.ret {n:Nat} {lk:Bool} {K:AV→St→Prop}:RK n lk fq33.res K .ret [a,c] s=(K (leave n lk [⟨1,none,none⟩] [c] s).1 (leave n lk [⟨1,none,none⟩] [c] s).2):=by kernel_rfl
theorem fq33.n0_w:WC E fq33.n0 [a,c] s Q=(VC E F_fq0 [a] s fun v1 s2=>Q .ret [v1,v1] s2):=by kernel_rfl
theorem fq42.enter {k:Nat} {b:Option Nat} {K:AV→St→Prop} (h:WC ⟨prog,k,some s.heap.length⟩ fq42.n0 [a,c,d,.undef] { s with leak:=false } (RK s.heap.length s.leak fq42.res K)):VC ⟨prog,k + 1,b⟩ F_fq42 [a,c,d] s K:=VC_ra (P:=prog) (F':=fq42.fn) rfl fq42.ra fq42.ul rfl h
theorem fq42.ret {n:Nat} {lk:Bool} {K:AV→St→Prop}:RK n lk fq42.res K .ret [a,c,d,f] s=(K (leave n lk [⟨3,none,none⟩] [f] s).1 (leave n lk [⟨3,none,none⟩] [f] s).2):=by kernel_rfl
theorem fq42.n0_w:WC E fq42.n0 [a,c,d,f] s Q=(oM (evBin .leq c a) fun v1=>gO v1 true s (fun k2=>k2 a s) fun v3 s3=>gO v1 true s3 (fun k4=>k4 d s3) fun v5 s5=>gO v1 true s5 (fun k6=>oM (evBin .leq v3 v5) fun v7=>k6 v7 s5) fun v8 s8=>oM (vPick v1 v8 (.bool false)) fun v9=>Q .ret [v9,v1,v5,v9] s8):=by kernel_rfl
theorem fq52.enter {k:Nat} {b:Option Nat} {K:AV→St→Prop} (h:WC ⟨prog,k,some s.heap.length⟩ fq52.n0 [a,c,.undef] { s with leak:=false } (RK s.heap.length s.leak fq52.res K)):VC ⟨prog,k + 1,b⟩ F_fq52 [a,c] s K:=VC_ra (P:=prog) (F':=fq52.fn) rfl fq52.ra fq52.ul rfl h
theorem fq52.ret {n:Nat} {lk:Bool} {K:AV→St→Prop}:RK n lk fq52.res K .ret [a,c,d] s=(K (leave n lk [⟨2,none,none⟩] [d] s).1 (leave n lk [⟨2,none,none⟩] [d] s).2):=by kernel_rfl
theorem fq52.n0_w:WC E fq52.n0 [a,c,d] s Q=(VC E F_fq56 [a,c] s fun v1 s2=>oM (evBin .geq v1 (.int .i64 0)) fun v3=>Q .ret [v3,c,v3] s2):=by kernel_rfl
theorem fq7.enter {k:Nat} {b:Option Nat} {K:AV→St→Prop} (h:WC ⟨prog,k,some s.heap.length⟩ fq7.n0 [a,c,.undef,.undef,.undef,.undef,.undef,.undef,.undef,.undef] { s with leak:=false } (RK s.heap.length s.leak fq7.res K)):VC ⟨prog,k + 1,b⟩ F_fq7 [a,c] s K:=VC_ra (P:=prog) (F':=fq7.fn) rfl fq7.ra fq7.ul rfl h
theorem fq7.ret {n:Nat} {lk:Bool} {K:AV→St→Prop}:RK n lk fq7.res K .ret [a,c,d,f,g,i,j,l,o,p] s=(K (leave n lk [⟨2,none,none⟩] [d] s).1 (leave n lk [⟨2,none,none⟩] [d] s).2):=by kernel_rfl
theorem fq7.n0_w:WC E fq7.n0 [a,c,d,f,g,i,j,l,o,p] s Q=(oM (vLen false a) fun v1=>(sK (WC E (.block 0 fq7.n1)) (sK (WC E fq7.n8) Q)) .normal [a,c,(.bool false),(.int .u64 0),(.int .i64 0),v1,j,l,o,p] s):=by kernel_rfl
theorem fq7.n2_w:WC E fq7.n2 [a,c,d,f,g,i,j,l,o,p] s Q=(oM (evBin .lss g i) fun v1=>cM v1 ((sK (WC E fq7.n4) Q) .normal [a,c,d,f,g,i,v1,l,o,p] s) ((sK (WC E fq7.n4) Q) (.exit 0) [a,c,d,f,g,i,v1,l,o,p] s)):=by kernel_rfl
theorem fq7.n4_w:WC E fq7.n4 [a,c,d,f,g,i,j,l,o,p] s Q=(oM (vIaddr s.heap 1 none a g) fun v1=>oM (ld s.heap none v1) fun v2=>oM (ld s.heap none c) fun v3=>oM (evBin .sub v3 (.int .i64 1)) fun v4=>VC E F_fq42 [v2,(.int .i64 0),v4] s fun v5 s6=>oM (evUn .not v5) fun v7=>gO v7 false s6 (fun k8=>k8 f s6) fun v9 s9=>gO v7 false s9 (fun k10=>k10 v2 s9) fun v11 s11=>gO v7 false s11 (fun k12=>VC E F_fq34 [v9,v11] s11 fun v13 s14=>k12 v13 s14) fun v15 s15=>oM (vPick v7 (.bool true) v15) fun v16=>cM v16 (WC E fq7.n5 [a,c,d,f,g,i,v2,v16,v15,v11] s15 (sK (WC E fq7.n6) (bK 1 (sK (WC E fq7.n7) Q)))) ((sK (WC E fq7.n6) (bK 1 (sK (WC E fq7.n7) Q))) .normal [a,c,d,f,g,i,v2,v16,v15,v11] s15)):=by kernel_rfl
theorem fq7.n5_w:WC E fq7.n5 [a,c,d,f,g,i,j,l,o,p] s Q=(Q .ret [a,c,(.bool true),f,g,i,j,l,o,p] s):=by kernel_rfl
theorem fq7.n6_w:WC E fq7.n6 [a,c,d,f,g,i,j,l,o,p] s Q=(VC E F_fq35 [f,j] s fun v1 s2=>Q .normal [a,c,d,v1,g,i,v1,l,o,p] s2):=by kernel_rfl
theorem fq7.n7_w:WC E fq7.n7 [a,c,d,f,g,i,j,l,o,p] s Q=(oM (evBin .add g (.int .i64 1)) fun v1=>Q .normal [a,c,d,f,v1,i,v1,l,o,p] s):=by kernel_rfl
theorem fq7.n8_w:WC E fq7.n8 [a,c,d,f,g,i,j,l,o,p] s Q=(oM (vLen false a) fun v1=>oM (ld s.heap none c) fun v2=>oM (evBin .neq v1 v2) fun v3=>Q .ret [v3,v2,v3,f,g,i,j,l,o,p] s):=by kernel_rfl
def fq7.n1_J (a c i:AV) (I:Nat→AV→AV→St→Prop) (m:Nat) (ρ:Regs) (s:St):Prop:=∃ d f g j l o p:AV,ρ=[a,c,d,f,g,i,j,l,o,p]∧I m f g s
theorem fq7.n1_go {I:Nat→AV→AV→St→Prop} {m m':Nat} (hm:m' < m) (h:I m' f g s):LK (fq7.n1_J a c i I) m Q .normal [a,c,d,f,g,i,j,l,o,p] s:=⟨m',hm,_,_,_,_,_,_,_,rfl,h⟩
theorem fq7.n1_l (I:Nat→AV→AV→St→Prop) (m:Nat) (hm:m < E.k) (h0:I m f g s) (step:∀ (m:Nat) (d f g j l o p:AV) (s:St),I m f g s→WC E fq7.n2 [a,c,d,f,g,i,j,l,o,p] s (LK (fq7.n1_J a c i I) m Q)):WC E fq7.n1 [a,c,d,f,g,i,j,l,o,p] s Q:=WC_loop (J:=fq7.n1_J a c i I) m hm ⟨_,_,_,_,_,_,_,rfl,h0⟩ (fun m ρ s ⟨d,f,g,j,l,o,p,e,h⟩=>by rw [e]; exact step m d f g j l o p s h)
theorem fq34.enter {k:Nat} {b:Option Nat} {K:AV→St→Prop} (h:WC ⟨prog,k,some s.heap.length⟩ fq34.n0 [a,c,.undef] { s with leak:=false } (RK s.heap.length s.leak fq34.res K)):VC ⟨prog,k + 1,b⟩ F_fq34 [a,c] s K:=VC_ra (P:=prog) (F':=fq34.fn) rfl fq34.ra fq34.ul rfl h
theorem fq34.ret {n:Nat} {lk:Bool} {K:AV→St→Prop}:RK n lk fq34.res K .ret [a,c,d] s=(K (leave n lk [⟨2,none,none⟩] [d] s).1 (leave n lk [⟨2,none,none⟩] [d] s).2):=by kernel_rfl
theorem fq34.n0_w:WC E fq34.n0 [a,c,d] s Q=(oM (vConv .u64 c) fun v1=>oM (evBin .shr a v1) fun v2=>oM (evBin .and v2 (.int .u64 1)) fun v3=>oM (evBin .eql v3 (.int .u64 1)) fun v4=>Q .ret [v4,v1,v4] s):=by kernel_rfl
theorem fq35.enter {k:Nat} {b:Option Nat} {K:AV→St→Prop} (h:WC ⟨prog,k,some s.heap.length⟩ fq35.n0 [a,c,.undef] { s with leak:=false } (RK s.heap.length s.leak fq35.res K)):VC ⟨prog,k + 1,b⟩ F_fq35 [a,c] s K:=VC_ra (P:=prog) (F':=fq35.fn) rfl fq35.ra fq35.ul rfl h
theorem fq35.ret {n:Nat} {lk:Bool} {K:AV→St→Prop}:RK n lk fq35.res K .ret [a,c,d] s=(K (leave n lk [⟨2,none,none⟩] [d] s).1 (leave n lk [⟨2,none,none⟩] [d] s).2):=by kernel_rfl
theorem fq35.n0_w:WC E fq35.n0 [a,c,d] s Q=(oM (vConv .u64 c) fun v1=>oM (evBin .shl (.int .u64 1) v1) fun v2=>oM (evBin .or a v2) fun v3=>Q .ret [v3,v2,v3] s):=by kernel_rfl
theorem fq28.enter {k:Nat} {b:Option Nat} {K:AV→St→Prop} (h:WC ⟨prog,k,some s.heap.length⟩ fq28.n0 [a,c,.undef,.undef,.undef,.undef,.undef] { s with leak:=false } (RK s.heap.length s.leak fq28.res K)):VC ⟨prog,k + 1,b⟩ F_fq28 [a,c] s K:=VC_ra (P:=prog) (F':=fq28.fn) rfl fq28.ra fq28.ul rfl h
theorem fq28.ret {n:Nat} {lk:Bool} {K:AV→St→Prop}:RK n lk fq28.res K .ret [a,c,d,f,g,i,j] s=(K (leave n lk [⟨2,none,none⟩,⟨3,none,none⟩] [d,f] s).1 (leave n lk [⟨2,none,none⟩,⟨3,none,none⟩] [d,f] s).2):=by kernel_rfl
theorem fq28.n0_w:WC E fq28.n0 [a,c,d,f,g,i,j] s Q=(oM (eBox s 6 a) fun v1=>oM (ld (v1.2).heap (some 6) v1.1) fun v3=>VC E F_fq23 [v3] (v1.2) fun v4 s5=>oM (vExt 0 v4) fun v6=>oM (vExt 1 v4) fun v7=>oM (eStore E.base ((push s5 (.cells [.nilptr]))) 1 (.ptr s5.heap.length 0 1) v6) fun s8=>oM (evUn .not v7) fun v9=>gO v9 false s8 (fun k10=>k10 c s8) fun v11 s11=>gO v9 false s11 (fun k12=>oM (vLen false v11) fun v13=>k12 v13 s11) fun v14 s14=>gO v9 false s14 (fun k15=>oM (vOff 3 v1.1) fun v16=>k15 v16 s14) fun v17 s17=>gO v9 false s17 (fun k18=>oM (ld s17.heap none v17) fun v19=>k18 v19 s17) fun v20 s20=>gO v9 false s20 (fun k21=>oM (vLen false v20) fun v22=>k21 v22 s20) fun v23 s23=>gO v9 false s23 (fun k24=>oM (evBin .neq v14 v23) fun v25=>k24 v25 s23) fun v26 s26=>oM (vPick v9 (.bool true) v26) fun v27=>gO v27 false s26 (fun k28=>k28 c s26) fun v29 s29=>gO v27 false s29 (fun k30=>k30 (.fn F_fq29 [(.ptr s5.heap.length 0 1)]) s29) fun v31 s31=>gO v27 false s31 (fun k32=>VC E F_fq51 [v29,v31] s31 fun v33 s34=>k32 v33 s34) fun v35 s35=>oM (vPick v27 (.bool true) v35) fun v36=>cM v36 (WC E fq28.n1 [v36,v35,.nilptr,(.bool false),v31,v14,(.ptr s5.heap.length 0 1)] s35 (sK (WC E fq28.n2) Q)) ((sK (WC E fq28.n2) Q) .normal [v36,v35,.nilptr,(.bool false),v31,v14,(.ptr s5.heap.length 0 1)] s35)):=by kernel_rfl
theorem fq28.n1_w:WC E fq28.n1 [a,c,d,f,g,i,j] s Q=(Q .ret [a,c,.nilptr,(.bool false),g,i,j] s):=by kernel_rfl
theorem fq28.n2_w:WC E fq28.n2 [a,c,d,f,g,i,j] s Q=(oM (ld s.heap none j) fun v1=>Q .ret [v1,c,v1,(.bool true),g,i,j] s):=by kernel_rfl
theorem fq25.enter {k:Nat} {b:Option Nat} {K:AV→St→Prop} (h:WC ⟨prog,k,some s.heap.length⟩ fq25.n0 [a,c,d,f,.undef,.undef,.undef,.undef,.undef,.undef,.undef,.undef,.undef,.undef,.undef,.undef] { s with leak:=false } (RK s.heap.length s.leak fq25.res K)):VC ⟨prog,k + 1,b⟩ F_fq25 [a,c,d,f] s K:=VC_ra (P:=prog) (F':=fq25.fn) rfl fq25.ra fq25.ul rfl h
theorem fq25.ret {n:Nat} {lk:Bool} {K:AV→St→Prop}:RK n lk fq25.res K .ret [a,c,d,f,g,i,j,l,o,p,q,r,t,u,w,y] s=(K (leave n lk [⟨4,none,none⟩] [g] s).1 (leave n lk [⟨4,none,none⟩] [g] s).2):=by kernel_rfl
theorem fq25.n0_w:WC E fq25.n0 [a,c,d,f,g,i,j,l,o,p,q,r,t,u,w,y] s Q=(oM (vChk a) fun v1=>oM (vOff 0 v1) fun v2=>oM (vOff 4 v2) fun v3=>oM (ld s.heap none v3) fun v4=>oM (vIaddr s.heap 1 none v4 c) fun v5=>oM (ld s.heap none v5) fun v6=>oM (vChk a) fun v7=>oM (vOff 7 v7) fun v8=>oM (ld s.heap none v8) fun v9=>oM (vIaddr s.heap 1 none v9 f) fun v10=>oM (ld s.heap none v10) fun v11=>oM (evBin .mul v6 v11) fun v12=>oM (evBin .andNot f d) fun v13=>oM (vConv .u64 v13) fun v14=>(sK (WC E (.block 0 fq25.n1)) (sK (WC E fq25.n5) Q)) .normal [a,v14,d,f,(.int .i64 0),v12,v14,v11,o,p,q,r,t,u,w,y] s):=by kernel_rfl
theorem fq25.n2_w:WC E fq25.n2 [a,c,d,f,g,i,j,l,o,p,q,r,t,u,w,y] s Q=(oM (evBin .neq j (.int .u64 0)) fun v1=>cM v1 ((sK (WC E fq25.n4) Q) .normal [a,v1,d,f,g,i,j,l,o,p,q,r,t,u,w,y] s) ((sK (WC E fq25.n4) Q) (.exit 0) [a,v1,d,f,g,i,j,l,o,p,q,r,t,u,w,y] s)):=by kernel_rfl
theorem fq25.n4_w:WC E fq25.n4 [a,c,d,f,g,i,j,l,o,p,q,r,t,u,w,y] s Q=(oM (vChk a) fun v1=>oM (vOff 0 v1) fun v2=>oM (vOff 5 v2) fun v3=>oM (ld s.heap none v3) fun v4=>VC E F_fq30 [j] s fun v5 s6=>oM (vIaddr s6.heap 3 none v4 v5) fun v7=>oM (vOff 2 v7) fun v8=>oM (ld s6.heap none v8) fun v9=>oM (evBin .add i v9) fun v10=>(chkRead E.base [a,i,a,v1,g,v10,j,v2,v3,v4,j,v5,v7,v8,v9,v10] ⟨(some 9),(.load none (.r 8)),none⟩ [s.heap,s6.heap]=true)∧VC E F_fq30 [j] s6 fun v11 s12=>VC E F_fq32 [j,v11] s12 fun v13 s14=>Q .normal [a,v13,a,v1,g,v10,v13,v2,v3,v4,j,v5,v7,v8,v9,v10] s14):=by kernel_rfl
theorem fq25.n5_w:WC E fq25.n5 [a,c,d,f,g,i,j,l,o,p,q,r,t,u,w,y] s Q=(Q .ret [a,c,d,f,i,i,j,l,o,p,q,r,t,u,w,y] s):=by kernel_rfl
def fq25.n1_J (a g:AV) (I:Nat→AV→AV→St→Prop) (m:Nat) (ρ:Regs) (s:St):Prop:=∃ c d f i j l o p q r t u w y:AV,ρ=[a,c,d,f,g,i,j,l,o,p,q,r,t,u,w,y]∧I m i j s
theorem fq25.n1_go {I:Nat→AV→AV→St→Prop} {m m':Nat} (hm:m' < m) (h:I m' i j s):LK (fq25.n1_J a g I) m Q .normal [a,c,d,f,g,i,j,l,o,p,q,r,t,u,w,y] s:=⟨m',hm,_,_,_,_,_,_,_,_,_,_,_,_,_,_,rfl,h⟩
theorem fq25.n1_l (I:Nat→AV→AV→St→Prop) (m:Nat) (hm:m < E.k) (h0:I m i j s) (step:∀ (m:Nat) (c d f i j l o p q r t u w y:AV) (s:St),I m i j s→WC E fq25.n2 [a,c,d,f,g,i,j,l,o,p,q,r,t,u,w,y] s (LK (fq25.n1_J a g I) m Q)):WC E fq25.n1 [a,c,d,f,g,i,j,l,o,p,q,r,t,u,w,y] s Q:=WC_loop (J:=fq25.n1_J a g I) m hm ⟨_,_,_,_,_,_,_,_,_,_,_,_,_,_,rfl,h0⟩ (fun m ρ s ⟨c,d,f,i,j,l,o,p,q,r,t,u,w,y,e,h⟩=>by rw [e]; exact step m c d f i j l o p q r t u w y s h)
theorem fq18.enter {k:Nat} {b:Option Nat} {K:AV→St→Prop} (h:WC ⟨prog,k,some s.heap.length⟩ fq18.n0 [a,c,.undef] { s with leak:=false } (RK s.heap.length s.leak fq18.res K)):VC ⟨prog,k + 1,b⟩ F_fq18 [a,c] s K:=VC_ra (P:=prog) (F':=fq18.fn) rfl fq18.ra fq18.ul rfl h
theorem fq18.ret {n:Nat} {lk:Bool} {K:AV→St→Prop}:RK n lk fq18.res K .ret [a,c,d] s=(K (leave n lk [⟨2,none,none⟩] [d] s).1 (leave n lk [⟨2,none,none⟩] [d] s).2):=by kernel_rfl
theorem fq18.n0_w:WC E fq18.n0 [a,c,d] s Q=(VC E F_fq3 [a] s fun v1 s2=>oM (evUn .not v1) fun v3=>cM v3 (WC E fq18.n1 [v3,c,(.int .i64 0)] s2 (bK 0 (sK (WC E fq18.n4) Q))) (WC E fq18.n2 [v3,c,(.int .i64 0)] s2 (bK 0 (sK (WC E fq18.n4) Q)))):=by kernel_rfl
theorem fq18.n1_w:WC E fq18.n1 [a,c,d] s Q=(Q .ret [a,c,(.int .i64 2)] s):=by kernel_rfl
theorem fq18.n2_w:WC E fq18.n2 [a,c,d] s Q=(VC E F_fq42 [c,(.int .i64 1),(.int .i64 8)] s fun v1 s2=>oM (evUn .not v1) fun v3=>cM v3 (WC E fq18.n3 [v3,c,d] s2 Q) (Q .normal [v3,c,d] s2)):=by kernel_rfl
theorem fq18.n3_w:WC E fq18.n3 [a,c,d] s Q=(Q .ret [a,c,(.int .i64 4)] s):=by kernel_rfl
theorem fq18.n4_w:WC E fq18.n4 [a,c,d] s Q=(Q .ret [a,c,(.int .i64 0)] s):=by kernel_rfl
theorem fq17.enter {k:Nat} {b:Option Nat} {K:AV→St→Prop} (h:WC ⟨prog,k,some s.heap.length⟩ fq17.n0 [a,c,d,.undef,.undef,.undef,.undef] { s with leak:=false } (RK s.heap.length s.leak fq17.res K)):VC ⟨prog,k + 1,b⟩ F_fq17 [a,c,d] s K:=VC_ra (P:=prog) (F':=fq17.fn) rfl fq17.ra fq17.ul rfl h
theorem fq17.ret {n:Nat} {lk:Bool} {K:AV→St→Prop}:RK n lk fq17.res K .ret [a,c,d,f,g,i,j] s=(K (leave n lk [⟨3,none,none⟩] [f] s).1 (leave n lk [⟨3,none,none⟩] [f] s).2):=by kernel_rfl
theorem fq17.n0_w:WC E fq17.n0 [a,c,d,f,g,i,j] s Q=(oM (ld s.heap none d) fun v1=>oM (vIaddr s.heap 3 none v1 a) fun v2=>oM (vOff 2 v2) fun v3=>oM (ld s.heap none v3) fun v4=>oM (ld s.heap none d) fun v5=>oM (vIaddr s.heap 3 none v5 c) fun v6=>oM (vOff 2 v6) fun v7=>oM (ld s.heap none v7) fun v8=>oM (evBin .lss v4 v8) fun v9=>gO v9 false s (fun k10=>oM (ld s.heap none d) fun v11=>k10 v11 s) fun v12 s12=>gO v9 false s12 (fun k13=>k13 a s12) fun v14 s14=>gO v9 false s14 (fun k15=>oM (vIaddr s14.heap 3 none v12 v14) fun v16=>k15 v16 s14) fun v17 s17=>gO v9 false s17 (fun k18=>oM (vOff 2 v17) fun v19=>k18 v19 s17) fun v20 s20=>gO v9 false s20 (fun k21=>oM (ld s20.heap none v20) fun v22=>k21 v22 s20) fun v23 s23=>gO v9 false s23 (fun k24=>oM (ld s23.heap none d) fun v25=>k24 v25 s23) fun v26 s26=>gO v9 false s26 (fun k27=>k27 c s26) fun v28 s28=>gO v9 false s28 (fun k29=>oM (vIaddr s28.heap 3 none v26 v28) fun v30=>k29 v30 s28) fun v31 s31=>gO v9 false s31 (fun k32=>oM (vOff 2 v31) fun v33=>k32 v33 s31) fun v34 s34=>gO v9 false s34 (fun k35=>oM (ld s34.heap none v34) fun v36=>k35 v36 s34) fun v37 s37=>gO v9 false s37 (fun k38=>oM (evBin .eql v23 v37) fun v39=>k38 v39 s37) fun v40 s40=>gO v9 false s40 (fun k41=>k41 v40 s40) fun v42 s42=>gO v42 true s42 (fun k43=>k43 a s42) fun v44 s44=>gO v42 true s44 (fun k45=>k45 c s44) fun v46 s46=>gO v42 true s46 (fun k47=>oM (evBin .lss v44 v46) fun v48=>k47 v48 s46) fun v49 s49=>gO v9 false s49 (fun k50=>oM (vPick v42 v49 (.bool false)) fun v51=>k50 v51 s49) fun v52 s52=>oM (vPick v9 (.bool true) v52) fun v53=>Q .ret [v53,v46,v42,v53,v9,v23,v28] s52):=by kernel_rfl
theorem fq40.enter {k:Nat} {b:Option Nat} {K:AV→St→Prop} (h:WC ⟨prog,k,some s.heap.length⟩ fq40.n0 [a,.undef,.undef,.undef,.undef,.undef,.undef,.undef,.undef,.undef,.undef,.undef,.undef,.undef,.undef,.undef] { s with leak:=false } (RK s.heap.length s.leak fq40.res K)):VC ⟨prog,k + 1,b⟩ F_fq40 [a] s K:=VC_ra (P:=prog) (F':=fq40.fn) rfl fq40.ra fq40.ul rfl h
theorem fq40.ret {n:Nat} {lk:Bool} {K:AV→St→Prop}:RK n lk fq40.res K .ret [a,c,d,f,g,i,j,l,o,p,q,r,t,u,w,y] s=(K (leave n lk [⟨1,none,none⟩] [c] s).1 (leave n lk [⟨1,none,none⟩] [c] s).2):=by kernel_rfl
theorem fq40.n0_w:WC E fq40.n0 [a,c,d,f,g,i,j,l,o,p,q,r,t,u,w,y] s Q=(oM (eStore E.base ((push ((push s (.map (.mk false [(.int .i64)]) 0 []))) (.cells [.nilmap]))) 1 (.ptr ((push s (.map (.mk false [(.int .i64)]) 0 []))).heap.length 0 1) (.map s.heap.length)) fun s1=>oM (vLen false a) fun v2=>(sK (WC E (.block 0 fq40.n1)) (sK (WC E fq40.n5) Q)) .normal [a,.nilfn,(.int .i64 0),v2,(.ptr ((push s (.map (.mk false [(.int .i64)]) 0 []))).heap.length 0 1),i,j,l,o,p,q,r,t,u,w,y] s1):=by kernel_rfl
theorem fq40.n2_w:WC E fq40.n2 [a,c,d,f,g,i,j,l,o,p,q,r,t,u,w,y] s Q=(oM (evBin .lss d f) fun v1=>cM v1 ((sK (WC E fq40.n4) Q) .normal [a,c,d,f,g,v1,j,l,o,p,q,r,t,u,w,y] s) ((sK (WC E fq40.n4) Q) (.exit 0) [a,c,d,f,g,v1,j,l,o,p,q,r,t,u,w,y] s)):=by kernel_rfl
theorem fq40.n4_w:WC E fq40.n4 [a,c,d,f,g,i,j,l,o,p,q,r,t,u,w,y] s Q=(oM (vIaddr s.heap 3 none a d) fun v1=>oM (ld s.heap (some 3) v1) fun v2=>oM (eStore E.base ((push s (.cells [(.int .i64 0),(.int .i64 0),(.int .i64 0)]))) 3 (.ptr s.heap.length 0 3) v2) fun s3=>oM (ld s3.heap none g) fun v4=>oM (vOff 1 (.ptr s.heap.length 0 3)) fun v5=>oM (ld s3.heap none v5) fun v6=>oM (ld s3.heap none g) fun v7=>oM (vOff 1 (.ptr s.heap.length 0 3)) fun v8=>oM (ld s3.heap none v8) fun v9=>oM (vLook s3.heap (.mk false [(.int .i64)]) (.slice true 0 []) false v7 v9) fun v10=>oM (eLit s3 1 [(.int .i64 0)] [(0,1,d)] false false) fun v11=>oM (eApp E.base (v11.2) 1 8 v10 v11.1) fun v13=>oM (eMupd E.base (v13.2) (.mk false [(.int .i64)]) v4 v6 v13.1) fun s15=>(chkRead E.base [a,c,d,f,g,v4,(.ptr s.heap.length 0 3),v5,v6,v7,v8,v9,v10,d,v11.1,v13.1] ⟨(some 5),(.load none (.r 4)),none⟩ [s3.heap,(v13.2).heap]=true)∧(chkRead E.base [a,c,d,f,g,v4,(.ptr s.heap.length 0 3),v5,v6,v7,v8,v9,v10,d,v11.1,v13.1] ⟨(some 8),(.load none (.r 7)),none⟩ [s3.heap,(v13.2).heap]=true)∧oM (evBin .add d (.int .i64 1)) fun v16=>Q .normal [a,c,v16,f,g,v16,(.ptr s.heap.length 0 3),v5,v6,v7,v8,v9,v10,d,v11.1,v13.1] s15):=by kernel_rfl
theorem fq40.n5_w:WC E fq40.n5 [a,c,d,f,g,i,j,l,o,p,q,r,t,u,w,y] s Q=(Q .ret [(.fn F_fq41 [g]),(.fn F_fq41 [g]),d,f,g,i,j,l,o,p,q,r,t,u,w,y] s):=by kernel_rfl
theorem fq21.enter {k:Nat} {b:Option Nat} {K:AV→St→Prop} (h:WC ⟨prog,k,some s.heap.length⟩ fq21.n0 [a,c,.undef,.undef,.undef,.undef,.undef] { s with leak:=false } (RK s.heap.length s.leak fq21.res K)):VC ⟨prog,k + 1,b⟩ F_fq21 [a,c] s K:=VC_ra (P:=prog) (F':=fq21.fn) rfl fq21.ra fq21.ul rfl h
theorem fq21.ret {n:Nat} {lk:Bool} {K:AV→St→Prop}:RK n lk fq21.res K .ret [a,c,d,f,g,i,j] s=(K (leave n lk [] [] s).1 (leave n lk [] [] s).2):=by kernel_rfl
theorem fq21.n0_w:WC E fq21.n0 [a,c,d,f,g,i,j] s Q=(oM (vChk a) fun v1=>oM (vOff 0 v1) fun v2=>oM (ld s.heap none v2) fun v3=>oM (eLit s 1 [(.int .i64 0)] [(0,1,c)] false true) fun v4=>oM (eApp E.base (v4.2) 1 8 v3 v4.1) fun v6=>oM (vChk a) fun v8=>oM (vOff 0 v8) fun v9=>oM (eStore E.base (v6.2) 1 v9 v6.1) fun s10=>oM (vChk a) fun v11=>oM (vOff 0 v11) fun v12=>oM (ld s10.heap none v12) fun v13=>oM (vLen false v13) fun v14=>oM (evBin .sub v14 (.int .i64 1)) fun v15=>(sK (WC E (.block 0 fq21.n1)) Q) .normal [a,v15,v15,v9,g,i,j] s10):=by kernel_rfl
theorem fq21.n2_w:WC E fq21.n2 [a,c,d,f,g,i,j] s Q=(oM (evBin .gtr d (.int .i64 0)) fun v1=>cM v1 ((sK (WC E fq21.n4) Q) .normal [a,v1,d,f,g,i,j] s) ((sK (WC E fq21.n4) Q) (.exit 0) [a,v1,d,f,g,i,j] s)):=by kernel_rfl
theorem fq21.n4_w:WC E fq21.n4 [a,c,d,f,g,i,j] s Q=(oM (evBin .sub d (.int .i64 1)) fun v1=>oM (evBin .quo v1 (.int .i64 2)) fun v2=>oM (vChk a) fun v3=>oM (vOff 1 v3) fun v4=>oM (ld s.heap none v4) fun v5=>oM (vChk a) fun v6=>oM (vOff 0 v6) fun v7=>oM (ld s.heap none v7) fun v8=>oM (vIaddr s.heap 1 none v8 d) fun v9=>oM (ld s.heap none v9) fun v10=>oM (vChk a) fun v11=>oM (vOff 0 v11) fun v12=>oM (ld s.heap none v12) fun v13=>oM (vIaddr s.heap 1 none v13 v2) fun v14=>oM (ld s.heap none v14) fun v15=>VV E v5 [v10,v15] s fun v16 s17=>oM (evUn .not v16) fun v18=>cM v18 ((sK (WC E fq21.n5) (bK 1 Q)) .ret [a,v2,d,v18,v10,v15,j] s17) ((sK (WC E fq21.n5) (bK 1 Q)) .normal [a,v2,d,v18,v10,v15,j] s17)):=by kernel_rfl
theorem fq21.n5_w:WC E fq21.n5 [a,c,d,f,g,i,j] s Q=(oM (vChk a) fun v1=>oM (vOff 0 v1) fun v2=>oM (ld s.heap none v2) fun v3=>oM (vChk a) fun v4=>oM (vOff 0 v4) fun v5=>oM (ld s.heap none v5) fun v6=>oM (vChk a) fun v7=>oM (vOff 0 v7) fun v8=>oM (ld s.heap none v8) fun v9=>oM (vIaddr s.heap 1 none v9 c) fun v10=>oM (ld s.heap none v10) fun v11=>oM (vChk a) fun v12=>oM (vOff 0 v12) fun v13=>oM (ld s.heap none v13) fun v14=>oM (vIaddr s.heap 1 none v14 d) fun v15=>oM (ld s.heap none v15) fun v16=>oM (vIaddr s.heap 1 none v3 d) fun v17=>oM (eStore E.base s 1 v17 v11) fun s18=>oM (vIaddr s18.heap 1 none v6 c) fun v19=>oM (eStore E.base s18 1 v19 v16) fun s20=>Q .normal [a,c,c,v19,v6,v11,v16] s20):=by kernel_rfl
theorem fq22.enter {k:Nat} {b:Option Nat} {K:AV→St→Prop} (h:WC ⟨prog,k,some s.heap.length⟩ fq22.n0 [a,.undef,.undef,.undef,.undef,.undef,.undef,.undef,.undef,.undef,.undef,.undef,.undef,.undef] { s with leak:=false } (RK s.heap.length s.leak fq22.res K)):VC ⟨prog,k + 1,b⟩ F_fq22 [a] s K:=VC_ra (P:=prog) (F':=fq22.fn) rfl fq22.ra fq22.ul rfl h
theorem fq22.ret {n:Nat} {lk:Bool} {K:AV→St→Prop}:RK n lk fq22.res K .ret [a,c,d,f,g,i,j,l,o,p,q,r,t,u] s=(K (leave n lk [⟨1,none,none⟩] [c] s).1 (leave n lk [⟨1,none,none⟩] [c] s).2):=by kernel_rfl
theorem fq22.n0_w:WC E fq22.n0 [a,c,d,f,g,i,j,l,o,p,q,r,t,u] s Q=(oM (vChk a) fun v1=>oM (vOff 0 v1) fun v2=>oM (ld s.heap none v2) fun v3=>oM (vIaddr s.heap 1 none v3 (.int .i64 0)) fun v4=>oM (ld s.heap none v4) fun v5=>oM (vChk a) fun v6=>oM (vOff 0 v6) fun v7=>oM (ld s.heap none v7) fun v8=>oM (vLen false v8) fun v9=>oM (evBin .sub v9 (.int .i64 1)) fun v10=>oM (vChk a) fun v11=>oM (vOff 0 v11) fun v12=>oM (ld s.heap none v12) fun v13=>oM (vChk a) fun v14=>oM (vOff 0 v14) fun v15=>oM (ld s.heap none v15) fun v16=>oM (vIaddr s.heap 1 none v16 v10) fun v17=>oM (ld s.heap none v17) fun v18=>oM (vIaddr s.heap 1 none v13 (.int .i64 0)) fun v19=>oM (eStore E.base s 1 v19 v18) fun s20=>oM (vChk a) fun v21=>oM (vOff 0 v21) fun v22=>oM (ld s20.heap none v22) fun v23=>oM (vSlc s20.heap 1 v23 none (some v10)) fun v24=>oM (vChk a) fun v25=>oM (vOff 0 v25) fun v26=>oM (eStore E.base s20 1 v26 v24) fun s27=>(sK (WC E (.block 0 fq22.n1)) Q) .normal [a,(.int .i64 0),(.int .i64 0),f,g,v5,v10,v24,v26,p,q,r,t,u] s27):=by kernel_rfl
theorem fq22.n2_w:WC E fq22.n2 [a,c,d,f,g,i,j,l,o,p,q,r,t,u] s Q=(oM (evBin .mul (.int .i64 2) d) fun v1=>oM (evBin .add v1 (.int .i64 1)) fun v2=>oM (evBin .mul (.int .i64 2) d) fun v3=>oM (evBin .add v3 (.int .i64 2)) fun v4=>oM (fillA [(.int .i64 0),(.int .i64 0)] [(0,1,v2),(1,1,v4)]) fun v5=>(sK (WC E (.block 2 fq22.n3)) (sK (WC E fq22.n9) (bK 1 Q))) .normal [a,c,d,d,(.int .i64 0),i,j,(.agg v5),v4,p,q,r,t,u] s):=by kernel_rfl
theorem fq22.n4_w:WC E fq22.n4 [a,c,d,f,g,i,j,l,o,p,q,r,t,u] s Q=(oM (evBin .lss g (.int .i64 2)) fun v1=>cM v1 ((sK (WC E fq22.n6) Q) .normal [a,c,d,f,g,i,j,l,v1,p,q,r,t,u] s) ((sK (WC E fq22.n6) Q) (.exit 2) [a,c,d,f,g,i,j,l,v1,p,q,r,t,u] s)):=by kernel_rfl
theorem fq22.n6_w:WC E fq22.n6 [a,c,d,f,g,i,j,l,o,p,q,r,t,u] s Q=(oM (vAidx 1 2 none l g) fun v1=>oM (evBin .lss v1 j) fun v2=>gO v2 true s (fun k3=>k3 a s) fun v4 s4=>gO v2 true s4 (fun k5=>oM (vChk v4) fun v6=>k5 v6 s4) fun v7 s7=>gO v2 true s7 (fun k8=>oM (vOff 1 v7) fun v9=>k8 v9 s7) fun v10 s10=>gO v2 true s10 (fun k11=>oM (ld s10.heap none v10) fun v12=>k11 v12 s10) fun v13 s13=>gO v2 true s13 (fun k14=>k14 a s13) fun v15 s15=>gO v2 true s15 (fun k16=>oM (vChk v15) fun v17=>k16 v17 s15) fun v18 s18=>gO v2 true s18 (fun k19=>oM (vOff 0 v18) fun v20=>k19 v20 s18) fun v21 s21=>gO v2 true s21 (fun k22=>oM (ld s21.heap none v21) fun v23=>k22 v23 s21) fun v24 s24=>gO v2 true s24 (fun k25=>k25 v1 s24) fun v26 s26=>gO v2 true s26 (fun k27=>oM (vIaddr s26.heap 1 none v24 v26) fun v28=>k27 v28 s26) fun v29 s29=>gO v2 true s29 (fun k30=>oM (ld s29.heap none v29) fun v31=>k30 v31 s29) fun v32 s32=>gO v2 true s32 (fun k33=>k33 a s32) fun v34 s34=>gO v2 true s34 (fun k35=>oM (vChk v34) fun v36=>k35 v36 s34) fun v37 s37=>gO v2 true s37 (fun k38=>oM (vOff 0 v37) fun v39=>k38 v39 s37) fun v40 s40=>gO v2 true s40 (fun k41=>oM (ld s40.heap none v40) fun v42=>k41 v42 s40) fun v43 s43=>gO v2 true s43 (fun k44=>k44 f s43) fun v45 s45=>gO v2 true s45 (fun k46=>oM (vIaddr s45.heap 1 none v43 v45) fun v47=>k46 v47 s45) fun v48 s48=>gO v2 true s48 (fun k49=>oM (ld s48.heap none v48) fun v50=>k49 v50 s48) fun v51 s51=>gO v2 true s51 (fun k52=>VV E v13 [v32,v51] s51 fun v53 s54=>k52 v53 s54) fun v55 s55=>oM (vPick v2 v55 (.bool false)) fun v56=>cM v56 (WC E fq22.n7 [a,c,d,f,g,i,j,l,v1,v56,v55,v32,v51,v45] s55 (bK 3 (sK (WC E fq22.n8) Q))) ((bK 3 (sK (WC E fq22.n8) Q)) .normal [a,c,d,f,g,i,j,l,v1,v56,v55,v32,v51,v45] s55)):=by kernel_rfl
theorem fq22.n8_w:WC E fq22.n8 [a,c,d,f,g,i,j,l,o,p,q,r,t,u] s Q=(oM (evBin .add g (.int .i64 1)) fun v1=>Q .normal [a,c,d,f,v1,i,j,l,v1,p,q,r,t,u] s):=by kernel_rfl
theorem fq22.n9_w:WC E fq22.n9 [a,c,d,f,g,i,j,l,o,p,q,r,t,u] s Q=(oM (evBin .eql f d) fun v1=>cM v1 (WC E fq22.n10 [a,c,d,f,g,i,j,v1,o,p,q,r,t,u] s (sK (WC E fq22.n11) Q)) ((sK (WC E fq22.n11) Q) .normal [a,c,d,f,g,i,j,v1,o,p,q,r,t,u] s)):=by kernel_rfl
theorem fq22.n10_w:WC E fq22.n10 [a,c,d,f,g,i,j,l,o,p,q,r,t,u] s Q=(Q .ret [a,i,d,f,g,i,j,l,o,p,q,r,t,u] s):=by kernel_rfl
theorem fq31.enter {k:Nat} {b:Option Nat} {K:AV→St→Prop} (h:WC ⟨prog,k,some s.heap.length⟩ fq31.n0 [a,c,.undef] { s with leak:=false } (RK s.heap.length s.leak fq31.res K)):VC ⟨prog,k + 1,b⟩ F_fq31 [a,c] s K:=VC_ra (P:=prog) (F':=fq31.fn) rfl fq31.ra fq31.ul rfl h
theorem fq31.ret {n:Nat} {lk:Bool} {K:AV→St→Prop}:RK n lk fq31.res K .ret [a,c,d] s=(K (leave n lk [⟨2,none,none⟩] [d] s).1 (leave n lk [⟨2,none,none⟩] [d] s).2):=by kernel_rfl
theorem fq31.n0_w:WC E fq31.n0 [a,c,d] s Q=(oM (vConv .u64 c) fun v1=>oM (evBin .shr a v1) fun v2=>oM (evBin .and v2 (.int .u64 1)) fun v3=>oM (evBin .eql v3 (.int .u64 1)) fun v4=>Q .ret [v4,v1,v4] s):=by kernel_rfl
theorem fq27.enter {k:Nat} {b:Option Nat} {K:AV→St→Prop} (h:WC ⟨prog,k,some s.heap.length⟩ fq27.n0 [a,.undef,.undef,.undef,.undef,.undef,.undef,.undef,.undef,.undef,.undef,.undef] { s with leak:=false } (RK s.heap.length s.leak fq27.res K)):VC ⟨prog,k + 1,b⟩ F_fq27 [a] s K:=VC_ra (P:=prog) (F':=fq27.fn) rfl fq27.ra fq27.ul rfl h
theorem fq27.ret {n:Nat} {lk:Bool} {K:AV→St→Prop}:RK n lk fq27.res K .ret [a,c,d,f,g,i,j,l,o,p,q,r] s=(K (leave n lk [⟨1,none,none⟩] [c] s).1 (leave n lk [⟨1,none,none⟩] [c] s).2):=by kernel_rfl
theorem fq27.n0_w:WC E fq27.n0 [a,c,d,f,g,i,j,l,o,p,q,r] s Q=(oM (vChk a) fun v1=>oM (vOff 0 v1) fun v2=>oM (vOff 0 v2) fun v3=>oM (ld ((push s (.map (.mk true [(.int .i64),(.int .i64)]) 0 []))).heap none v3) fun v4=>oM (fillA [(.int .i64 0),(.int .i64 0)] [(0,1,v4),(1,1,(.int .i64 0))]) fun v5=>oM (eMupd E.base ((push s (.map (.mk true [(.int .i64),(.int .i64)]) 0 []))) (.mk true [(.int .i64),(.int .i64)]) (.map s.heap.length) (.agg v5) (.bool true)) fun s6=>oM (eLit s6 1 [.nilmap] [(0,1,(.map s.heap.length))] false true) fun v7=>oM (vChk a) fun v9=>oM (vOff 0 v9) fun v10=>oM (vOff 3 v10) fun v11=>oM (ld (v7.2).heap none v11) fun v12=>oM (vLen false v12) fun v13=>(sK (WC E (.block 0 fq27.n1)) (sK (WC E fq27.n17) Q)) .normal [a,(.slice true 0 []),v7.1,(.int .i64 0),g,v13,(.agg v5),l,o,p,q,r] (v7.2)):=by kernel_rfl
theorem fq27.n2_w:WC E fq27.n2 [a,c,d,f,g,i,j,l,o,p,q,r] s Q=(oM (evBin .lss f i) fun v1=>cM v1 ((sK (WC E fq27.n4) Q) .normal [a,c,d,f,g,i,v1,l,o,p,q,r] s) ((sK (WC E fq27.n4) Q) (.exit 0) [a,c,d,f,g,i,v1,l,o,p,q,r] s)):=by kernel_rfl
theorem fq27.n4_w:WC E fq27.n4 [a,c,d,f,g,i,j,l,o,p,q,r] s Q=(oM (vIaddr ((push s (.map (.mk true [(.int .i64),(.int .i64)]) 0 []))).heap 1 none d f) fun v1=>oM (ld ((push s (.map (.mk true [(.int .i64),(.int .i64)]) 0 []))).heap none v1) fun v2=>oM (eRange ((push s (.map (.mk true [(.int .i64),(.int .i64)]) 0 []))) v2) fun v3=>(sK (WC E (.block 2 fq27.n5)) (sK (WC E fq27.n15) (bK 1 (sK (WC E fq27.n16) Q)))) .normal [a,c,d,f,g,i,(.map s.heap.length),v3.1,o,p,q,r] (v3.2)):=by kernel_rfl
theorem fq27.n6_w:WC E fq27.n6 [a,c,d,f,g,i,j,l,o,p,q,r] s Q=(VN l s fun v1 s2=>oM (vExt 0 v1) fun v3=>cM v3 ((sK (WC E fq27.n8) Q) .normal [a,c,d,f,g,i,j,l,v3,p,q,r] s2) ((sK (WC E fq27.n8) Q) (.exit 2) [a,c,d,f,g,i,j,l,v3,p,q,r] s2)):=by kernel_rfl
theorem fq27.n8_w:WC E fq27.n8 [a,c,d,f,g,i,j,l,o,p,q,r] s Q=(oM (vEntry s.heap l) fun v1=>oM (vExt 0 v1) fun v2=>oM (eStore E.base ((push s (.cells [(.int .i64 0),(.int .i64 0)]))) 2 (.ptr s.heap.length 0 2) v2) fun s3=>oM (vChk a) fun v4=>oM (vOff 6 v4) fun v5=>oM (ld s3.heap none v5) fun v6=>oM (vLen false v6) fun v7=>(sK (WC E (.block 4 fq27.n9)) (bK 3 Q)) .normal [a,c,d,f,(.int .i64 0),i,j,l,v7,(.ptr s.heap.length 0 2),q,r] s3):=by kernel_rfl
theorem fq27.n10_w:WC E fq27.n10 [a,c,d,f,g,i,j,l,o,p,q,r] s Q=(oM (evBin .lss g o) fun v1=>cM v1 ((sK (WC E fq27.n12) Q) .normal [a,c,d,f,g,i,j,l,o,p,v1,r] s) ((sK (WC E fq27.n12) Q) (.exit 4) [a,c,d,f,g,i,j,l,o,p,v1,r] s)):=by kernel_rfl
theorem fq27.n12_w:WC E fq27.n12 [a,c,d,f,g,i,j,l,o,p,q,r] s Q=(oM (vOff 0 p) fun v1=>oM (ld s.heap none v1) fun v2=>VC E F_fq26 [a,f,v2,g] s fun v3 s4=>oM (vChk a) fun v5=>oM (vOff 0 v5) fun v6=>oM (vOff 2 v6) fun v7=>oM (ld s4.heap none v7) fun v8=>oM (evBin .leq v3 v8) fun v9=>cM v9 (WC E fq27.n13 [a,c,d,f,g,i,j,l,o,p,v3,v9] s4 (bK 5 (sK (WC E fq27.n14) Q))) ((bK 5 (sK (WC E fq27.n14) Q)) .normal [a,c,d,f,g,i,j,l,o,p,v3,v9] s4)):=by kernel_rfl
theorem fq27.n13_w:WC E fq27.n13 [a,c,d,f,g,i,j,l,o,p,q,r] s Q=(oM (fillA [(.int .i64 0),(.int .i64 0)] [(0,1,q),(1,1,g)]) fun v1=>oM (eMupd E.base s (.mk true [(.int .i64),(.int .i64)]) j (.agg v1) (.bool true)) fun s2=>Q .normal [a,c,d,f,g,i,j,l,o,p,(.agg v1),r] s2):=by kernel_rfl
theorem fq27.n14_w:WC E fq27.n14 [a,c,d,f,g,i,j,l,o,p,q,r] s Q=(oM (evBin .add g (.int .i64 1)) fun v1=>Q .normal [a,c,d,f,v1,i,j,l,o,p,v1,r] s):=by kernel_rfl
theorem fq27.n15_w:WC E fq27.n15 [a,c,d,f,g,i,j,l,o,p,q,r] s Q=(oM (eLit s 1 [.nilmap] [(0,1,j)] false true) fun v1=>oM (eApp E.base (v1.2) 1 8 d v1.1) fun v3=>Q .normal [a,c,v3.1,f,g,i,v3.1,l,o,p,q,r] (v3.2)):=by kernel_rfl
theorem fq27.n16_w:WC E fq27.n16 [a,c,d,f,g,i,j,l,o,p,q,r] s Q=(oM (evBin .add f (.int .i64 1)) fun v1=>Q .normal [a,c,d,v1,g,i,v1,l,o,p,q,r] s):=by kernel_rfl
theorem fq27.n17_w:WC E fq27.n17 [a,c,d,f,g,i,j,l,o,p,q,r] s Q=(Q .ret [a,d,d,f,g,i,j,l,o,p,q,r] s):=by kernel_rfl
def fq27.n1_J (a c i:AV) (I:Nat→AV→AV→St→Prop) (m:Nat) (ρ:Regs) (s:St):Prop:=∃ d f g j l o p q r:AV,ρ=[a,c,d,f,g,i,j,l,o,p,q,r]∧I m d f s
theorem fq27.n1_go {I:Nat→AV→AV→St→Prop} {m m':Nat} (hm:m' < m) (h:I m' d f s):LK (fq27.n1_J a c i I) m Q .normal [a,c,d,f,g,i,j,l,o,p,q,r] s:=⟨m',hm,_,_,_,_,_,_,_,_,_,rfl,h⟩
theorem fq27.n1_l (I:Nat→AV→AV→St→Prop) (m:Nat) (hm:m < E.k) (h0:I m d f s) (step:∀ (m:Nat) (d f g j l o p q r:AV) (s:St),I m d f s→WC E fq27.n2 [a,c,d,f,g,i,j,l,o,p,q,r] s (LK (fq27.n1_J a c i I) m Q)):WC E fq27.n1 [a,c,d,f,g,i,j,l,o,p,q,r] s Q:=WC_loop (J:=fq27.n1_J a c i I) m hm ⟨_,_,_,_,_,_,_,_,_,rfl,h0⟩ (fun m ρ s ⟨d,f,g,j,l,o,p,q,r,e,h⟩=>by rw [e]; exact step m d f g j l o p q r s h)
def fq27.n5_J (a c d f i j l:AV) (I:Nat→St→Prop) (m:Nat) (ρ:Regs) (s:St):Prop:=∃ g o p q r:AV,ρ=[a,c,d,f,g,i,j,l,o,p,q,r]∧I m  s
theorem fq27.n5_go {I:Nat→St→Prop} {m m':Nat} (hm:m' < m) (h:I m'  s):LK (fq27.n5_J a c d f i j l I) m Q .normal [a,c,d,f,g,i,j,l,o,p,q,r] s:=⟨m',hm,_,_,_,_,_,rfl,h⟩
theorem fq27.n5_l (I:Nat→St→Prop) (m:Nat) (hm:m < E.k) (h0:I m  s) (step:∀ (m:Nat) (g o p q r:AV) (s:St),I m  s→WC E fq27.n6 [a,c,d,f,g,i,j,l,o,p,q,r] s (LK (fq27.n5_J a c d f i j l I) m Q)):WC E fq27.n5 [a,c,d,f,g,i,j,l,o,p,q,r] s Q:=WC_loop (J:=fq27.n5_J a c d f i j l I) m hm ⟨_,_,_,_,_,rfl,h0⟩ (fun m ρ s ⟨g,o,p,q,r,e,h⟩=>by rw [e]; exact step m g o p q r s h)
def fq27.n9_J (a c d f i j l o p:AV) (I:Nat→AV→St→Prop) (m:Nat) (ρ:Regs) (s:St):Prop:=∃ g q r:AV,ρ=[a,c,d,f,g,i,j,l,o,p,q,r]∧I m g s
theorem fq27.n9_go {I:Nat→AV→St→Prop} {m m':Nat} (hm:m' < m) (h:I m' g s):LK (fq27.n9_J a c d f i j l o p I) m Q .normal [a,c,d,f,g,i,j,l,o,p,q,r] s:=⟨m',hm,_,_,_,rfl,h⟩
theorem fq27.n9_l (I:Nat→AV→St→Prop) (m:Nat) (hm:m < E.k) (h0:I m g s) (step:∀ (m:Nat) (g q r:AV) (s:St),I m g s→WC E fq27.n10 [a,c,d,f,g,i,j,l,o,p,q,r] s (LK (fq27.n9_J a c d f i j l o p I) m Q)):WC E fq27.n9 [a,c,d,f,g,i,j,l,o,p,q,r] s Q:=WC_loop (J:=fq27.n9_J a c d f i j l o p I) m hm ⟨_,_,_,rfl,h0⟩ (fun m ρ s ⟨g,q,r,e,h⟩=>by rw [e]; exact step m g q r s h)
theorem fq43.enter {k:Nat} {b:Option Nat} {K:AV→St→Prop} (h:WC ⟨prog,k,some s.heap.length⟩ fq43.n0 [a,c,d,.undef] { s with leak:=false } (RK s.heap.length s.leak fq43.res K)):VC ⟨prog,k + 1,b⟩ F_fq43 [a,c,d] s K:=VC_ra (P:=prog) (F':=fq43.fn) rfl fq43.ra fq43.ul rfl h
theorem fq43.ret {n:Nat} {lk:Bool} {K:AV→St→Prop}:RK n lk fq43.res K .ret [a,c,d,f] s=(K (leave n lk [⟨3,none,none⟩] [f] s).1 (leave n lk [⟨3,none,none⟩] [f] s).2):=by kernel_rfl
theorem fq43.n0_w:WC E fq43.n0 [a,c,d,f] s Q=(oM (evBin .leq c a) fun v1=>gO v1 true s (fun k2=>k2 a s) fun v3 s3=>gO v1 true s3 (fun k4=>k4 d s3) fun v5 s5=>gO v1 true s5 (fun k6=>oM (evBin .leq v3 v5) fun v7=>k6 v7 s5) fun v8 s8=>oM (vPick v1 v8 (.bool false)) fun v9=>Q .ret [v9,v1,v5,v9] s8):=by kernel_rfl
theorem fq54.enter {k:Nat} {b:Option Nat} {K:AV→St→Prop} (h:WC ⟨prog,k,some s.heap.length⟩ fq54.n0 [a,c,.undef,.undef,.undef,.undef] { s with leak:=false } (RK s.heap.length s.leak fq54.res K)):VC ⟨prog,k + 1,b⟩ F_fq54 [a,c] s K:=VC_ra (P:=prog) (F':=fq54.fn) rfl fq54.ra fq54.ul rfl h
theorem fq54.ret {n:Nat} {lk:Bool} {K:AV→St→Prop}:RK n lk fq54.res K .ret [a,c,d,f,g,i] s=(K (leave n lk [⟨2,none,none⟩] [d] s).1 (leave n lk [⟨2,none,none⟩] [d] s).2):=by kernel_rfl
theorem fq54.n0_w:WC E fq54.n0 [a,c,d,f,g,i] s Q=(oM (vLen false a) fun v1=>(sK (WC E (.block 0 fq54.n1)) (sK (WC E fq54.n7) Q)) .normal [a,c,(.int .i64 0),(.int .i64 0),v1,i] s):=by kernel_rfl
theorem fq54.n2_w:WC E fq54.n2 [a,c,d,f,g,i] s Q=(oM (evBin .lss f g) fun v1=>cM v1 ((sK (WC E fq54.n4) Q) .normal [a,c,d,f,g,v1] s) ((sK (WC E fq54.n4) Q) (.exit 0) [a,c,d,f,g,v1] s)):=by kernel_rfl
theorem fq54.n4_w:WC E fq54.n4 [a,c,d,f,g,i] s Q=(oM (vIaddr s.heap 2 none a f) fun v1=>oM (ld s.heap (some 2) v1) fun v2=>VV E c [v2] s fun v3 s4=>cM v3 (WC E fq54.n5 [a,c,d,f,g,v3] s4 (bK 1 (sK (WC E fq54.n6) Q))) ((bK 1 (sK (WC E fq54.n6) Q)) .normal [a,c,d,f,g,v3] s4)):=by kernel_rfl
theorem fq54.n5_w:WC E fq54.n5 [a,c,d,f,g,i] s Q=(Q .ret [a,c,f,f,g,i] s):=by kernel_rfl
theorem fq54.n6_w:WC E fq54.n6 [a,c,d,f,g,i] s Q=(oM (evBin .add f (.int .i64 1)) fun v1=>Q .normal [a,c,d,v1,g,v1] s):=by kernel_rfl
theorem fq54.n7_w:WC E fq54.n7 [a,c,d,f,g,i] s Q=(Q .ret [a,c,(.int .i64 (-1)),f,g,i] s):=by kernel_rfl
def fq54.n1_J (a c g:AV) (I:Nat→AV→St→Prop) (m:Nat) (ρ:Regs) (s:St):Prop:=∃ d f i:AV,ρ=[a,c,d,f,g,i]∧I m f s
theorem fq54.n1_go {I:Nat→AV→St→Prop} {m m':Nat} (hm:m' < m) (h:I m' f s):LK (fq54.n1_J a c g I) m Q .normal [a,c,d,f,g,i] s:=⟨m',hm,_,_,_,rfl,h⟩
theorem fq54.n1_l (I:Nat→AV→St→Prop) (m:Nat) (hm:m < E.k) (h0:I m f s) (step:∀ (m:Nat) (d f i:AV) (s:St),I m f s→WC E fq54.n2 [a,c,d,f,g,i] s (LK (fq54.n1_J a c g I) m Q)):WC E fq54.n1 [a,c,d,f,g,i] s Q:=WC_loop (J:=fq54.n1_J a c g I) m hm ⟨_,_,_,rfl,h0⟩ (fun m ρ s ⟨d,f,i,e,h⟩=>by rw [e]; exact step m d f i s h)
theorem fq51.enter {k:Nat} {b:Option Nat} {K:AV→St→Prop} (h:WC ⟨prog,k,some s.heap.length⟩ fq51.n0 [a,c,.undef] { s with leak:=false } (RK s.heap.length s.leak fq51.res K)):VC ⟨prog,k + 1,b⟩ F_fq51 [a,c] s K:=VC_ra (P:=prog) (F':=fq51.fn) rfl fq51.ra fq51.ul rfl h
theorem fq51.ret {n:Nat} {lk:Bool} {K:AV→St→Prop}:RK n lk fq51.res K .ret [a,c,d] s=(K (leave n lk [⟨2,none,none⟩] [d] s).1 (leave n lk [⟨2,none,none⟩] [d] s).2):=by kernel_rfl
theorem fq51.n0_w:WC E fq51.n0 [a,c,d] s Q=(VC E F_fq55 [a,c] s fun v1 s2=>oM (evBin .geq v1 (.int .i64 0)) fun v3=>Q .ret [v3,c,v3] s2):=by kernel_rfl
theorem fq20.enter {k:Nat} {b:Option Nat} {K:AV→St→Prop} (h:WC ⟨prog,k,some s.heap.length⟩ fq20.n0 [a,.undef] { s with leak:=false } (RK s.heap.length s.leak fq20.res K)):VC ⟨prog,k + 1,b⟩ F_fq20 [a] s K:=VC_ra (P:=prog) (F':=fq20.fn) rfl fq20.ra fq20.ul rfl h
theorem fq20.ret {n:Nat} {lk:Bool} {K:AV→St→Prop}:RK n lk fq20.res K .ret [a,c] s=(K (leave n lk [⟨1,none,none⟩] [c] s).1 (leave n lk [⟨1,none,none⟩] [c] s).2):=by kernel_rfl
theorem fq20.n0_w:WC E fq20.n0 [a,c] s Q=(VC E F_fq42 [a,(.int .i64 0),(.int .i64 1000000)] s fun v1 s2=>oM (evUn .not v1) fun v3=>Q .ret [v3,v3] s2):=by kernel_rfl
theorem fq0.enter {k:Nat} {b:Option Nat} {K:AV→St→Prop} (h:WC ⟨prog,k,some s.heap.length⟩ fq0.n0 [a,.undef] { s with leak:=false } (RK s.heap.length s.leak fq0.res K)):VC ⟨prog,k + 1,b⟩ F_fq0 [a] s K:=VC_ra (P:=prog) (F':=fq0.fn) rfl fq0.ra fq0.ul rfl h
theorem fq0.ret {n:Nat} {lk:Bool} {K:AV→St→Prop}:RK n lk fq0.res K .ret [a,c] s=(K (leave n lk [⟨1,none,none⟩] [c] s).1 (leave n lk [⟨1,none,none⟩] [c] s).2):=by kernel_rfl
theorem fq0.n0_w:WC E fq0.n0 [a,c] s Q=(cM (.bool false) (WC E fq0.n1 [a,(.int .i64 0)] s (sK (WC E fq0.n2) Q)) ((sK (WC E fq0.n2) Q) .normal [a,(.int .i64 0)] s)):=by kernel_rfl
theorem fq0.n2_w:WC E fq0.n2 [a,c] s Q=(VC E F_bits_TrailingZeros64 [a] s fun v1 s2=>Q .ret [v1,v1] s2):=by kernel_rfl
end Go.Proofs.YtcebebhaahpoiaaDoor
end
section
namespace Go.Proofs.YtcebebhaahpoiaaDoor
open Go Go.Ai Go.W
set_option maxRecDepth 100000
set_option linter.unusedVariables false
variable {E:Env} {s:St} {Q:AExit→Regs→St→Prop} {a c d f g i j l o p q r t u w y z A B C D F G H L M N P R T U V W X Y Z a0 a1 a2 a3 a4 a5 a6 a7 a8 a9 c0 c1 c2 c3 c4 c5 c6 c7 c8 c9 d0 d1 d2 d3 d4 d5 d6 d7 d8 d9 f0:AV}
theorem fq56.enter {k:Nat} {b:Option Nat} {K:AV→St→Prop} (h:WC ⟨prog,k,some s.heap.length⟩ fq56.n0 [a,c,.undef,.undef,.undef,.undef] { s with leak:=false } (RK s.heap.length s.leak fq56.res K)):VC ⟨prog,k + 1,b⟩ F_fq56 [a,c] s K:=VC_ra (P:=prog) (F':=fq56.fn) rfl fq56.ra fq56.ul rfl h
theorem fq56.ret {n:Nat} {lk:Bool} {K:AV→St→Prop}:RK n lk fq56.res K .ret [a,c,d,f,g,i] s=(K (leave n lk [⟨2,none,none⟩] [d] s).1 (leave n lk [⟨2,none,none⟩] [d] s).2):=by kernel_rfl
theorem fq56.n0_w:WC E fq56.n0 [a,c,d,f,g,i] s Q=(oM (vLen false a) fun v1=>(sK (WC E (.block 0 fq56.n1)) (sK (WC E fq56.n7) Q)) .normal [a,c,(.int .i64 0),(.int .i64 0),v1,i] s):=by kernel_rfl
theorem fq56.n2_w:WC E fq56.n2 [a,c,d,f,g,i] s Q=(oM (evBin .lss f g) fun v1=>cM v1 ((sK (WC E fq56.n4) Q) .normal [a,c,d,f,g,v1] s) ((sK (WC E fq56.n4) Q) (.exit 0) [a,c,d,f,g,v1] s)):=by kernel_rfl
theorem fq56.n4_w:WC E fq56.n4 [a,c,d,f,g,i] s Q=(oM (vIaddr s.heap 1 none a f) fun v1=>oM (ld s.heap none v1) fun v2=>VV E c [v2] s fun v3 s4=>cM v3 (WC E fq56.n5 [a,c,d,f,g,v3] s4 (bK 1 (sK (WC E fq56.n6) Q))) ((bK 1 (sK (WC E fq56.n6) Q)) .normal [a,c,d,f,g,v3] s4)):=by kernel_rfl
theorem fq56.n5_w:WC E fq56.n5 [a,c,d,f,g,i] s Q=(Q .ret [a,c,f,f,g,i] s):=by kernel_rfl
theorem fq56.n6_w:WC E fq56.n6 [a,c,d,f,g,i] s Q=(oM (evBin .add f (.int .i64 1)) fun v1=>Q .normal [a,c,d,v1,g,v1] s):=by kernel_rfl
theorem fq56.n7_w:WC E fq56.n7 [a,c,d,f,g,i] s Q=(Q .ret [a,c,(.int .i64 (-1)),f,g,i] s):=by kernel_rfl
def fq56.n1_J (a c g:AV) (I:Nat→AV→St→Prop) (m:Nat) (ρ:Regs) (s:St):Prop:=∃ d f i:AV,ρ=[a,c,d,f,g,i]∧I m f s
theorem fq56.n1_go {I:Nat→AV→St→Prop} {m m':Nat} (hm:m' < m) (h:I m' f s):LK (fq56.n1_J a c g I) m Q .normal [a,c,d,f,g,i] s:=⟨m',hm,_,_,_,rfl,h⟩
theorem fq56.n1_l (I:Nat→AV→St→Prop) (m:Nat) (hm:m < E.k) (h0:I m f s) (step:∀ (m:Nat) (d f i:AV) (s:St),I m f s→WC E fq56.n2 [a,c,d,f,g,i] s (LK (fq56.n1_J a c g I) m Q)):WC E fq56.n1 [a,c,d,f,g,i] s Q:=WC_loop (J:=fq56.n1_J a c g I) m hm ⟨_,_,_,rfl,h0⟩ (fun m ρ s ⟨d,f,i,e,h⟩=>by rw [e]; exact step m d f i s h)
theorem fq29.enter {k:Nat} {b:Option Nat} {K:AV→St→Prop} (h:WC ⟨prog,k,some s.heap.length⟩ fq29.n0 [a,c,.undef] { s with leak:=false } (RK s.heap.length s.leak fq29.res K)):VC ⟨prog,k + 1,b⟩ F_fq29 [a,c] s K:=VC_ra (P:=prog) (F':=fq29.fn) rfl fq29.ra fq29.ul rfl h
theorem fq29.ret {n:Nat} {lk:Bool} {K:AV→St→Prop}:RK n lk fq29.res K .ret [a,c,d] s=(K (leave n lk [⟨2,none,none⟩] [d] s).1 (leave n lk [⟨2,none,none⟩] [d] s).2):=by kernel_rfl
theorem fq29.n0_w:WC E fq29.n0 [a,c,d] s Q=(oM (ld s.heap none c) fun v1=>oM (vChk v1) fun v2=>oM (vOff 6 v2) fun v3=>oM (ld s.heap none v3) fun v4=>oM (vLen false v4) fun v5=>oM (evBin .sub v5 (.int .i64 1)) fun v6=>VC E F_fq42 [a,(.int .i64 0),v6] s fun v7 s8=>oM (evUn .not v7) fun v9=>Q .ret [v9,v6,v9] s8):=by kernel_rfl
theorem fq32.enter {k:Nat} {b:Option Nat} {K:AV→St→Prop} (h:WC ⟨prog,k,some s.heap.length⟩ fq32.n0 [a,c,.undef] { s with leak:=false } (RK s.heap.length s.leak fq32.res K)):VC ⟨prog,k + 1,b⟩ F_fq32 [a,c] s K:=VC_ra (P:=prog) (F':=fq32.fn) rfl fq32.ra fq32.ul rfl h
theorem fq32.ret {n:Nat} {lk:Bool} {K:AV→St→Prop}:RK n lk fq32.res K .ret [a,c,d] s=(K (leave n lk [⟨2,none,none⟩] [d] s).1 (leave n lk [⟨2,none,none⟩] [d] s).2):=by kernel_rfl
theorem fq32.n0_w:WC E fq32.n0 [a,c,d] s Q=(oM (vConv .u64 c) fun v1=>oM (evBin .shl (.int .u64 1) v1) fun v2=>oM (evBin .andNot a v2) fun v3=>Q .ret [v3,v2,v3] s):=by kernel_rfl
theorem fq30.enter {k:Nat} {b:Option Nat} {K:AV→St→Prop} (h:WC ⟨prog,k,some s.heap.length⟩ fq30.n0 [a,.undef] { s with leak:=false } (RK s.heap.length s.leak fq30.res K)):VC ⟨prog,k + 1,b⟩ F_fq30 [a] s K:=VC_ra (P:=prog) (F':=fq30.fn) rfl fq30.ra fq30.ul rfl h
theorem fq30.ret {n:Nat} {lk:Bool} {K:AV→St→Prop}:RK n lk fq30.res K .ret [a,c] s=(K (leave n lk [⟨1,none,none⟩] [c] s).1 (leave n lk [⟨1,none,none⟩] [c] s).2):=by kernel_rfl
theorem fq30.n0_w:WC E fq30.n0 [a,c] s Q=(VC E F_fq0 [a] s fun v1 s2=>Q .ret [v1,v1] s2):=by kernel_rfl
theorem fq3.enter {k:Nat} {b:Option Nat} {K:AV→St→Prop} (h:WC ⟨prog,k,some s.heap.length⟩ fq3.n0 [a,.undef,.undef] { s with leak:=false } (RK s.heap.length s.leak fq3.res K)):VC ⟨prog,k + 1,b⟩ F_fq3 [a] s K:=VC_ra (P:=prog) (F':=fq3.fn) rfl fq3.ra fq3.ul rfl h
theorem fq3.ret {n:Nat} {lk:Bool} {K:AV→St→Prop}:RK n lk fq3.res K .ret [a,c,d] s=(K (leave n lk [⟨1,none,none⟩] [c] s).1 (leave n lk [⟨1,none,none⟩] [c] s).2):=by kernel_rfl
theorem fq3.n0_w:WC E fq3.n0 [a,c,d] s Q=(oM (vLen false a) fun v1=>oM (evBin .leq v1 (.int .i64 200)) fun v2=>gO v2 true s (fun k3=>k3 a s) fun v4 s4=>gO v2 true s4 (fun k5=>VC E F_fq49 [v4,(.fn F_fq4 [])] s4 fun v6 s7=>k5 v6 s7) fun v8 s8=>gO v2 true s8 (fun k9=>oM (evUn .not v8) fun v10=>k9 v10 s8) fun v11 s11=>oM (vPick v2 v11 (.bool false)) fun v12=>Q .ret [v12,v12,v2] s11):=by kernel_rfl
theorem fq41.enter {k:Nat} {b:Option Nat} {K:AV→St→Prop} (h:WC ⟨prog,k,some s.heap.length⟩ fq41.n0 [a,c,.undef,.undef] { s with leak:=false } (RK s.heap.length s.leak fq41.res K)):VC ⟨prog,k + 1,b⟩ F_fq41 [a,c] s K:=VC_ra (P:=prog) (F':=fq41.fn) rfl fq41.ra fq41.ul rfl h
theorem fq41.ret {n:Nat} {lk:Bool} {K:AV→St→Prop}:RK n lk fq41.res K .ret [a,c,d,f] s=(K (leave n lk [] [] s).1 (leave n lk [] [] s).2):=by kernel_rfl
theorem fq41.n0_w:WC E fq41.n0 [a,c,d,f] s Q=((sK (WC E (.block 0 fq41.n1)) Q) .normal [a,c,(.int .i64 0),f] s):=by kernel_rfl
theorem fq41.n2_w:WC E fq41.n2 [a,c,d,f] s Q=(oM (evBin .lss d (.int .i64 500)) fun v1=>cM v1 ((sK (WC E fq41.n4) Q) .normal [a,c,d,v1] s) ((sK (WC E fq41.n4) Q) (.exit 0) [a,c,d,v1] s)):=by kernel_rfl
theorem fq41.n4_w:WC E fq41.n4 [a,c,d,f] s Q=(oM (ld s.heap none c) fun v1=>oM (vLook s.heap (.mk false [(.int .i64)]) (.slice true 0 []) false v1 d) fun v2=>VV E a [d,v2] s fun v3 s4=>oM (evUn .not v3) fun v5=>cM v5 ((bK 1 (sK (WC E fq41.n5) Q)) .ret [a,c,d,v5] s4) ((bK 1 (sK (WC E fq41.n5) Q)) .normal [a,c,d,v5] s4)):=by kernel_rfl
theorem fq41.n5_w:WC E fq41.n5 [a,c,d,f] s Q=(oM (evBin .add d (.int .i64 1)) fun v1=>Q .normal [a,c,v1,v1] s):=by kernel_rfl
def fq41.n1_J (a c:AV) (I:Nat→AV→St→Prop) (m:Nat) (ρ:Regs) (s:St):Prop:=∃ d f:AV,ρ=[a,c,d,f]∧I m d s
theorem fq41.n1_go {I:Nat→AV→St→Prop} {m m':Nat} (hm:m' < m) (h:I m' d s):LK (fq41.n1_J a c I) m Q .normal [a,c,d,f] s:=⟨m',hm,_,_,rfl,h⟩
theorem fq41.n1_l (I:Nat→AV→St→Prop) (m:Nat) (hm:m < E.k) (h0:I m d s) (step:∀ (m:Nat) (d f:AV) (s:St),I m d s→WC E fq41.n2 [a,c,d,f] s (LK (fq41.n1_J a c I) m Q)):WC E fq41.n1 [a,c,d,f] s Q:=WC_loop (J:=fq41.n1_J a c I) m hm ⟨_,_,rfl,h0⟩ (fun m ρ s ⟨d,f,e,h⟩=>by rw [e]; exact step m d f s h)
theorem fq55.enter {k:Nat} {b:Option Nat} {K:AV→St→Prop} (h:WC ⟨prog,k,some s.heap.length⟩ fq55.n0 [a,c,.undef,.undef,.undef,.undef] { s with leak:=false } (RK s.heap.length s.leak fq55.res K)):VC ⟨prog,k + 1,b⟩ F_fq55 [a,c] s K:=VC_ra (P:=prog) (F':=fq55.fn) rfl fq55.ra fq55.ul rfl h
theorem fq55.ret {n:Nat} {lk:Bool} {K:AV→St→Prop}:RK n lk fq55.res K .ret [a,c,d,f,g,i] s=(K (leave n lk [⟨2,none,none⟩] [d] s).1 (leave n lk [⟨2,none,none⟩] [d] s).2):=by kernel_rfl
theorem fq55.n0_w:WC E fq55.n0 [a,c,d,f,g,i] s Q=(oM (vLen false a) fun v1=>(sK (WC E (.block 0 fq55.n1)) (sK (WC E fq55.n7) Q)) .normal [a,c,(.int .i64 0),(.int .i64 0),v1,i] s):=by kernel_rfl
theorem fq55.n2_w:WC E fq55.n2 [a,c,d,f,g,i] s Q=(oM (evBin .lss f g) fun v1=>cM v1 ((sK (WC E fq55.n4) Q) .normal [a,c,d,f,g,v1] s) ((sK (WC E fq55.n4) Q) (.exit 0) [a,c,d,f,g,v1] s)):=by kernel_rfl
theorem fq55.n4_w:WC E fq55.n4 [a,c,d,f,g,i] s Q=(oM (vIaddr s.heap 1 none a f) fun v1=>oM (ld s.heap none v1) fun v2=>VV E c [v2] s fun v3 s4=>cM v3 (WC E fq55.n5 [a,c,d,f,g,v3] s4 (bK 1 (sK (WC E fq55.n6) Q))) ((bK 1 (sK (WC E fq55.n6) Q)) .normal [a,c,d,f,g,v3] s4)):=by kernel_rfl
theorem fq55.n5_w:WC E fq55.n5 [a,c,d,f,g,i] s Q=(Q .ret [a,c,f,f,g,i] s):=by kernel_rfl
theorem fq55.n6_w:WC E fq55.n6 [a,c,d,f,g,i] s Q=(oM (evBin .add f (.int .i64 1)) fun v1=>Q .normal [a,c,d,v1,g,v1] s):=by kernel_rfl
theorem fq55.n7_w:WC E fq55.n7 [a,c,d,f,g,i] s Q=(Q .ret [a,c,(.int .i64 (-1)),f,g,i] s):=by kernel_rfl
def fq55.n1_J (a c g:AV) (I:Nat→AV→St→Prop) (m:Nat) (ρ:Regs) (s:St):Prop:=∃ d f i:AV,ρ=[a,c,d,f,g,i]∧I m f s
theorem fq55.n1_go {I:Nat→AV→St→Prop} {m m':Nat} (hm:m' < m) (h:I m' f s):LK (fq55.n1_J a c g I) m Q .normal [a,c,d,f,g,i] s:=⟨m',hm,_,_,_,rfl,h⟩
theorem fq55.n1_l (I:Nat→AV→St→Prop) (m:Nat) (hm:m < E.k) (h0:I m f s) (step:∀ (m:Nat) (d f i:AV) (s:St),I m f s→WC E fq55.n2 [a,c,d,f,g,i] s (LK (fq55.n1_J a c g I) m Q)):WC E fq55.n1 [a,c,d,f,g,i] s Q:=WC_loop (J:=fq55.n1_J a c g I) m hm ⟨_,_,_,rfl,h0⟩ (fun m ρ s ⟨d,f,i,e,h⟩=>by rw [e]; exact step m d f i s h)
theorem fq49.enter {k:Nat} {b:Option Nat} {K:AV→St→Prop} (h:WC ⟨prog,k,some s.heap.length⟩ fq49.n0 [a,c,.undef] { s with leak:=false } (RK s.heap.length s.leak fq49.res K)):VC ⟨prog,k + 1,b⟩ F_fq49 [a,c] s K:=VC_ra (P:=prog) (F':=fq49.fn) rfl fq49.ra fq49.ul rfl h
theorem fq49.ret {n:Nat} {lk:Bool} {K:AV→St→Prop}:RK n lk fq49.res K .ret [a,c,d] s=(K (leave n lk [⟨2,none,none⟩] [d] s).1 (leave n lk [⟨2,none,none⟩] [d] s).2):=by kernel_rfl
theorem fq49.n0_w:WC E fq49.n0 [a,c,d] s Q=(VC E F_fq53 [a,c] s fun v1 s2=>oM (evBin .geq v1 (.int .i64 0)) fun v3=>Q .ret [v3,c,v3] s2):=by kernel_rfl
theorem fq4.enter {k:Nat} {b:Option Nat} {K:AV→St→Prop} (h:WC ⟨prog,k,some s.heap.length⟩ fq4.n0 [a,.undef,.undef,.undef] { s with leak:=false } (RK s.heap.length s.leak fq4.res K)):VC ⟨prog,k + 1,b⟩ F_fq4 [a] s K:=VC_ra (P:=prog) (F':=fq4.fn) rfl fq4.ra fq4.ul rfl h
theorem fq4.ret {n:Nat} {lk:Bool} {K:AV→St→Prop}:RK n lk fq4.res K .ret [a,c,d,f] s=(K (leave n lk [⟨1,none,none⟩] [c] s).1 (leave n lk [⟨1,none,none⟩] [c] s).2):=by kernel_rfl
theorem fq4.n0_w:WC E fq4.n0 [a,c,d,f] s Q=(oM (eBox s 3 a) fun v1=>oM (vOff 0 v1.1) fun v3=>oM (ld (v1.2).heap none v3) fun v4=>VC E F_fq42 [v4,(.int .i64 0),(.int .i64 7)] (v1.2) fun v5 s6=>oM (evUn .not v5) fun v7=>gO v7 false s6 (fun k8=>oM (vOff 1 v1.1) fun v9=>k8 v9 s6) fun v10 s10=>gO v7 false s10 (fun k11=>oM (ld s10.heap none v10) fun v12=>k11 v12 s10) fun v13 s13=>gO v7 false s13 (fun k14=>VC E F_fq42 [v13,(.int .i64 0),(.int .i64 499)] s13 fun v15 s16=>k14 v15 s16) fun v17 s17=>gO v7 false s17 (fun k18=>oM (evUn .not v17) fun v19=>k18 v19 s17) fun v20 s20=>oM (vPick v7 (.bool true) v20) fun v21=>gO v21 false s20 (fun k22=>oM (vOff 2 v1.1) fun v23=>k22 v23 s20) fun v24 s24=>gO v21 false s24 (fun k25=>oM (ld s24.heap none v24) fun v26=>k25 v26 s24) fun v27 s27=>gO v21 false s27 (fun k28=>oM (vOff 1 v1.1) fun v29=>k28 v29 s27) fun v30 s30=>gO v21 false s30 (fun k31=>oM (ld s30.heap none v30) fun v32=>k31 v32 s30) fun v33 s33=>gO v21 false s33 (fun k34=>oM (evBin .add v33 (.int .i64 1)) fun v35=>k34 v35 s33) fun v36 s36=>gO v21 false s36 (fun k37=>VC E F_fq42 [v27,v36,(.int .i64 500)] s36 fun v38 s39=>k37 v38 s39) fun v40 s40=>gO v21 false s40 (fun k41=>oM (evUn .not v40) fun v42=>k41 v42 s40) fun v43 s43=>oM (vPick v21 (.bool true) v43) fun v44=>Q .ret [v44,v44,v21,v27] s43):=by kernel_rfl
theorem fq53.enter {k:Nat} {b:Option Nat} {K:AV→St→Prop} (h:WC ⟨prog,k,some s.heap.length⟩ fq53.n0 [a,c,.undef,.undef,.undef,.undef] { s with leak:=false } (RK s.heap.length s.leak fq53.res K)):VC ⟨prog,k + 1,b⟩ F_fq53 [a,c] s K:=VC_ra (P:=prog) (F':=fq53.fn) rfl fq53.ra fq53.ul rfl h
theorem fq53.ret {n:Nat} {lk:Bool} {K:AV→St→Prop}:RK n lk fq53.res K .ret [a,c,d,f,g,i] s=(K (leave n lk [⟨2,none,none⟩] [d] s).1 (leave n lk [⟨2,none,none⟩] [d] s).2):=by kernel_rfl
theorem fq53.n0_w:WC E fq53.n0 [a,c,d,f,g,i] s Q=(oM (vLen false a) fun v1=>(sK (WC E (.block 0 fq53.n1)) (sK (WC E fq53.n7) Q)) .normal [a,c,(.int .i64 0),(.int .i64 0),v1,i] s):=by kernel_rfl
theorem fq53.n2_w:WC E fq53.n2 [a,c,d,f,g,i] s Q=(oM (evBin .lss f g) fun v1=>cM v1 ((sK (WC E fq53.n4) Q) .normal [a,c,d,f,g,v1] s) ((sK (WC E fq53.n4) Q) (.exit 0) [a,c,d,f,g,v1] s)):=by kernel_rfl
theorem fq53.n4_w:WC E fq53.n4 [a,c,d,f,g,i] s Q=(oM (vIaddr s.heap 3 none a f) fun v1=>oM (ld s.heap (some 3) v1) fun v2=>VV E c [v2] s fun v3 s4=>cM v3 (WC E fq53.n5 [a,c,d,f,g,v3] s4 (bK 1 (sK (WC E fq53.n6) Q))) ((bK 1 (sK (WC E fq53.n6) Q)) .normal [a,c,d,f,g,v3] s4)):=by kernel_rfl
theorem fq53.n5_w:WC E fq53.n5 [a,c,d,f,g,i] s Q=(Q .ret [a,c,f,f,g,i] s):=by kernel_rfl
theorem fq53.n6_w:WC E fq53.n6 [a,c,d,f,g,i] s Q=(oM (evBin .add f (.int .i64 1)) fun v1=>Q .normal [a,c,d,v1,g,v1] s):=by kernel_rfl
theorem fq53.n7_w:WC E fq53.n7 [a,c,d,f,g,i] s Q=(Q .ret [a,c,(.int .i64 (-1)),f,g,i] s):=by kernel_rfl
def fq53.n1_J (a c g:AV) (I:Nat→AV→St→Prop) (m:Nat) (ρ:Regs) (s:St):Prop:=∃ d f i:AV,ρ=[a,c,d,f,g,i]∧I m f s
theorem fq53.n1_go {I:Nat→AV→St→Prop} {m m':Nat} (hm:m' < m) (h:I m' f s):LK (fq53.n1_J a c g I) m Q .normal [a,c,d,f,g,i] s:=⟨m',hm,_,_,_,rfl,h⟩
theorem fq53.n1_l (I:Nat→AV→St→Prop) (m:Nat) (hm:m < E.k) (h0:I m f s) (step:∀ (m:Nat) (d f i:AV) (s:St),I m f s→WC E fq53.n2 [a,c,d,f,g,i] s (LK (fq53.n1_J a c g I) m Q)):WC E fq53.n1 [a,c,d,f,g,i] s Q:=WC_loop (J:=fq53.n1_J a c g I) m hm ⟨_,_,_,rfl,h0⟩ (fun m ρ s ⟨d,f,i,e,h⟩=>by rw [e]; exact step m d f i s h)
end Go.Proofs.YtcebebhaahpoiaaDoor
end
section
namespace Go.W
open Go Go.Ai
set_option linter.unusedSectionVars false
structure KeyE {κ:Type} [DecidableEq κ] (sh:Sh) (ek:κ→AV):Prop where
  keq:∀ a b,keqL (ek a).cells (ek b).cells=decide (a=b)
  sh:∀ a,hasSh sh (ek a)=true
section
variable {κ:Type} [DecidableEq κ] {sh:Sh} {ek:κ→AV}
def encE (ek:κ→AV) (l:List (κ × AV)):List (AV × AV):=l.map fun p=>(ek p.1,p.2)
def lkp:List (κ × AV)→κ→Option AV
  | [],_=>none
  | (a,v) :: r,k=>if k=a then some v else lkp r k
def ins:List (κ × AV)→κ→AV→List (κ × AV)
  | [],k,v=>[(k,v)]
  | (a,w) :: r,k,v=>if k=a then (k,v) :: r else (a,w) :: ins r k v
theorem find_enc (he:KeyE sh ek) (k:κ):∀ (l:List (κ × AV)) (i:Nat),(findE (ek k) (encE ek l) i).map (·.2)=lkp l k
  | [],_=>rfl
  | (a,v) :: r,i=>by
    simp only [encE,List.map_cons,findE,he.keq,decide_eq_true_eq,lkp]
    by_cases h:k=a
    · simp [h]
    · simp only [h,if_false]; exact find_enc he k r (i + 1)
theorem find_pos (he:KeyE sh ek) (k:κ):∀ (l:List (κ × AV)) (i:Nat),match findE (ek k) (encE ek l) i with
    | some q=>i≤q.1∧∀ v,(encE ek l).set (q.1 - i) (ek k,v)=encE ek (ins l k v)
    | none=>∀ v,encE ek l ++ [(ek k,v)]=encE ek (ins l k v)
  | [],i=>by simp [encE,findE,ins]
  | (a, w) :: r,i=>by
    have ih:=find_pos he k r (i + 1)
    have e:findE (ek k) (encE ek ((a,w) :: r)) i=if k=a then some (i,w) else findE (ek k) (encE ek r) (i + 1):=by simp [encE,findE,he.keq]
    rw [e]
    by_cases h:k=a
    · simp [h,ins,encE]
    · simp only [h,if_false,ins]
      cases hq:findE (ek k) (encE ek r) (i + 1) with
      | some q =>
        rw [hq] at ih
        dsimp only at ih ⊢
        refine ⟨by omega,fun v=>?_⟩
        have h2:=ih.2 v
        rw [show q.1 - i=(q.1 - (i + 1)) + 1 by omega]
        simp only [encE,List.map_cons,List.set_cons_succ] at h2 ⊢
        rw [h2]
      | none =>
        rw [hq] at ih
        dsimp only at ih ⊢
        intro v
        have h2:=ih v
        simp only [encE,List.map_cons,List.cons_append] at h2 ⊢
        rw [h2]
theorem put_enc (he:KeyE sh ek) (l:List (κ × AV)) (k:κ) (v:AV):putE (ek k) v (encE ek l)=encE ek (ins l k v):=by
  have:=find_pos he k l 0
  unfold putE
  split at this
  · rename_i q hq
    simp only [hq]
    have h2:=this.2 v
    rw [Nat.sub_zero] at h2
    exact h2
  · rename_i hq
    simp only [hq]
    exact this v
theorem lkp_ins (l:List (κ × AV)) (k k':κ) (v:AV):lkp (ins l k v) k'=if k'=k then some v else lkp l k':=by
  induction l with
  | nil=>simp [ins,lkp]
  | cons p r ih =>
    obtain ⟨a,w⟩:=p
    simp only [ins]
    by_cases h:k=a
    · subst h
      simp only [if_true,lkp]
      split <;> rfl
    · simp only [h,if_false,lkp,ih]
      by_cases h2:k'=a
      · have:¬ k'=k:=fun e=>h (by rw [← e,h2])
        simp [h2]
        intro e; exact absurd e.symm h
      · simp [h2]
structure MapAt (H:List AObj) (c:Nat) (sh:Sh) (ek:κ→AV) (l:List (κ × AV)):Prop where
  how:∃ ver,H[c]?=some (.map sh ver (encE ek l))
theorem shb {s:Sh}:s.beq s=true:=by
  obtain ⟨a,ks⟩:=s
  have:∀ ks:List KS,beqKS ks ks=true:=by
    intro ks
    induction ks with
    | nil=>rfl
    | cons k ks ih=>simp only [beqKS,ih,Bool.and_true]; cases k <;> simp [KS.beq]
  simp [Sh.beq,this]
theorem look_at (he:KeyE sh ek) {H:List AObj} {c:Nat} {l:List (κ × AV)} (hm:MapAt H c sh ek l) {zero:AV} {ok:Bool} (k:κ) :
    vLook H sh zero ok (.map c) (ek k)=some (if ok then .tup [(lkp l k).getD zero,.bool (lkp l k).isSome] else (lkp l k).getD zero):=by
  obtain ⟨ver,hv⟩:=hm.how
  have hf:=find_enc he k l 0
  simp only [vLook,he.sh,if_true,mapSh,hv,shb,Option.bind_some]
  cases hq:findE (ek k) (encE ek l) 0 with
  | none=>rw [hq] at hf; simp only [Option.map_none] at hf; rw [← hf]; rfl
  | some q=>rw [hq] at hf; simp only [Option.map_some] at hf; rw [← hf]; rfl
theorem upd_at (he:KeyE sh ek) {H:List AObj} {c:Nat} {l:List (κ × AV)} {ver:Nat} (hv:H[c]?=some (.map sh ver (encE ek l))) {base:Option Nat} {lk:Bool} (k:κ) {v:AV} (hc:v.clean=true) :
    eMupd base ⟨H,lk⟩ sh (.map c) (ek k) v=some ⟨H.set c (.map sh (ver + 1) (encE ek (ins l k v))),lk⟩:=by
  simp only [eMupd,hv,shb,he.sh,Bool.and_self,if_true,put_enc he]
  rw [lk_clean (by simp [cleanL,hc]),Bool.or_false]
theorem MapAt.app {H:List AObj} {c:Nat} {l:List (κ × AV)} (h:MapAt H c sh ek l) {L:List AObj}:MapAt (H ++ L) c sh ek l:=by
  obtain ⟨ver,hv⟩:=h.how
  exact ⟨ver,get_app hv⟩
theorem MapAt.lt {H:List AObj} {c:Nat} {l:List (κ × AV)} (h:MapAt H c sh ek l):c < H.length:=by
  obtain ⟨ver,hv⟩:=h.how
  exact (List.getElem?_eq_some_iff.1 hv).1
end
abbrev uvn (n:Nat):AV:=.int .u64 n
theorem key_uv:KeyE ⟨false,[.int .u64]⟩ uvn:=⟨fun a b=>by simp [AV.cells,keqL]; exact Bool.eq_iff_iff.2 (by simp; omega),fun a=>by simp [hasSh,fits]⟩
abbrev ev2 (p:Int × Int):AV:=.agg [iv p.1,iv p.2]
theorem key_iv2:KeyE ⟨true,[.int .i64,.int .i64]⟩ ev2 :=
  ⟨fun a b=>by simp [AV.cells,keqL]; exact Bool.eq_iff_iff.2 (by simp [Prod.ext_iff]),fun a=>by simp [hasSh,fits]⟩
theorem VN_it {b m ver:Nat} {s:St} {rest:List (AV × AV)} {lst:Option (AV × AV)} {sh:Sh} {es:List (AV × AV)} {K:AV→St→Prop} (h1:s.heap[b]?=some (.iter m ver rest lst)) (h2:s.heap[m]?=some (.map sh ver es))
    (h0:rest=[]→K (.tup [.bool false]) s) (h3:∀ i k v,rest[i]?=some (k,v)→K (.tup [.bool true,k,v]) ⟨s.heap.set b (.iter m ver (rest.eraseIdx i) (some (k,v))),s.leak⟩):VN (.iter b) s K:=by
  simp only [VN,h1,h2]
  exact ⟨trivial,h0,h3⟩
theorem rng_at {H:List AObj} {lk:Bool} {c ver:Nat} {sh:Sh} {es:List (AV × AV)} (h:H[c]?=some (.map sh ver es)):eRange ⟨H,lk⟩ (.map c)=some (.iter H.length,⟨H ++ [.iter c ver es none],lk⟩):=by
  simp only [eRange,h,push]
theorem ent_at {H:List AObj} {b m ver:Nat} {rest:List (AV × AV)} {k v:AV} {sh:Sh} {es:List (AV × AV)} (h1:H[b]?=some (.iter m ver rest (some (k,v)))) (h2:H[m]?=some (.map sh ver es)):vEntry H (.iter b)=some (.tup [k,v]):=by
  simp only [vEntry,h1,h2,if_true]
end Go.W
end
section
namespace Go.W
open Go Go.Ai
set_option linter.unusedVariables false
def RF (l:Nat) (ρ:Regs) (Q:AExit→Regs→St→Prop) (s:St):Prop:=match s.heap[l]? with
  | some (.loop ρ' ps x y true none)=>Q .normal ρ { s with heap:=s.heap.set l (.loop ρ' ps x y false none) }
  | some (.loop ρ' ps x y r (some .ret))=>Q .ret ρ { s with heap:=s.heap.set l (.loop ρ' ps x y false (some .ret)) }
  | some (.loop ρ' ps x y r (some (.exit id)))=>Q (.exit id) ρ { s with heap:=s.heap.set l (.loop ρ' ps x y false (some (.exit id))) }
  | _=>False
theorem WC_rf {E:Env} {g:AOpd} {ps:List Nat} {assign body:ACode} {ρ:Regs} {s:St} {Q:AExit→Regs→St→Prop} {f:FuncId} {caps:List AV} (hg:g.ev ρ=.fn f caps)
    (h:VC E f (.yield s.heap.length :: caps) { s with heap:=s.heap ++ [.loop ρ ps assign body true none] } fun _ s'=>RF s.heap.length ρ Q s'):WC E (.rangeF g ps assign body) ρ s Q:=by
  unfold WC
  simp only [evCode,hg]
  unfold VC at h
  refine Res.All.bind.2 (Res.All.mono (fun r hr=>?_) h)
  obtain ⟨v,s'⟩:=r
  cases v with
  | panic v=>exact hr.elim
  | val v =>
    dsimp only at hr ⊢
    unfold RF at hr
    split at hr
    · rename_i e; rw [e]; exact hr
    · rename_i r e; rw [e]; cases r <;> exact hr
    · rename_i r id e; rw [e]; cases r <;> exact hr
    · exact hr.elim
theorem lv_t {n:Nat} {lk:Bool} {rs:List ARes} {vs:List AV} {H:List AObj}:leave n lk rs vs ⟨H,true⟩=(packR vs,⟨H,true⟩):=by
  simp [leave]
theorem RK_n {n:Nat} {lk:Bool} {rs:List ARes} {Q:AV→St→Prop} {ρ:Regs} {s:St}:RK n lk rs Q .normal ρ s=RK n lk rs Q .ret ρ s:=rfl
theorem RK_r {n:Nat} {lk:Bool} {rs:List ARes} {Q:AV→St→Prop} {ρ:Regs} {s:St}:RK n lk rs Q .ret ρ s=oM (resultsOf ρ s.heap rs) fun vs=>Q (leave n lk rs vs s).1 (leave n lk rs vs s).2:=rfl
def YK (l:Nat) (ρ:Regs) (ps:List Nat) (assign body:ACode) (K:AV→St→Prop):AExit→Regs→St→Prop
  | .normal,_,s=>K (.bool true) { s with heap:=s.heap.set l (.loop ρ ps assign body true none) }
  | .ret,_,s=>K (.bool false) { s with heap:=s.heap.set l (.loop ρ ps assign body false (some .ret)) }
  | .exit id,_,s=>K (.bool false) { s with heap:=s.heap.set l (.loop ρ ps assign body false (some (.exit id))) }
  | .panic _,_,_=>False
theorem YC_go {P:AProg} {k:Nat} {b:Option Nat} {l:Nat} {args:List AV} {s:St} {K:AV→St→Prop} {ρ:Regs} {ps:List Nat} {assign body:ACode} {j:Option Jump}
    (hl:s.heap[l]?=some (.loop ρ ps assign body true j)) (hn:args.length=ps.length)
    (h:WC ⟨P,k,none⟩ assign ((ps.zip args).foldl (fun ρ p=>ρ.set p.1 p.2) ρ) s fun e ρ1 s1=>e=.normal∧(∃ a1 a2 a3 a4,s1.heap[l]?=some (.loop a1 a2 a3 a4 true none)) ∧
      WC ⟨P,k,none⟩ body ρ1 { s1 with heap:=s1.heap.set l (.loop ρ ps assign body false none) } (YK l ρ ps assign body K)):YC ⟨P,k + 1,b⟩ l args s K:=by
  unfold YC
  simp only [ev,hl]
  rw [if_pos hn]
  refine Res.All.bind.2 (Res.All.mono (fun r hr=>?_) (evCode_of h))
  obtain ⟨e,ρ1,s1⟩:=r
  obtain ⟨h1,⟨a1,a2,a3,a4,h2⟩,h3⟩:=hr
  dsimp only at h1 h2 h3
  subst h1
  dsimp only
  rw [h2]
  dsimp only
  refine Res.All.bind.2 (Res.All.mono (fun r hr=>?_) (evCode_of h3))
  obtain ⟨e,ρ2,s2⟩:=r
  cases e with
  | normal=>exact hr
  | ret=>exact hr
  | exit id=>exact hr
  | panic v=>exact hr.elim
theorem VV_y {E:Env} {l args s} {K:AV→St→Prop}:VV E (.yield l) args s K=YC E l args s K:=rfl
theorem WC_lp {E:Env} {b:ACode} {ρ s Q}:WC E (.loop b) ρ s Q=wLoop (WC E b) E.k ρ s Q:=rfl
theorem wl_s {W:Regs→St→(AExit→Regs→St→Prop)→Prop} {n ρ s Q}:wLoop W (n + 1) ρ s Q=W ρ s (sK (wLoop W n) Q):=rfl
theorem idx_0 {n:Nat} {k:IntKind}:idxOf n (.int k 0)=if 0 < n then some 0 else none:=by have:=idx_i (k:=k) (n:=n) (i:=0); exact this
theorem idx_1 {n:Nat} {k:IntKind}:idxOf n (.int k 1)=if 1 < n then some 1 else none:=by have:=idx_i (k:=k) (n:=n) (i:=1); exact this
theorem idx_2 {n:Nat} {k:IntKind}:idxOf n (.int k 2)=if 2 < n then some 2 else none:=by have:=idx_i (k:=k) (n:=n) (i:=2); exact this
theorem idx_3 {n:Nat} {k:IntKind}:idxOf n (.int k 3)=if 3 < n then some 3 else none:=by have:=idx_i (k:=k) (n:=n) (i:=3); exact this
theorem zero_lt_s {n:Nat}:(0 < n + 1)=True:=by simp
theorem lkL {base:Option Nat} {b:Nat} {vs:List AV} (h:cleanL vs=true):leaks base b vs=false:=by cases base <;> simp [leaks,h]
theorem lkN {b:Nat} {vs:List AV}:leaks none b vs=!cleanL vs:=rfl
theorem wl_1 {W:Regs→St→(AExit→Regs→St→Prop)→Prop} {n ρ s Q} (h:0 < n):wLoop W n ρ s Q=W ρ s (sK (wLoop W (n - 1)) Q):=by
  obtain ⟨n,rfl⟩:∃ j,n=j + 1:=⟨n - 1,by omega⟩
  rfl
end Go.W
end
section
namespace Go.W
open Go Go.Ai
set_option linter.unusedVariables false
set_option maxRecDepth 10000
theorem sw0:type_of% (And.intro (@oM_s) (And.intro (@oM_n) (And.intro (@oM_if) (And.intro (@oM_b) (And.intro (@sK_n) (And.intro (@sK_e) (And.intro (@sK_r) (And.intro (@bK_n) (And.intro (@bK_e) (And.intro (@bK_r) (And.intro (@LK_e) (And.intro (@LK_r) (And.intro (@cM_b) (And.intro (@WC_block) (And.intro (@WC_seq) (And.intro (@WC_skip) (And.intro (@WC_exit) (And.intro (@WC_ret) (And.intro (@gO_t) (And.intro (@gO_f) (And.intro (@gO_t') (And.intro (@gO_f') (And.intro (@vPick_t) (And.intro (@vPick_f) (And.intro (@VV_fn) (And.intro (@b_add) (And.intro (@b_sub) (And.intro (@b_mul) (And.intro (@b_quo) (And.intro (@b_rem) (And.intro (@b_and) (@b_or)))))))))))))))))))))))))))))))):=(And.intro (@oM_s) (And.intro (@oM_n) (And.intro (@oM_if) (And.intro (@oM_b) (And.intro (@sK_n) (And.intro (@sK_e) (And.intro (@sK_r) (And.intro (@bK_n) (And.intro (@bK_e) (And.intro (@bK_r) (And.intro (@LK_e) (And.intro (@LK_r) (And.intro (@cM_b) (And.intro (@WC_block) (And.intro (@WC_seq) (And.intro (@WC_skip) (And.intro (@WC_exit) (And.intro (@WC_ret) (And.intro (@gO_t) (And.intro (@gO_f) (And.intro (@gO_t') (And.intro (@gO_f') (And.intro (@vPick_t) (And.intro (@vPick_f) (And.intro (@VV_fn) (And.intro (@b_add) (And.intro (@b_sub) (And.intro (@b_mul) (And.intro (@b_quo) (And.intro (@b_rem) (And.intro (@b_and) (@b_or))))))))))))))))))))))))))))))))
theorem sw1:type_of% (And.intro (@b_andNot) (And.intro (@b_shl) (And.intro (@b_shr) (And.intro (@b_eql) (And.intro (@b_neq) (And.intro (@b_lss) (And.intro (@b_leq) (And.intro (@b_gtr) (And.intro (@b_geq) (And.intro (@u_not) (And.intro (@u_neg) (And.intro (@m_nil) (And.intro (@m_max) (And.intro (@m_min) (And.intro (@conv_i) (And.intro (@len_slice) (And.intro (@len_sref) (And.intro (@ext_t) (And.intro (@off_p) (And.intro (@off_v) (And.intro (@fld_a) (And.intro (@rdc_n) (And.intro (@rdc_s) (And.intro (@ld_p) (And.intro (@ld_v) (And.intro (@iaddr_slice) (And.intro (@iaddr_sref) (And.intro (@iaddr_arr) (And.intro (@iaddr_varr) (And.intro (@idx_i) (And.intro (@push_mk) (@cells_agg)))))))))))))))))))))))))))))))):=(And.intro (@b_andNot) (And.intro (@b_shl) (And.intro (@b_shr) (And.intro (@b_eql) (And.intro (@b_neq) (And.intro (@b_lss) (And.intro (@b_leq) (And.intro (@b_gtr) (And.intro (@b_geq) (And.intro (@u_not) (And.intro (@u_neg) (And.intro (@m_nil) (And.intro (@m_max) (And.intro (@m_min) (And.intro (@conv_i) (And.intro (@len_slice) (And.intro (@len_sref) (And.intro (@ext_t) (And.intro (@off_p) (And.intro (@off_v) (And.intro (@fld_a) (And.intro (@rdc_n) (And.intro (@rdc_s) (And.intro (@ld_p) (And.intro (@ld_v) (And.intro (@iaddr_slice) (And.intro (@iaddr_sref) (And.intro (@iaddr_arr) (And.intro (@iaddr_varr) (And.intro (@idx_i) (And.intro (@push_mk) (@cells_agg))))))))))))))))))))))))))))))))
theorem sw2:type_of% (And.intro (@cells_int) (And.intro (@cells_bool) (And.intro (@cells_sref) (And.intro (@cells_ptr) (And.intro (@cells_np) (And.intro (@cells_slice) (And.intro (@cells_map) (And.intro (@cells_fn) (And.intro (@one_np) (And.intro (@one_fn) (And.intro (@decide_eq_true_eq) (And.intro (@decide_true) (And.intro (@decide_false) (And.intro (@Bool.not_eq_true') (And.intro (@decide_eq_false_iff_not) (And.intro (@if_true.{1}) (And.intro (@if_false.{1}) (And.intro (@Bool.false_eq_true) (And.intro (@List.cons_append.{0}) (And.intro (@List.nil_append.{0}) (And.intro (@List.append_assoc.{0}) (And.intro (@List.getElem?_cons_zero.{0}) (And.intro (@List.getElem?_cons_succ.{0}) (And.intro (@row_end) (And.intro (@row_end0) (And.intro (@row_cons) (And.intro (@row_hd) (And.intro (@List.length_append.{0}) (And.intro (@List.length_cons.{0}) (And.intro (@List.length_nil.{0}) (And.intro (@Nat.zero_add) (@Option.bind_some.{0,0})))))))))))))))))))))))))))))))):=(And.intro (@cells_int) (And.intro (@cells_bool) (And.intro (@cells_sref) (And.intro (@cells_ptr) (And.intro (@cells_np) (And.intro (@cells_slice) (And.intro (@cells_map) (And.intro (@cells_fn) (And.intro (@one_np) (And.intro (@one_fn) (And.intro (@decide_eq_true_eq) (And.intro (@decide_true) (And.intro (@decide_false) (And.intro (@Bool.not_eq_true') (And.intro (@decide_eq_false_iff_not) (And.intro (@if_true.{1}) (And.intro (@if_false.{1}) (And.intro (@Bool.false_eq_true) (And.intro (@List.cons_append.{0}) (And.intro (@List.nil_append.{0}) (And.intro (@List.append_assoc.{0}) (And.intro (@List.getElem?_cons_zero.{0}) (And.intro (@List.getElem?_cons_succ.{0}) (And.intro (@row_end) (And.intro (@row_end0) (And.intro (@row_cons) (And.intro (@row_hd) (And.intro (@List.length_append.{0}) (And.intro (@List.length_cons.{0}) (And.intro (@List.length_nil.{0}) (And.intro (@Nat.zero_add) (@Option.bind_some.{0,0}))))))))))))))))))))))))))))))))
theorem sw3:type_of% (And.intro (@Option.bind_none.{0,0}) (And.intro (@List.append_nil.{0}) (And.intro (@get_end) (And.intro (@get_end0) (And.intro (@set_end) (And.intro (@set_end0) (And.intro (@Nat.add_zero) (And.intro (@List.set_cons_zero.{0}) (And.intro (@List.set_cons_succ.{0}) (And.intro (@lv_def) (And.intro (@fz_nil) (And.intro (@fz_none) (And.intro (@fz_some) (And.intro (@fz_slice) (And.intro (@fz_int) (And.intro (@ul_nil) (And.intro (@ul_cons) (And.intro (@pk_one) (And.intro (@pk_two) (And.intro (@pk_nil) (And.intro (@take_all) (And.intro (@take_app) (And.intro (@Bool.and_true) (And.intro (@Bool.and_self) (And.intro (@st_p) (And.intro (@sa_nil) (And.intro (@sa_cons) (And.intro (@lk_some) (And.intro (@nlt_add) (And.intro (@nlt_self) (And.intro (@chk_p) (@one_int)))))))))))))))))))))))))))))))):=(And.intro (@Option.bind_none.{0,0}) (And.intro (@List.append_nil.{0}) (And.intro (@get_end) (And.intro (@get_end0) (And.intro (@set_end) (And.intro (@set_end0) (And.intro (@Nat.add_zero) (And.intro (@List.set_cons_zero.{0}) (And.intro (@List.set_cons_succ.{0}) (And.intro (@lv_def) (And.intro (@fz_nil) (And.intro (@fz_none) (And.intro (@fz_some) (And.intro (@fz_slice) (And.intro (@fz_int) (And.intro (@ul_nil) (And.intro (@ul_cons) (And.intro (@pk_one) (And.intro (@pk_two) (And.intro (@pk_nil) (And.intro (@take_all) (And.intro (@take_app) (And.intro (@Bool.and_true) (And.intro (@Bool.and_self) (And.intro (@st_p) (And.intro (@sa_nil) (And.intro (@sa_cons) (And.intro (@lk_some) (And.intro (@nlt_add) (And.intro (@nlt_self) (And.intro (@chk_p) (@one_int))))))))))))))))))))))))))))))))
theorem sw4:type_of% (And.intro (@one_bool) (And.intro (@one_slice) (And.intro (@one_map) (And.intro (@one_sref) (And.intro (@one_ptr) (And.intro (@cl_int) (And.intro (@cl_bool) (And.intro (@cl_slice) (And.intro (@cl_map) (And.intro (@cl_sref) (And.intro (@cl_ptr) (And.intro (@cl_nil) (And.intro (@cl_cons) (And.intro (@ck_z) (And.intro (@ck_s) (And.intro (@bx) (And.intro (@fl_nil) (And.intro (@fl_cons) (And.intro (@lit_def) (And.intro (@List.all_cons.{0}) (And.intro (@List.all_nil.{0}) (And.intro (@Bool.or_false) (And.intro (@Bool.false_or) (And.intro (@Bool.and_false) (And.intro (@Bool.true_and) (And.intro (@Bool.true_or) (And.intro (@Bool.or_true) (And.intro (@Bool.or_self) (And.intro (@Bool.false_and) (And.intro (@Bool.not_true) (And.intro (@Bool.not_false) (@Nat.le_refl)))))))))))))))))))))))))))))))):=(And.intro (@one_bool) (And.intro (@one_slice) (And.intro (@one_map) (And.intro (@one_sref) (And.intro (@one_ptr) (And.intro (@cl_int) (And.intro (@cl_bool) (And.intro (@cl_slice) (And.intro (@cl_map) (And.intro (@cl_sref) (And.intro (@cl_ptr) (And.intro (@cl_nil) (And.intro (@cl_cons) (And.intro (@ck_z) (And.intro (@ck_s) (And.intro (@bx) (And.intro (@fl_nil) (And.intro (@fl_cons) (And.intro (@lit_def) (And.intro (@List.all_cons.{0}) (And.intro (@List.all_nil.{0}) (And.intro (@Bool.or_false) (And.intro (@Bool.false_or) (And.intro (@Bool.and_false) (And.intro (@Bool.true_and) (And.intro (@Bool.true_or) (And.intro (@Bool.or_true) (And.intro (@Bool.or_self) (And.intro (@Bool.false_and) (And.intro (@Bool.not_true) (And.intro (@Bool.not_false) (@Nat.le_refl))))))))))))))))))))))))))))))))
theorem sw5:type_of% (And.intro (@and_self) (And.intro (@List.take_succ_cons.{0}) (And.intro (@List.take_zero.{0}) (And.intro (@List.drop_succ_cons.{0}) (And.intro (@List.drop_zero.{0}) (And.intro (@under_int) (And.intro (@under_bool) (And.intro (@under_slice) (And.intro (@under_np) (And.intro (@eq_self.{1}) (And.intro (@ck_nl) (And.intro (@ck_ni) (And.intro (@ck_aa) (And.intro (@ckA_nil) (And.intro (@ckA_cons) (And.intro (@ck_ld) (And.intro (@ck_ia) (And.intro (@ev_r) (And.intro (@ev_c) (And.intro (@List.getD_cons_zero.{0}) (And.intro (@List.getD_cons_succ.{0}) (And.intro (@Option.some.injEq.{0}) (And.intro (@and_true) (And.intro (@true_and) (And.intro (@not_false_eq_true) (@not_true_eq_false)))))))))))))))))))))))))):=(And.intro (@and_self) (And.intro (@List.take_succ_cons.{0}) (And.intro (@List.take_zero.{0}) (And.intro (@List.drop_succ_cons.{0}) (And.intro (@List.drop_zero.{0}) (And.intro (@under_int) (And.intro (@under_bool) (And.intro (@under_slice) (And.intro (@under_np) (And.intro (@eq_self.{1}) (And.intro (@ck_nl) (And.intro (@ck_ni) (And.intro (@ck_aa) (And.intro (@ckA_nil) (And.intro (@ckA_cons) (And.intro (@ck_ld) (And.intro (@ck_ia) (And.intro (@ev_r) (And.intro (@ev_c) (And.intro (@List.getD_cons_zero.{0}) (And.intro (@List.getD_cons_succ.{0}) (And.intro (@Option.some.injEq.{0}) (And.intro (@and_true) (And.intro (@true_and) (And.intro (@not_false_eq_true) (@not_true_eq_false))))))))))))))))))))))))))
theorem dw0:type_of% (And.intro (@wrap64) (And.intro (@Int.cast_ofNat_Int) (And.intro (@Int.natCast_zero) (And.intro (@Int.natCast_one) (And.intro (@idx_0) (And.intro (@idx_1) (And.intro (@idx_2) (And.intro (@idx_3) (And.intro (@List.length_set.{0}) (And.intro (@Nat.lt_irrefl) (And.intro (@ge_iff_le.{0}) (And.intro (@gt_iff_lt.{0}) (And.intro (@Nat.mul_one) (And.intro (@Nat.zero_mul) (And.intro (@Int.add_zero) (And.intro (@Int.zero_add) (And.intro (@zero_lt_s) (@ne_eq.{1})))))))))))))))))):=(And.intro (@wrap64) (And.intro (@Int.cast_ofNat_Int) (And.intro (@Int.natCast_zero) (And.intro (@Int.natCast_one) (And.intro (@idx_0) (And.intro (@idx_1) (And.intro (@idx_2) (And.intro (@idx_3) (And.intro (@List.length_set.{0}) (And.intro (@Nat.lt_irrefl) (And.intro (@ge_iff_le.{0}) (And.intro (@gt_iff_lt.{0}) (And.intro (@Nat.mul_one) (And.intro (@Nat.zero_mul) (And.intro (@Int.add_zero) (And.intro (@Int.zero_add) (And.intro (@zero_lt_s) (@ne_eq.{1}))))))))))))))))))
theorem xw0:type_of% (And.intro (@beq_self_eq_true.{0}) (And.intro (@Option.isSome_some.{0}) (And.intro (@Option.isSome_none.{0}) (And.intro (@List.flatten_cons.{0}) (And.intro (@List.flatten_nil.{0}) (And.intro (@iaddr_slice) (And.intro (@List.replicate_succ.{0}) (And.intro (@List.replicate_zero.{0}) (And.intro (@Bool.not_not) (And.intro (@Bool.decide_eq_true) (And.intro (@Nat.add_one_sub_one) (And.intro (@Nat.add_eq_zero_iff) (And.intro (@Nat.one_ne_zero) (And.intro (@and_false) (And.intro (@false_and) (And.intro (@or_true) (And.intro (@true_or) (And.intro (@or_false) (And.intro (@false_or) (And.intro (@lk_end) (And.intro (@lk_end0) (And.intro (@VV_y) (And.intro (@VV_fn) (And.intro (@lv_t) (And.intro (@RK_n) (And.intro (@List.zip_cons_cons.{0,0}) (And.intro (@List.zip_nil_left.{0,0}) (And.intro (@List.foldl_cons.{0,0}) (And.intro (@List.foldl_nil.{0,0}) (And.intro (@Nat.add_assoc) (And.intro (@Nat.lt_add_right_iff_pos) (@List.take_append_of_le_length.{0})))))))))))))))))))))))))))))))):=(And.intro (@beq_self_eq_true.{0}) (And.intro (@Option.isSome_some.{0}) (And.intro (@Option.isSome_none.{0}) (And.intro (@List.flatten_cons.{0}) (And.intro (@List.flatten_nil.{0}) (And.intro (@iaddr_slice) (And.intro (@List.replicate_succ.{0}) (And.intro (@List.replicate_zero.{0}) (And.intro (@Bool.not_not) (And.intro (@Bool.decide_eq_true) (And.intro (@Nat.add_one_sub_one) (And.intro (@Nat.add_eq_zero_iff) (And.intro (@Nat.one_ne_zero) (And.intro (@and_false) (And.intro (@false_and) (And.intro (@or_true) (And.intro (@true_or) (And.intro (@or_false) (And.intro (@false_or) (And.intro (@lk_end) (And.intro (@lk_end0) (And.intro (@VV_y) (And.intro (@VV_fn) (And.intro (@lv_t) (And.intro (@RK_n) (And.intro (@List.zip_cons_cons.{0,0}) (And.intro (@List.zip_nil_left.{0,0}) (And.intro (@List.foldl_cons.{0,0}) (And.intro (@List.foldl_nil.{0,0}) (And.intro (@Nat.add_assoc) (And.intro (@Nat.lt_add_right_iff_pos) (@List.take_append_of_le_length.{0}))))))))))))))))))))))))))))))))
end Go.W
end
section
namespace Go.W
open Go Go.Ai
set_option linter.unusedSectionVars false
set_option linter.unusedVariables false
set_option linter.unusedSimpArgs false
section
variable {α:Type} {n:Nat} {f:α→List AV} {xs ys:List α} {H H' X:List AObj} {lk:Bool} {v y:AV}
theorem flat_take (hf:∀ x,(f x).length=n):∀ (xs:List α) (i:Nat),((xs.take i).map f).flatten=(xs.map f).flatten.take (i * n)
  | [],i=>by simp
  | x :: xs,0=>by simp
  | x :: xs,i + 1=>by
    simp only [List.take_succ_cons,List.map_cons,List.flatten_cons,flat_take hf xs i]
    rw [show (i + 1) * n=(f x).length + i * n by rw [hf,Nat.add_mul]; omega,List.take_length_add_append]
theorem flat_drop (hf:∀ x,(f x).length=n):∀ (xs:List α) (i:Nat),((xs.drop i).map f).flatten=(xs.map f).flatten.drop (i * n)
  | [],i=>by simp
  | x :: xs,0=>by simp
  | x :: xs,i + 1=>by
    simp only [List.drop_succ_cons,List.map_cons,List.flatten_cons,flat_drop hf xs i]
    rw [show (i + 1) * n=(f x).length + i * n by rw [hf,Nat.add_mul]; omega,List.drop_length_add_append]
theorem Sl.mono (h:Sl H n f v xs) (hk:∀ (d:Nat) (cs:List AV),H[d]?=some (AObj.cells cs)→H'[d]?=some (AObj.cells cs)):Sl H' n f v xs:=by
  refine ⟨h.pos,h.size,?_⟩
  rcases h.how with ⟨fl,z,rfl,hz⟩ | ⟨b,o,ver,cs,rfl,hr,hc⟩
  · exact .inl ⟨fl,z,rfl,hz⟩
  · refine .inr ⟨b,o,ver,cs,rfl,?_,hc⟩
    unfold row at hr ⊢
    split at hr
    · rename_i c hc'
      rw [hk _ _ hc']
      exact hr
    · cases hr
theorem Sl.rowOf (h:Sl H n f v xs):Ai.rowOf H n v=some (xs.length,(xs.map f).flatten):=by
  rcases h.how with ⟨fl,z,rfl,hz⟩ | ⟨b,o,ver,cs,rfl,hr,hc⟩
  · rw [rowOf_slice,if_pos (by rcases hz with h | h <;> simp [h]),List.length_map]
  · simp only [Ai.rowOf,if_true,hr,Option.bind_some,hc]
theorem bnd_lo {m l:Nat} {k:IntKind} (h:l≤m):boundsOf m (some (.int k (l:Nat))) none=some (l,m):=by simp [boundsOf,boundOf,h]
theorem bounds_le {m l u:Nat} {lo hi:Option AV} (h:boundsOf m lo hi=some (l,u)):l≤u∧u≤m:=by
  unfold boundsOf at h
  obtain ⟨h1,e1,h⟩:=Option.bind_eq_some_iff.1 h
  obtain ⟨l1,e2,h⟩:=Option.bind_eq_some_iff.1 h
  simp only [Option.some.injEq,Prod.mk.injEq] at h
  obtain ⟨rfl,rfl⟩:=h
  have key:∀ (m:Nat) (v:AV) (r:Nat),boundOf m v=some r→r≤m:=by
    intro m v r hr
    unfold boundOf at hr
    split at hr
    · split at hr
      · simp only [Option.some.injEq] at hr; omega
      · cases hr
    · cases hr
  constructor
  · split at e2
    · exact key _ _ _ e2
    · simp only [Option.some.injEq] at e2; omega
  · split at e1
    · exact key _ _ _ e1
    · simp only [Option.some.injEq] at e1; omega
theorem Sl.slc (h:Sl H n f v xs) {lo hi:Option AV} {l u:Nat} (hb:boundsOf xs.length lo hi=some (l,u)):∃ v',vSlc H n v lo hi=some v'∧Sl H n f v' ((xs.take u).drop l):=by
  obtain ⟨b1,b2⟩:=bounds_le hb
  rcases h.how with ⟨fl,z,rfl,hz⟩ | ⟨b,o,ver,cs,rfl,hr,hc⟩
  · refine ⟨.slice (fl && decide (u=xs.length)) z (((xs.take u).drop l).map f),?_,h.pos,h.size,.inl ⟨_,z,rfl,?_⟩⟩
    · simp only [vSlc,List.length_map]
      rw [if_pos (by rcases hz with h | h <;> simp [h]),hb]
      simp [List.map_drop,List.map_take]
    · rcases hz with h | h
      · exact .inl h
      · exact .inr (by simp [h])
  · simp only [vSlc,if_true,hr,Option.bind_some,hb]
    by_cases e:l=u
    · subst e
      rw [if_pos rfl]
      refine ⟨_,rfl,?_⟩
      have:(xs.take l).drop l=[]:=by simp
      rw [this]
      exact Sl.nil h.pos h.size
    · rw [if_neg e]
      refine ⟨_,rfl,h.pos,h.size,.inr ⟨b,o + l * n,ver,cs,?_,hr,?_⟩⟩
      · have:((xs.take u).drop l).length=u - l:=by simp; omega
        rw [this]
      · have hlen:((xs.take u).drop l).length=u - l:=by simp; omega
        have h1:l * n≤u * n:=Nat.mul_le_mul_right _ b1
        have h2:u * n≤xs.length * n:=Nat.mul_le_mul_right _ b2
        have h3:(u - l) * n=u * n - l * n:=Nat.sub_mul _ _ _
        rw [hlen,flat_drop h.size,flat_take h.size,← hc]
        rw [List.take_take,List.drop_take,List.drop_drop,Nat.min_eq_left h2,h3]
def VS (n:Nat) (f:α→List AV) (v:AV) (xs:List α):Prop:=∃ fl z,v=.slice fl z (xs.map f)∧(z=n∨xs=[])
theorem VS.sl (h:VS n f v xs) (h0:0 < n) (hf:∀ x,(f x).length=n):Sl H n f v xs:=by
  obtain ⟨fl,z,rfl,hz⟩:=h
  exact ⟨h0,hf,.inl ⟨fl,z,rfl,hz⟩⟩
theorem VS.one (h:VS n f v xs):v.one=true:=by obtain ⟨fl,z,rfl,hz⟩:=h; rfl
theorem VS.clean (h:VS n f v xs):v.clean=true:=by obtain ⟨fl,z,rfl,hz⟩:=h; rfl
theorem VS.cells (h:VS n f v xs):v.cells=[v]:=by obtain ⟨fl,z,rfl,hz⟩:=h; rfl
theorem VS.under (h:VS n f v xs) {m:Nat}:v.under m=true:=by obtain ⟨fl,z,rfl,hz⟩:=h; rfl
theorem VS.fz (h:VS n f v xs) {m:Nat} {H:List AObj} {k:Nat}:frz m H k v=v:=by obtain ⟨fl,z,rfl,hz⟩:=h; rfl
theorem VS.nil {fl:Bool} {z:Nat}:VS n f (.slice fl z []) []:=⟨fl,z,rfl,.inr rfl⟩
theorem VS.mk {fl:Bool}:VS n f (.slice fl n (xs.map f)) xs:=⟨fl,n,rfl,.inl rfl⟩
structure Own (H X:List AObj) (n:Nat) (f:α→List AV) (v:AV) (xs:List α):Prop where
  pos:0 < n
  size:∀ x,(f x).length=n
  how:(∃ z,v=.slice true z (xs.map f)∧(z=n∨xs=[]))∨∃ c,v=.sref (H.length + c) 0 xs.length (xs.length * n) n∧X[c]?=some (.cells (xs.map f).flatten)
theorem Own.sl (h:Own H X n f v xs):Sl (H ++ X) n f v xs:=by
  refine ⟨h.pos,h.size,?_⟩
  rcases h.how with ⟨z,rfl,hz⟩ | ⟨c,rfl,hc⟩
  · exact .inl ⟨true,z,rfl,hz⟩
  · refine .inr ⟨H.length + c,0,xs.length * n,(xs.map f).flatten,rfl,?_,?_⟩
    · rw [row_end]; unfold row; rw [hc]; simp only [flat_len h.size,if_true]
    · rw [List.drop_zero,← flat_len h.size xs,List.take_length]
theorem Own.ext {Y:List AObj} (h:Own H X n f v xs):Own H (X ++ Y) n f v xs:=by
  refine ⟨h.pos,h.size,?_⟩
  rcases h.how with h | ⟨c,rfl,hc⟩
  · exact .inl h
  · exact .inr ⟨c,rfl,get_app hc⟩
theorem Own.pre {Y:List AObj} (h:Own (H ++ Y) X n f v xs):Own H (Y ++ X) n f v xs:=by
  refine ⟨h.pos,h.size,?_⟩
  rcases h.how with h | ⟨c,rfl,hc⟩
  · exact .inl h
  · refine .inr ⟨Y.length + c,by rw [List.length_append,Nat.add_assoc],?_⟩
    rw [get_end]; exact hc
theorem Own.nil (h0:0 < n) (hf:∀ x,(f x).length=n) {z:Nat}:Own H X n f (.slice true z []) []:=⟨h0,hf,.inl ⟨z,rfl,.inr rfl⟩⟩
theorem Own.lit (h0:0 < n) (hf:∀ x,(f x).length=n):Own H X n f (.slice true n (xs.map f)) xs:=⟨h0,hf,.inl ⟨n,rfl,.inl rfl⟩⟩
def Keep (H X X':List AObj) (v:AV):Prop:=X.length≤X'.length∧∀ c,c < X.length→(∀ o l w m,v ≠ .sref (H.length + c) o l w m)→X'[c]?=X[c]?
theorem Own.app (h:Own H X n f v xs) {bytes m:Nat} (hm:m≤H.length) (hy:Ai.rowOf (H ++ X) n y=some (ys.length,(ys.map f).flatten)) (h1:∀ x,(f x).all AV.one=true) (hz:(xs.length + ys.length) * bytes≤140737488355328) :
    ∃ v' X',eApp (some m) ⟨H ++ X,lk⟩ n bytes v y=some (v',⟨H ++ X',lk⟩)∧Own H X' n f v' (xs ++ ys)∧Keep H X X' v:=by
  have hall:∀ l:List α,(l.map f).flatten.all AV.one=true:=by
    intro l
    induction l with
    | nil=>rfl
    | cons a l ih=>simp only [List.map_cons,List.flatten_cons,List.all_append,h1 a,ih,Bool.and_self]
  by_cases hn:ys=[]
  · subst hn
    refine ⟨v,X,?_,by rw [List.append_nil]; exact h,Nat.le_refl _,fun _ _ _=>rfl⟩
    rcases h.how with ⟨z,rfl,hz'⟩ | ⟨c,rfl,hc⟩
    · simp only [eApp,hy,Option.bind_some,List.length_nil,if_true]
    · have hr:row (H ++ X) (H.length + c) (xs.length * n)=some (xs.map f).flatten:=by rw [row_end]; unfold row; rw [hc]; simp only [flat_len h.size,if_true]
      simp only [eApp,hy,Option.bind_some,List.length_nil,if_true,hr]
  · have hne:ys.length ≠ 0:=fun e=>hn (List.eq_nil_of_length_eq_zero e)
    have hfl:=flat_len h.size (xs ++ ys)
    rcases h.how with ⟨z,rfl,hz'⟩ | ⟨c,rfl,hc⟩
    · refine ⟨.sref (H.length + X.length) 0 (xs ++ ys).length ((xs ++ ys).length * n) n,X ++ [.cells ((xs ++ ys).map f).flatten],?_,⟨h.pos,h.size,.inr ⟨X.length,rfl,by simp⟩⟩,by simp,fun c hc _=>by rw [List.getElem?_append_left hc]⟩
      simp only [eApp,hy,Option.bind_some,hne,if_false,List.length_map]
      rw [if_pos ⟨trivial,by rcases hz' with h | h <;> simp [h],hz,flat_len h.size xs,flat_len h.size ys,hall xs,hall ys⟩]
      simp [push]
    · have hr:row (H ++ X) (H.length + c) (xs.length * n)=some (xs.map f).flatten:=by rw [row_end]; unfold row; rw [hc]; simp only [flat_len h.size,if_true]
      have ha:appRow (xs.map f).flatten (ys.map f).flatten (xs.length * n) (xs.length * n)=((xs ++ ys).map f).flatten:=by
        unfold appRow
        have:0 < ys.length * n:=Nat.mul_pos (by omega) h.pos
        rw [if_neg (by rw [flat_len h.size ys]; omega),← flat_len h.size xs,List.take_length]
        simp
      have hcl:c < X.length:=(List.getElem?_eq_some_iff.1 hc).1
      refine ⟨.sref (H.length + c) 0 (xs ++ ys).length ((xs ++ ys).length * n) n,X.set c (.cells ((xs ++ ys).map f).flatten),?_,⟨h.pos,h.size,.inr ⟨c,rfl,by rw [List.getElem?_set_self hcl]⟩⟩,by simp,fun d hd hv=>?_⟩
      · simp only [eApp,hy,Option.bind_some,hne,if_false,hr,ha,hfl]
        rw [if_pos ⟨trivial,trivial,hz,flat_len h.size ys,hall ys,Nat.le_refl _⟩,set_end]
        have:leaks (some m) (H.length + c) (ys.map f).flatten=false:=by simp [leaks]; omega
        rw [this,Bool.or_false,List.length_append]
      · have hdc:c ≠ d:=fun e=>by subst e; exact hv _ _ _ _ rfl
        rw [List.getElem?_set_ne hdc]
theorem Own.fz (h:Own H X n f v xs) {m:Nat} (hm:m≤H.length) (hc:∀ x,cleanL (f x)=true):VS n f (frz m (H ++ X) n v) xs:=by
  rcases h.how with ⟨z,rfl,hz⟩ | ⟨c,rfl,hx⟩
  · exact ⟨true,z,rfl,hz⟩
  · rw [fz_own h.pos h.size hc rfl (by rw [row_end]; unfold row; rw [hx]; simp only [flat_len h.size,if_true]) (by omega)]
    exact VS.mk
theorem Own.keep {Y:List AObj} {u:AV} (h:Own H X n f v xs) (hk:Keep H X Y u) (hne:∀ c o l w m o' l' w' m',v=.sref c o l w m→u ≠ .sref c o' l' w' m'):Own H Y n f v xs:=by
  refine ⟨h.pos,h.size,?_⟩
  rcases h.how with ⟨z,rfl,hz⟩ | ⟨c,rfl,hx⟩
  · exact .inl ⟨z,rfl,hz⟩
  · refine .inr ⟨c,rfl,?_⟩
    rw [hk.2 c (List.getElem?_eq_some_iff.1 hx).1 (fun o l w m=>hne _ _ _ _ _ o l w m rfl)]
    exact hx
end
end Go.W
end
section
namespace Go.Proofs.YtcebebhaahpoiaaDoor
open Go Go.Ai Go.W
attribute [local irreducible] VC YC WC
set_option linter.unusedSimpArgs false
set_option linter.unusedVariables false
set_option maxRecDepth 10000
variable {k:Nat} {b:Option Nat} {H:List AObj} {lk:Bool} {K:AV→St→Prop}
theorem within_s (hk:1≤k) {n a c:Int}:VC ⟨prog,k,b⟩ F_fq42 [iv n,iv a,iv c] ⟨H,lk⟩ K=K (.bool (decide (a≤n∧n≤c))) ⟨H,lk⟩:=by
  obtain ⟨k,rfl⟩:∃ j,k=j + 1:=⟨k - 1,by omega⟩
  apply VC_iff
  apply fq42.enter
  by_cases h1:a≤n
  · simp -implicitDefEqProofs only [fq42.n0_w,sw0,sw1,sw2,sw3,sw4,sw5,reduceCtorEq,Nat.reduceEqDiff,Nat.reduceAdd,Nat.reduceDiv,Nat.reduceLeDiff,h1,fq42.ret]
  · simp -implicitDefEqProofs only [fq42.n0_w,sw0,sw1,sw2,sw3,sw4,sw5,reduceCtorEq,Nat.reduceEqDiff,Nat.reduceAdd,Nat.reduceDiv,Nat.reduceLeDiff,h1,fq42.ret,false_and,decide_false,decide_true]
theorem r02_In_s (hk:1≤k) {n a c:Int}:VC ⟨prog,k,b⟩ F_fq43 [iv n,iv a,iv c] ⟨H,lk⟩ K=K (.bool (decide (a≤n∧n≤c))) ⟨H,lk⟩:=by
  obtain ⟨k,rfl⟩:∃ j,k=j + 1:=⟨k - 1,by omega⟩
  apply VC_iff
  apply fq43.enter
  by_cases h1:a≤n
  · simp -implicitDefEqProofs only [fq43.n0_w,sw0,sw1,sw2,sw3,sw4,sw5,reduceCtorEq,Nat.reduceEqDiff,Nat.reduceAdd,Nat.reduceDiv,Nat.reduceLeDiff,h1,fq43.ret]
  · simp -implicitDefEqProofs only [fq43.n0_w,sw0,sw1,sw2,sw3,sw4,sw5,reduceCtorEq,Nat.reduceEqDiff,Nat.reduceAdd,Nat.reduceDiv,Nat.reduceLeDiff,h1,fq43.ret,false_and,decide_false,decide_true]
theorem r12_in_s (hk:2≤k) {n a c:Int}:VC ⟨prog,k,b⟩ F_fq48 [iv n,iv a,iv c] ⟨H,lk⟩ K=K (.bool (decide (a≤n∧n≤c))) ⟨H,lk⟩:=by
  obtain ⟨k,rfl⟩:∃ j,k=j + 1:=⟨k - 1,by omega⟩
  apply VC_iff
  apply fq48.enter
  simp -implicitDefEqProofs only [fq48.n0_w,sw0,sw1,sw2,sw3,sw4,sw5,reduceCtorEq,Nat.reduceEqDiff,Nat.reduceAdd,Nat.reduceDiv,Nat.reduceLeDiff,r02_In_s (k:=k) (by omega),fq48.ret]
def amt (n:Int):Bool:=decide (0≤n∧n≤1000000)
theorem few_1_s (hk:2≤k) {n:Int}:VC ⟨prog,k,b⟩ F_fq20 [iv n] ⟨H,lk⟩ K=K (.bool (!amt n)) ⟨H,lk⟩:=by
  obtain ⟨k,rfl⟩:∃ j,k=j + 1:=⟨k - 1,by omega⟩
  apply VC_iff
  apply fq20.enter
  simp -implicitDefEqProofs only [fq20.n0_w,sw0,sw1,sw2,sw3,sw4,sw5,reduceCtorEq,Nat.reduceEqDiff,Nat.reduceAdd,Nat.reduceDiv,Nat.reduceLeDiff,within_s (k:=k) (by omega),fq20.ret,amt]
def firstAt {α:Type} (p:α→Bool) (xs:List α):Int:=match xs.findIdx? p with
  | some i=>(i:Nat)
  | none=>-1
theorem firstAt_hit {α:Type} {p:α→Bool} {xs:List α} {i:Nat} (h:i < xs.length) (hp:p xs[i]=true) (hno:∀ j (h:j < xs.length),j < i→p xs[j]=false):firstAt p xs=i:=by
  unfold firstAt
  rw [List.findIdx?_eq_some_iff_getElem.2 ⟨h,hp,fun j hj=>by simpa using hno j (by omega) hj⟩]
theorem firstAt_none {α:Type} {p:α→Bool} {xs:List α} (hno:∀ j (h:j < xs.length),p xs[j]=false):firstAt p xs=-1:=by
  unfold firstAt
  rw [List.findIdx?_eq_none_iff.2 (fun x hx=>by obtain ⟨j,h,rfl⟩:=List.getElem_of_mem hx; exact hno j h)]
theorem firstAt_any {α:Type} {p:α→Bool} {xs:List α}:decide (0≤firstAt p xs)=xs.any p:=by
  unfold firstAt
  cases h:xs.findIdx? p with
  | none =>
    have:=List.findIdx?_eq_none_iff.1 h
    simp -implicitDefEqProofs only [Int.reduceNeg,Int.reduceLE,decide_false]
    symm
    rw [List.any_eq_false]
    intro x hx
    simp [this x hx]
  | some i =>
    obtain ⟨hi,hp,_⟩:=List.findIdx?_eq_some_iff_getElem.1 h
    have:xs.any p=true:=List.any_eq_true.2 ⟨xs[i],List.getElem_mem _,hp⟩
    rw [this]
    simp
theorem IndexFunc_int (hk:1002≤k) {f:FuncId} {caps:List AV} {v:AV} {α:Type} {cl:α→List AV} {vl:α→AV} {xs:List α} {p:α→Bool} (hs:Sl H 1 cl v xs) (hl:xs.length≤1000) (hv:∀ x,rdc (cl x) 0 none=some (vl x))
    (hp:∀ x,x ∈ xs→∀ b lk (K:AV→St→Prop),VC ⟨prog,k - 1,b⟩ f (vl x :: caps) ⟨H,lk⟩ K=K (.bool (p x)) ⟨H,lk⟩) :
    VC ⟨prog,k,b⟩ F_fq55 [v,.fn f caps] ⟨H,lk⟩ K=K (iv (firstAt p xs)) ⟨H,lk⟩:=by
  obtain ⟨k,rfl⟩:∃ j,k=j + 1:=⟨k - 1,by omega⟩
  apply VC_iff
  apply fq55.enter
  simp -implicitDefEqProofs only [fq55.n0_w,sw0,sw1,sw2,sw3,sw4,sw5,reduceCtorEq,Nat.reduceEqDiff,Nat.reduceAdd,Nat.reduceDiv,Nat.reduceLeDiff,hs.len]
  refine fq55.n1_l (fun m r3 s=>∃ i:Nat,r3=iv i∧s=⟨H,false⟩∧m=xs.length - i∧i≤xs.length∧∀ j (h:j < xs.length),j < i→p xs[j]=false) xs.length (by simp -implicitDefEqProofs only []; omega) ⟨0,rfl,rfl,by omega,by omega,fun j _ h=>by omega⟩ ?_
  rintro m r2 r3 r5 s ⟨i,rfl,rfl,hm,hi,hno⟩
  simp -implicitDefEqProofs only [fq55.n2_w,sw0,sw1,sw2,sw3,sw4,sw5,reduceCtorEq,Nat.reduceEqDiff,Nat.reduceAdd,Nat.reduceDiv,Nat.reduceLeDiff]
  split
  · rename_i hlt
    have hlt:i < xs.length:=by omega
    have hq:=hp xs[i] (List.getElem_mem _) (some H.length) false
    simp -implicitDefEqProofs only [Nat.add_sub_cancel] at hq
    have hld:ld H none (adr 1 v i 0)=some (vl xs[i]):=by
      rw [← hv]
      first | exact (hs.ld hlt hs.pos).trans (by simp [rdc]) | (rw [hs.lda hlt]; simp [rdc,hs.size]; rw [← hs.size xs[i]]; simp)
    simp -implicitDefEqProofs only [fq55.n4_w,sw0,sw1,sw2,sw3,sw4,sw5,reduceCtorEq,Nat.reduceEqDiff,Nat.reduceAdd,Nat.reduceDiv,Nat.reduceLeDiff,hs.at,hlt,hld,hq]
    split
    · rename_i hpx
      simp -implicitDefEqProofs only [fq55.n5_w,sw0,sw1,sw2,sw3,sw4,sw5,reduceCtorEq,Nat.reduceEqDiff,Nat.reduceAdd,Nat.reduceDiv,Nat.reduceLeDiff,fq55.ret,firstAt_hit hlt hpx hno]
    · rename_i hpx
      simp -implicitDefEqProofs only [fq55.n6_w,sw0,sw1,sw2,sw3,sw4,sw5,reduceCtorEq,Nat.reduceEqDiff,Nat.reduceAdd,Nat.reduceDiv,Nat.reduceLeDiff]
      refine fq55.n1_go (m':=m - 1) (by omega) ⟨i + 1,by rw [wrap64 (by omega)]; rfl,rfl,by omega,by omega,?_⟩
      intro j h hj
      by_cases hji:j=i
      · subst hji; simpa using hpx
      · exact hno j h (by omega)
  · rename_i hge
    simp -implicitDefEqProofs only [fq55.n7_w,sw0,sw1,sw2,sw3,sw4,sw5,reduceCtorEq,Nat.reduceEqDiff,Nat.reduceAdd,Nat.reduceDiv,Nat.reduceLeDiff,fq55.ret,firstAt_none (p:=p) (xs:=xs) (fun j h=>hno j h (by omega))]
theorem ContainsFunc_int (hk:1003≤k) {f:FuncId} {caps:List AV} {v:AV} {α:Type} {cl:α→List AV} {vl:α→AV} {xs:List α} {p:α→Bool} (hs:Sl H 1 cl v xs) (hl:xs.length≤1000) (hv:∀ x,rdc (cl x) 0 none=some (vl x))
    (hp:∀ x,x ∈ xs→∀ b lk (K:AV→St→Prop),VC ⟨prog,k - 2,b⟩ f (vl x :: caps) ⟨H,lk⟩ K=K (.bool (p x)) ⟨H,lk⟩) :
    VC ⟨prog,k,b⟩ F_fq51 [v,.fn f caps] ⟨H,lk⟩ K=K (.bool (xs.any p)) ⟨H,lk⟩:=by
  obtain ⟨k,rfl⟩:∃ j,k=j + 1:=⟨k - 1,by omega⟩
  apply VC_iff
  apply fq51.enter
  simp -implicitDefEqProofs only [fq51.n0_w,sw0,sw1,sw2,sw3,sw4,sw5,reduceCtorEq,Nat.reduceEqDiff,Nat.reduceAdd,Nat.reduceDiv,Nat.reduceLeDiff,IndexFunc_int (k:=k) (by omega) hs hl hv (p:=p) (fun x hx b lk K=>hp x hx b lk K),fq51.ret,firstAt_any]
theorem IndexFunc_s_int (hk:1002≤k) {f:FuncId} {caps:List AV} {v:AV} {α:Type} {cl:α→List AV} {vl:α→AV} {xs:List α} {p:α→Bool} (hs:Sl H 1 cl v xs) (hl:xs.length≤1000) (hv:∀ x,rdc (cl x) 0 none=some (vl x))
    (hp:∀ x,x ∈ xs→∀ b lk (K:AV→St→Prop),VC ⟨prog,k - 1,b⟩ f (vl x :: caps) ⟨H,lk⟩ K=K (.bool (p x)) ⟨H,lk⟩) :
    VC ⟨prog,k,b⟩ F_fq56 [v,.fn f caps] ⟨H,lk⟩ K=K (iv (firstAt p xs)) ⟨H,lk⟩:=by
  obtain ⟨k,rfl⟩:∃ j,k=j + 1:=⟨k - 1,by omega⟩
  apply VC_iff
  apply fq56.enter
  simp -implicitDefEqProofs only [fq56.n0_w,sw0,sw1,sw2,sw3,sw4,sw5,reduceCtorEq,Nat.reduceEqDiff,Nat.reduceAdd,Nat.reduceDiv,Nat.reduceLeDiff,hs.len]
  refine fq56.n1_l (fun m r3 s=>∃ i:Nat,r3=iv i∧s=⟨H,false⟩∧m=xs.length - i∧i≤xs.length∧∀ j (h:j < xs.length),j < i→p xs[j]=false) xs.length (by simp -implicitDefEqProofs only []; omega) ⟨0,rfl,rfl,by omega,by omega,fun j _ h=>by omega⟩ ?_
  rintro m r2 r3 r5 s ⟨i,rfl,rfl,hm,hi,hno⟩
  simp -implicitDefEqProofs only [fq56.n2_w,sw0,sw1,sw2,sw3,sw4,sw5,reduceCtorEq,Nat.reduceEqDiff,Nat.reduceAdd,Nat.reduceDiv,Nat.reduceLeDiff]
  split
  · rename_i hlt
    have hlt:i < xs.length:=by omega
    have hq:=hp xs[i] (List.getElem_mem _) (some H.length) false
    simp -implicitDefEqProofs only [Nat.add_sub_cancel] at hq
    have hld:ld H none (adr 1 v i 0)=some (vl xs[i]):=by
      rw [← hv]
      first | exact (hs.ld hlt hs.pos).trans (by simp [rdc]) | (rw [hs.lda hlt]; simp [rdc,hs.size]; rw [← hs.size xs[i]]; simp)
    simp -implicitDefEqProofs only [fq56.n4_w,sw0,sw1,sw2,sw3,sw4,sw5,reduceCtorEq,Nat.reduceEqDiff,Nat.reduceAdd,Nat.reduceDiv,Nat.reduceLeDiff,hs.at,hlt,hld,hq]
    split
    · rename_i hpx
      simp -implicitDefEqProofs only [fq56.n5_w,sw0,sw1,sw2,sw3,sw4,sw5,reduceCtorEq,Nat.reduceEqDiff,Nat.reduceAdd,Nat.reduceDiv,Nat.reduceLeDiff,fq56.ret,firstAt_hit hlt hpx hno]
    · rename_i hpx
      simp -implicitDefEqProofs only [fq56.n6_w,sw0,sw1,sw2,sw3,sw4,sw5,reduceCtorEq,Nat.reduceEqDiff,Nat.reduceAdd,Nat.reduceDiv,Nat.reduceLeDiff]
      refine fq56.n1_go (m':=m - 1) (by omega) ⟨i + 1,by rw [wrap64 (by omega)]; rfl,rfl,by omega,by omega,?_⟩
      intro j h hj
      by_cases hji:j=i
      · subst hji; simpa using hpx
      · exact hno j h (by omega)
  · rename_i hge
    simp -implicitDefEqProofs only [fq56.n7_w,sw0,sw1,sw2,sw3,sw4,sw5,reduceCtorEq,Nat.reduceEqDiff,Nat.reduceAdd,Nat.reduceDiv,Nat.reduceLeDiff,fq56.ret,firstAt_none (p:=p) (xs:=xs) (fun j h=>hno j h (by omega))]
theorem ContainsFunc_s_int (hk:1003≤k) {f:FuncId} {caps:List AV} {v:AV} {α:Type} {cl:α→List AV} {vl:α→AV} {xs:List α} {p:α→Bool} (hs:Sl H 1 cl v xs) (hl:xs.length≤1000) (hv:∀ x,rdc (cl x) 0 none=some (vl x))
    (hp:∀ x,x ∈ xs→∀ b lk (K:AV→St→Prop),VC ⟨prog,k - 2,b⟩ f (vl x :: caps) ⟨H,lk⟩ K=K (.bool (p x)) ⟨H,lk⟩) :
    VC ⟨prog,k,b⟩ F_fq52 [v,.fn f caps] ⟨H,lk⟩ K=K (.bool (xs.any p)) ⟨H,lk⟩:=by
  obtain ⟨k,rfl⟩:∃ j,k=j + 1:=⟨k - 1,by omega⟩
  apply VC_iff
  apply fq52.enter
  simp -implicitDefEqProofs only [fq52.n0_w,sw0,sw1,sw2,sw3,sw4,sw5,reduceCtorEq,Nat.reduceEqDiff,Nat.reduceAdd,Nat.reduceDiv,Nat.reduceLeDiff,IndexFunc_s_int (k:=k) (by omega) hs hl hv (p:=p) (fun x hx b lk K=>hp x hx b lk K),fq52.ret,firstAt_any]
theorem IndexFunc_Mark (hk:1002≤k) {f:FuncId} {caps:List AV} {v:AV} {α:Type} {cl:α→List AV} {vl:α→AV} {xs:List α} {p:α→Bool} (hs:Sl H 2 cl v xs) (hl:xs.length≤1000) (hv:∀ x,rdc (cl x) 0 (some 2)=some (vl x))
    (hp:∀ x,x ∈ xs→∀ b lk (K:AV→St→Prop),VC ⟨prog,k - 1,b⟩ f (vl x :: caps) ⟨H,lk⟩ K=K (.bool (p x)) ⟨H,lk⟩) :
    VC ⟨prog,k,b⟩ F_fq54 [v,.fn f caps] ⟨H,lk⟩ K=K (iv (firstAt p xs)) ⟨H,lk⟩:=by
  obtain ⟨k,rfl⟩:∃ j,k=j + 1:=⟨k - 1,by omega⟩
  apply VC_iff
  apply fq54.enter
  simp -implicitDefEqProofs only [fq54.n0_w,sw0,sw1,sw2,sw3,sw4,sw5,reduceCtorEq,Nat.reduceEqDiff,Nat.reduceAdd,Nat.reduceDiv,Nat.reduceLeDiff,hs.len]
  refine fq54.n1_l (fun m r3 s=>∃ i:Nat,r3=iv i∧s=⟨H,false⟩∧m=xs.length - i∧i≤xs.length∧∀ j (h:j < xs.length),j < i→p xs[j]=false) xs.length (by simp -implicitDefEqProofs only []; omega) ⟨0,rfl,rfl,by omega,by omega,fun j _ h=>by omega⟩ ?_
  rintro m r2 r3 r5 s ⟨i,rfl,rfl,hm,hi,hno⟩
  simp -implicitDefEqProofs only [fq54.n2_w,sw0,sw1,sw2,sw3,sw4,sw5,reduceCtorEq,Nat.reduceEqDiff,Nat.reduceAdd,Nat.reduceDiv,Nat.reduceLeDiff]
  split
  · rename_i hlt
    have hlt:i < xs.length:=by omega
    have hq:=hp xs[i] (List.getElem_mem _) (some H.length) false
    simp -implicitDefEqProofs only [Nat.add_sub_cancel] at hq
    have hld:ld H (some 2) (adr 2 v i 0)=some (vl xs[i]):=by
      rw [← hv]
      first | exact (hs.ld hlt hs.pos).trans (by simp [rdc]) | (rw [hs.lda hlt]; simp [rdc,hs.size]; rw [← hs.size xs[i]]; simp)
    simp -implicitDefEqProofs only [fq54.n4_w,sw0,sw1,sw2,sw3,sw4,sw5,reduceCtorEq,Nat.reduceEqDiff,Nat.reduceAdd,Nat.reduceDiv,Nat.reduceLeDiff,hs.at,hlt,hld,hq]
    split
    · rename_i hpx
      simp -implicitDefEqProofs only [fq54.n5_w,sw0,sw1,sw2,sw3,sw4,sw5,reduceCtorEq,Nat.reduceEqDiff,Nat.reduceAdd,Nat.reduceDiv,Nat.reduceLeDiff,fq54.ret,firstAt_hit hlt hpx hno]
    · rename_i hpx
      simp -implicitDefEqProofs only [fq54.n6_w,sw0,sw1,sw2,sw3,sw4,sw5,reduceCtorEq,Nat.reduceEqDiff,Nat.reduceAdd,Nat.reduceDiv,Nat.reduceLeDiff]
      refine fq54.n1_go (m':=m - 1) (by omega) ⟨i + 1,by rw [wrap64 (by omega)]; rfl,rfl,by omega,by omega,?_⟩
      intro j h hj
      by_cases hji:j=i
      · subst hji; simpa using hpx
      · exact hno j h (by omega)
  · rename_i hge
    simp -implicitDefEqProofs only [fq54.n7_w,sw0,sw1,sw2,sw3,sw4,sw5,reduceCtorEq,Nat.reduceEqDiff,Nat.reduceAdd,Nat.reduceDiv,Nat.reduceLeDiff,fq54.ret,firstAt_none (p:=p) (xs:=xs) (fun j h=>hno j h (by omega))]
theorem ContainsFunc_Mark (hk:1003≤k) {f:FuncId} {caps:List AV} {v:AV} {α:Type} {cl:α→List AV} {vl:α→AV} {xs:List α} {p:α→Bool} (hs:Sl H 2 cl v xs) (hl:xs.length≤1000) (hv:∀ x,rdc (cl x) 0 (some 2)=some (vl x))
    (hp:∀ x,x ∈ xs→∀ b lk (K:AV→St→Prop),VC ⟨prog,k - 2,b⟩ f (vl x :: caps) ⟨H,lk⟩ K=K (.bool (p x)) ⟨H,lk⟩) :
    VC ⟨prog,k,b⟩ F_fq50 [v,.fn f caps] ⟨H,lk⟩ K=K (.bool (xs.any p)) ⟨H,lk⟩:=by
  obtain ⟨k,rfl⟩:∃ j,k=j + 1:=⟨k - 1,by omega⟩
  apply VC_iff
  apply fq50.enter
  simp -implicitDefEqProofs only [fq50.n0_w,sw0,sw1,sw2,sw3,sw4,sw5,reduceCtorEq,Nat.reduceEqDiff,Nat.reduceAdd,Nat.reduceDiv,Nat.reduceLeDiff,IndexFunc_Mark (k:=k) (by omega) hs hl hv (p:=p) (fun x hx b lk K=>hp x hx b lk K),fq50.ret,firstAt_any]
theorem IndexFunc_Job (hk:1002≤k) {f:FuncId} {caps:List AV} {v:AV} {α:Type} {cl:α→List AV} {vl:α→AV} {xs:List α} {p:α→Bool} (hs:Sl H 3 cl v xs) (hl:xs.length≤1000) (hv:∀ x,rdc (cl x) 0 (some 3)=some (vl x))
    (hp:∀ x,x ∈ xs→∀ b lk (K:AV→St→Prop),VC ⟨prog,k - 1,b⟩ f (vl x :: caps) ⟨H,lk⟩ K=K (.bool (p x)) ⟨H,lk⟩) :
    VC ⟨prog,k,b⟩ F_fq53 [v,.fn f caps] ⟨H,lk⟩ K=K (iv (firstAt p xs)) ⟨H,lk⟩:=by
  obtain ⟨k,rfl⟩:∃ j,k=j + 1:=⟨k - 1,by omega⟩
  apply VC_iff
  apply fq53.enter
  simp -implicitDefEqProofs only [fq53.n0_w,sw0,sw1,sw2,sw3,sw4,sw5,reduceCtorEq,Nat.reduceEqDiff,Nat.reduceAdd,Nat.reduceDiv,Nat.reduceLeDiff,hs.len]
  refine fq53.n1_l (fun m r3 s=>∃ i:Nat,r3=iv i∧s=⟨H,false⟩∧m=xs.length - i∧i≤xs.length∧∀ j (h:j < xs.length),j < i→p xs[j]=false) xs.length (by simp -implicitDefEqProofs only []; omega) ⟨0,rfl,rfl,by omega,by omega,fun j _ h=>by omega⟩ ?_
  rintro m r2 r3 r5 s ⟨i,rfl,rfl,hm,hi,hno⟩
  simp -implicitDefEqProofs only [fq53.n2_w,sw0,sw1,sw2,sw3,sw4,sw5,reduceCtorEq,Nat.reduceEqDiff,Nat.reduceAdd,Nat.reduceDiv,Nat.reduceLeDiff]
  split
  · rename_i hlt
    have hlt:i < xs.length:=by omega
    have hq:=hp xs[i] (List.getElem_mem _) (some H.length) false
    simp -implicitDefEqProofs only [Nat.add_sub_cancel] at hq
    have hld:ld H (some 3) (adr 3 v i 0)=some (vl xs[i]):=by
      rw [← hv]
      first | exact (hs.ld hlt hs.pos).trans (by simp [rdc]) | (rw [hs.lda hlt]; simp [rdc,hs.size]; rw [← hs.size xs[i]]; simp)
    simp -implicitDefEqProofs only [fq53.n4_w,sw0,sw1,sw2,sw3,sw4,sw5,reduceCtorEq,Nat.reduceEqDiff,Nat.reduceAdd,Nat.reduceDiv,Nat.reduceLeDiff,hs.at,hlt,hld,hq]
    split
    · rename_i hpx
      simp -implicitDefEqProofs only [fq53.n5_w,sw0,sw1,sw2,sw3,sw4,sw5,reduceCtorEq,Nat.reduceEqDiff,Nat.reduceAdd,Nat.reduceDiv,Nat.reduceLeDiff,fq53.ret,firstAt_hit hlt hpx hno]
    · rename_i hpx
      simp -implicitDefEqProofs only [fq53.n6_w,sw0,sw1,sw2,sw3,sw4,sw5,reduceCtorEq,Nat.reduceEqDiff,Nat.reduceAdd,Nat.reduceDiv,Nat.reduceLeDiff]
      refine fq53.n1_go (m':=m - 1) (by omega) ⟨i + 1,by rw [wrap64 (by omega)]; rfl,rfl,by omega,by omega,?_⟩
      intro j h hj
      by_cases hji:j=i
      · subst hji; simpa using hpx
      · exact hno j h (by omega)
  · rename_i hge
    simp -implicitDefEqProofs only [fq53.n7_w,sw0,sw1,sw2,sw3,sw4,sw5,reduceCtorEq,Nat.reduceEqDiff,Nat.reduceAdd,Nat.reduceDiv,Nat.reduceLeDiff,fq53.ret,firstAt_none (p:=p) (xs:=xs) (fun j h=>hno j h (by omega))]
theorem ContainsFunc_Job (hk:1003≤k) {f:FuncId} {caps:List AV} {v:AV} {α:Type} {cl:α→List AV} {vl:α→AV} {xs:List α} {p:α→Bool} (hs:Sl H 3 cl v xs) (hl:xs.length≤1000) (hv:∀ x,rdc (cl x) 0 (some 3)=some (vl x))
    (hp:∀ x,x ∈ xs→∀ b lk (K:AV→St→Prop),VC ⟨prog,k - 2,b⟩ f (vl x :: caps) ⟨H,lk⟩ K=K (.bool (p x)) ⟨H,lk⟩) :
    VC ⟨prog,k,b⟩ F_fq49 [v,.fn f caps] ⟨H,lk⟩ K=K (.bool (xs.any p)) ⟨H,lk⟩:=by
  obtain ⟨k,rfl⟩:∃ j,k=j + 1:=⟨k - 1,by omega⟩
  apply VC_iff
  apply fq49.enter
  simp -implicitDefEqProofs only [fq49.n0_w,sw0,sw1,sw2,sw3,sw4,sw5,reduceCtorEq,Nat.reduceEqDiff,Nat.reduceAdd,Nat.reduceDiv,Nat.reduceLeDiff,IndexFunc_Job (k:=k) (by omega) hs hl hv (p:=p) (fun x hx b lk K=>hp x hx b lk K),fq49.ret,firstAt_any]
def amts (xs:List Int):Bool:=xs.all amt
theorem few_s (hk:1005≤k) {v:AV} {xs:List Int} (hs:SI H v xs) (hl:xs.length≤1000):VC ⟨prog,k,b⟩ F_fq19 [v] ⟨H,lk⟩ K=K (.bool (amts xs)) ⟨H,lk⟩:=by
  obtain ⟨k,rfl⟩:∃ j,k=j + 1:=⟨k - 1,by omega⟩
  apply VC_iff
  apply fq19.enter
  simp -implicitDefEqProofs only [fq19.n0_w,sw0,sw1,sw2,sw3,sw4,sw5,reduceCtorEq,Nat.reduceEqDiff,Nat.reduceAdd,Nat.reduceDiv,Nat.reduceLeDiff,ContainsFunc_int (k:=k) (by omega) hs hl (vl:=iv) (fun x=>rfl) (p:=fun x=>!amt x) (fun x hx b lk K=>few_1_s (k:=k - 2) (by omega)),fq19.ret]
  simp [amts,List.all_eq_not_any_not]
end Go.Proofs.YtcebebhaahpoiaaDoor
end
section
namespace Go.Proofs.YtcebebhaahpoiaaDoor
open Go Go.Ai Go.W
attribute [local irreducible] VC YC WC
set_option linter.unusedSimpArgs false
set_option linter.unusedVariables false
set_option maxRecDepth 10000
variable {k:Nat} {b:Option Nat} {H:List AObj} {lk:Bool} {K:AV→St→Prop}
structure Mach where
  cold:Int
  power:Int
  start:Int
structure Plt where
  heat:Int
  low:Int
  high:Int
  loads:List Int
  prices:List Int
  machs:List Mach
abbrev mc (m:Mach):List AV:=[iv m.cold,iv m.power,iv m.start]
def Mach.ok (m:Mach):Bool:=amts [m.cold,m.power,m.start]
def Plt.band (p:Plt):Bool:=decide (-1000000≤p.low∧p.low≤1000000) && decide (p.low≤p.high∧p.high≤p.low + 1000) && decide (p.low≤p.heat∧p.heat≤p.high)
def Plt.ok (p:Plt):Bool:=p.machs.all Mach.ok && p.band && (decide (p.loads.length=p.prices.length) && decide (p.loads.length≤48) && amts p.loads && amts p.prices) && decide (p.machs.length≤4)
structure PV (H:List AObj) (cs:List AV) (p:Plt):Prop where
  how:∃ vl vp vm,cs=[iv p.heat,iv p.low,iv p.high,vl,vp,vm]∧SI H vl p.loads∧SI H vp p.prices∧Sl H 3 mc vm p.machs
theorem PV.app {cs p} (h:PV H cs p) {L:List AObj}:PV (H ++ L) cs p:=by
  obtain ⟨vl,vp,vm,e,h1,h2,h3⟩:=h.how
  exact ⟨vl,vp,vm,e,h1.app,h2.app,h3.app⟩
theorem CheckPlant_s (hk:1010≤k) {cs:List AV} {p:Plt} (hp:PV H cs p) (hl:p.loads.length≤1000∧p.prices.length≤1000∧p.machs.length≤1000):VC ⟨prog,k,b⟩ F_fq5 [.agg cs] ⟨H,lk⟩ K=K (.bool p.ok) ⟨H,lk⟩:=by
  obtain ⟨k,rfl⟩:∃ j,k=j + 1:=⟨k - 1,by omega⟩
  obtain ⟨vl,vp,vm,rfl,h1,h2,h3⟩:=hp.how
  apply VC_iff
  apply fq5.enter
  simp -implicitDefEqProofs only [fq5.n0_w,sw0,sw1,sw2,sw3,sw4,sw5,reduceCtorEq,Nat.reduceEqDiff,Nat.reduceAdd,Nat.reduceDiv,Nat.reduceLeDiff,h1.one,h2.one,h3.one,h3.len]
  refine fq5.n1_l (fun m r2 s=>∃ (i:Nat) (L:List AObj),r2=iv i∧s=⟨H ++ (.cells [iv p.heat,iv p.low,iv p.high,vl,vp,vm] :: L),false⟩∧m=p.machs.length - i∧i≤p.machs.length∧∀ j (h:j < p.machs.length),j < i→p.machs[j].ok=true) p.machs.length (by simp -implicitDefEqProofs only []; omega) ⟨0,[],rfl,rfl,by omega,by omega,fun j _ h=>by omega⟩ ?_
  rintro m r1 r2 r5 r6 r7 s ⟨i,L,rfl,rfl,hm,hi,hno⟩
  simp -implicitDefEqProofs only [fq5.n2_w,sw0,sw1,sw2,sw3,sw4,sw5,reduceCtorEq,Nat.reduceEqDiff,Nat.reduceAdd,Nat.reduceDiv,Nat.reduceLeDiff]
  split
  · rename_i hlt
    have hlt:i < p.machs.length:=by omega
    have h3':=h3.app (L:=.cells [iv p.heat,iv p.low,iv p.high,vl,vp,vm] :: L)
    simp -implicitDefEqProofs only [fq5.n4_w,sw0,sw1,sw2,sw3,sw4,sw5,reduceCtorEq,Nat.reduceEqDiff,Nat.reduceAdd,Nat.reduceDiv,Nat.reduceLeDiff,h3'.at,hlt,h3'.lda hlt]
    simp -implicitDefEqProofs only [few_s (k:=k) (by omega) (H:=H ++ .cells [iv p.heat,iv p.low,iv p.high,vl,vp,vm] :: (L ++ [.cells [iv p.machs[i].cold,iv p.machs[i].power,iv p.machs[i].start]])) (Sl.lit (fl:=true) (es:=[[iv p.machs[i].cold],[iv p.machs[i].power],[iv p.machs[i].start]]) (xs:=[p.machs[i].cold,p.machs[i].power,p.machs[i].start]) Nat.one_pos (fun _=>rfl) rfl) (by simp),sw0,sw1,sw2,sw3,sw4,sw5,reduceCtorEq,Nat.reduceEqDiff,Nat.reduceAdd,Nat.reduceDiv,Nat.reduceLeDiff]
    split
    · rename_i hb
      simp -implicitDefEqProofs only [fq5.n5_w,sw0,sw1,sw2,sw3,sw4,sw5,reduceCtorEq,Nat.reduceEqDiff,Nat.reduceAdd,Nat.reduceDiv,Nat.reduceLeDiff,fq5.ret]
      have : p.ok=false:=by
        have h0:p.machs.all Mach.ok=false:=by
          rw [List.all_eq_false]
          exact ⟨p.machs[i],List.getElem_mem _,by simp [Mach.ok,hb]⟩
        simp [Plt.ok,h0]
      rw [this]
    · rename_i hb
      simp -implicitDefEqProofs only [fq5.n6_w,sw0,sw1,sw2,sw3,sw4,sw5,reduceCtorEq,Nat.reduceEqDiff,Nat.reduceAdd,Nat.reduceDiv,Nat.reduceLeDiff]
      refine fq5.n1_go (m':=m - 1) (by omega) ⟨i + 1,_,by rw [wrap64 (by omega)]; rfl,rfl,by omega,by omega,?_⟩
      intro j h hj
      by_cases hji:j=i
      · subst hji; simpa [Mach.ok] using hb
      · exact hno j h (by omega)
  · rename_i hge
    have h0:p.machs.all Mach.ok=true:=by
      rw [List.all_eq_true]
      intro x hx
      obtain ⟨j,h,rfl⟩:=List.getElem_of_mem hx
      exact hno j h (by omega)
    have h1':=h1.app (L:=.cells [iv p.heat,iv p.low,iv p.high,vl,vp,vm] :: L)
    have h2':=h2.app (L:=.cells [iv p.heat,iv p.low,iv p.high,vl,vp,vm] :: L)
    have h3':=h3.app (L:=.cells [iv p.heat,iv p.low,iv p.high,vl,vp,vm] :: L)
    simp -implicitDefEqProofs only [fq5.n7_w,sw0,sw1,sw2,sw3,sw4,sw5,reduceCtorEq,Nat.reduceEqDiff,Nat.reduceAdd,Nat.reduceDiv,Nat.reduceLeDiff,within_s (k:=k) (by omega)]
    by_cases c1:-1000000≤p.low∧p.low≤1000000
    · simp -implicitDefEqProofs only [c1,sw0,sw1,sw2,sw3,sw4,sw5,reduceCtorEq,Nat.reduceEqDiff,Nat.reduceAdd,Nat.reduceDiv,Nat.reduceLeDiff,within_s (k:=k) (by omega)]
      rw [wrap64 (by omega)]
      by_cases c2:p.low≤p.high∧p.high≤p.low + 1000
      · simp -implicitDefEqProofs only [c2,sw0,sw1,sw2,sw3,sw4,sw5,reduceCtorEq,Nat.reduceEqDiff,Nat.reduceAdd,Nat.reduceDiv,Nat.reduceLeDiff,within_s (k:=k) (by omega)]
        by_cases c3:p.low≤p.heat∧p.heat≤p.high
        · have hbd:p.band=true:=by simp -implicitDefEqProofs only [Plt.band,c1,c2,c3,sw0,sw1,sw2,sw3,sw4,sw5,reduceCtorEq,Nat.reduceEqDiff,Nat.reduceAdd,Nat.reduceDiv,Nat.reduceLeDiff]
          simp -implicitDefEqProofs only [c3,sw0,sw1,sw2,sw3,sw4,sw5,reduceCtorEq,Nat.reduceEqDiff,Nat.reduceAdd,Nat.reduceDiv,Nat.reduceLeDiff,h1.len,h2.len]
          have d8:decide ((p.machs.length:Int)≤4)=decide (p.machs.length≤4):=decide_eq_decide.2 (by omega)
          by_cases c4:(p.loads.length:Int)=p.prices.length
          · have c4':p.loads.length=p.prices.length:=by omega
            by_cases c5:(p.loads.length:Int)≤48
            · have c5':p.loads.length≤48:=by omega
              simp -implicitDefEqProofs only [eq_true c4,c5,sw0,sw1,sw2,sw3,sw4,sw5,reduceCtorEq,Nat.reduceEqDiff,Nat.reduceAdd,Nat.reduceDiv,Nat.reduceLeDiff,h1.len,few_s (k:=k) (by omega) h1' (by omega)]
              cases c6:amts p.loads
              · simp -implicitDefEqProofs only [sw0,sw1,sw2,sw3,sw4,sw5,reduceCtorEq,Nat.reduceEqDiff,Nat.reduceAdd,Nat.reduceDiv,Nat.reduceLeDiff,h3.len,fq5.ret,Plt.ok,h0,c6,hbd]
              · simp -implicitDefEqProofs only [sw0,sw1,sw2,sw3,sw4,sw5,reduceCtorEq,Nat.reduceEqDiff,Nat.reduceAdd,Nat.reduceDiv,Nat.reduceLeDiff,few_s (k:=k) (by omega) h2' (by omega)]
                cases c7:amts p.prices <;> simp -implicitDefEqProofs only [c7,sw0,sw1,sw2,sw3,sw4,sw5,reduceCtorEq,Nat.reduceEqDiff,Nat.reduceAdd,Nat.reduceDiv,Nat.reduceLeDiff,h3.len,fq5.ret,Plt.ok,h0,c6,hbd,eq_true c4',c5',d8]
            · have c5':¬ p.loads.length≤48:=by omega
              simp -implicitDefEqProofs only [eq_true c4,c5,sw0,sw1,sw2,sw3,sw4,sw5,reduceCtorEq,Nat.reduceEqDiff,Nat.reduceAdd,Nat.reduceDiv,Nat.reduceLeDiff,h1.len,h3.len,fq5.ret,Plt.ok,h0,hbd,c5']
          · have c4':¬ p.loads.length=p.prices.length:=by omega
            simp -implicitDefEqProofs only [eq_false c4,sw0,sw1,sw2,sw3,sw4,sw5,reduceCtorEq,Nat.reduceEqDiff,Nat.reduceAdd,Nat.reduceDiv,Nat.reduceLeDiff,h1.len,h3.len,fq5.ret,Plt.ok,h0,hbd,eq_false c4']
        · have hbd:p.band=false:=by simp -implicitDefEqProofs only [Plt.band,c1,c2,c3,sw0,sw1,sw2,sw3,sw4,sw5,reduceCtorEq,Nat.reduceEqDiff,Nat.reduceAdd,Nat.reduceDiv,Nat.reduceLeDiff]
          simp -implicitDefEqProofs only [c3,sw0,sw1,sw2,sw3,sw4,sw5,reduceCtorEq,Nat.reduceEqDiff,Nat.reduceAdd,Nat.reduceDiv,Nat.reduceLeDiff,h1.len,h2.len]
          have d8:decide ((p.machs.length:Int)≤4)=decide (p.machs.length≤4):=decide_eq_decide.2 (by omega)
          by_cases c4:(p.loads.length:Int)=p.prices.length
          · have c4':p.loads.length=p.prices.length:=by omega
            by_cases c5:(p.loads.length:Int)≤48
            · have c5':p.loads.length≤48:=by omega
              simp -implicitDefEqProofs only [eq_true c4,c5,sw0,sw1,sw2,sw3,sw4,sw5,reduceCtorEq,Nat.reduceEqDiff,Nat.reduceAdd,Nat.reduceDiv,Nat.reduceLeDiff,h1.len,few_s (k:=k) (by omega) h1' (by omega)]
              cases c6:amts p.loads
              · simp -implicitDefEqProofs only [sw0,sw1,sw2,sw3,sw4,sw5,reduceCtorEq,Nat.reduceEqDiff,Nat.reduceAdd,Nat.reduceDiv,Nat.reduceLeDiff,h3.len,fq5.ret,Plt.ok,h0,c6,hbd]
              · simp -implicitDefEqProofs only [sw0,sw1,sw2,sw3,sw4,sw5,reduceCtorEq,Nat.reduceEqDiff,Nat.reduceAdd,Nat.reduceDiv,Nat.reduceLeDiff,few_s (k:=k) (by omega) h2' (by omega)]
                cases c7:amts p.prices <;> simp -implicitDefEqProofs only [c7,sw0,sw1,sw2,sw3,sw4,sw5,reduceCtorEq,Nat.reduceEqDiff,Nat.reduceAdd,Nat.reduceDiv,Nat.reduceLeDiff,h3.len,fq5.ret,Plt.ok,h0,c6,hbd,eq_true c4',c5',d8]
            · have c5':¬ p.loads.length≤48:=by omega
              simp -implicitDefEqProofs only [eq_true c4,c5,sw0,sw1,sw2,sw3,sw4,sw5,reduceCtorEq,Nat.reduceEqDiff,Nat.reduceAdd,Nat.reduceDiv,Nat.reduceLeDiff,h1.len,h3.len,fq5.ret,Plt.ok,h0,hbd,c5']
          · have c4':¬ p.loads.length=p.prices.length:=by omega
            simp -implicitDefEqProofs only [eq_false c4,sw0,sw1,sw2,sw3,sw4,sw5,reduceCtorEq,Nat.reduceEqDiff,Nat.reduceAdd,Nat.reduceDiv,Nat.reduceLeDiff,h1.len,h3.len,fq5.ret,Plt.ok,h0,hbd,eq_false c4']
      · have hbd:p.band=false:=by simp -implicitDefEqProofs only [Plt.band,c1,c2,sw0,sw1,sw2,sw3,sw4,sw5,reduceCtorEq,Nat.reduceEqDiff,Nat.reduceAdd,Nat.reduceDiv,Nat.reduceLeDiff]
        simp -implicitDefEqProofs only [c2,sw0,sw1,sw2,sw3,sw4,sw5,reduceCtorEq,Nat.reduceEqDiff,Nat.reduceAdd,Nat.reduceDiv,Nat.reduceLeDiff,h1.len,h2.len]
        have d8:decide ((p.machs.length:Int)≤4)=decide (p.machs.length≤4):=decide_eq_decide.2 (by omega)
        by_cases c4:(p.loads.length:Int)=p.prices.length
        · have c4':p.loads.length=p.prices.length:=by omega
          by_cases c5:(p.loads.length:Int)≤48
          · have c5':p.loads.length≤48:=by omega
            simp -implicitDefEqProofs only [eq_true c4,c5,sw0,sw1,sw2,sw3,sw4,sw5,reduceCtorEq,Nat.reduceEqDiff,Nat.reduceAdd,Nat.reduceDiv,Nat.reduceLeDiff,h1.len,few_s (k:=k) (by omega) h1' (by omega)]
            cases c6:amts p.loads
            · simp -implicitDefEqProofs only [sw0,sw1,sw2,sw3,sw4,sw5,reduceCtorEq,Nat.reduceEqDiff,Nat.reduceAdd,Nat.reduceDiv,Nat.reduceLeDiff,h3.len,fq5.ret,Plt.ok,h0,c6,hbd]
            · simp -implicitDefEqProofs only [sw0,sw1,sw2,sw3,sw4,sw5,reduceCtorEq,Nat.reduceEqDiff,Nat.reduceAdd,Nat.reduceDiv,Nat.reduceLeDiff,few_s (k:=k) (by omega) h2' (by omega)]
              cases c7:amts p.prices <;> simp -implicitDefEqProofs only [c7,sw0,sw1,sw2,sw3,sw4,sw5,reduceCtorEq,Nat.reduceEqDiff,Nat.reduceAdd,Nat.reduceDiv,Nat.reduceLeDiff,h3.len,fq5.ret,Plt.ok,h0,c6,hbd,eq_true c4',c5',d8]
          · have c5':¬ p.loads.length≤48:=by omega
            simp -implicitDefEqProofs only [eq_true c4,c5,sw0,sw1,sw2,sw3,sw4,sw5,reduceCtorEq,Nat.reduceEqDiff,Nat.reduceAdd,Nat.reduceDiv,Nat.reduceLeDiff,h1.len,h3.len,fq5.ret,Plt.ok,h0,hbd,c5']
        · have c4':¬ p.loads.length=p.prices.length:=by omega
          simp -implicitDefEqProofs only [eq_false c4,sw0,sw1,sw2,sw3,sw4,sw5,reduceCtorEq,Nat.reduceEqDiff,Nat.reduceAdd,Nat.reduceDiv,Nat.reduceLeDiff,h1.len,h3.len,fq5.ret,Plt.ok,h0,hbd,eq_false c4']
    · have hbd:p.band=false:=by simp -implicitDefEqProofs only [Plt.band,c1,sw0,sw1,sw2,sw3,sw4,sw5,reduceCtorEq,Nat.reduceEqDiff,Nat.reduceAdd,Nat.reduceDiv,Nat.reduceLeDiff]
      simp -implicitDefEqProofs only [c1,sw0,sw1,sw2,sw3,sw4,sw5,reduceCtorEq,Nat.reduceEqDiff,Nat.reduceAdd,Nat.reduceDiv,Nat.reduceLeDiff,h1.len,h2.len]
      have d8:decide ((p.machs.length:Int)≤4)=decide (p.machs.length≤4):=decide_eq_decide.2 (by omega)
      by_cases c4:(p.loads.length:Int)=p.prices.length
      · have c4':p.loads.length=p.prices.length:=by omega
        by_cases c5:(p.loads.length:Int)≤48
        · have c5':p.loads.length≤48:=by omega
          simp -implicitDefEqProofs only [eq_true c4,c5,sw0,sw1,sw2,sw3,sw4,sw5,reduceCtorEq,Nat.reduceEqDiff,Nat.reduceAdd,Nat.reduceDiv,Nat.reduceLeDiff,h1.len,few_s (k:=k) (by omega) h1' (by omega)]
          cases c6:amts p.loads
          · simp -implicitDefEqProofs only [sw0,sw1,sw2,sw3,sw4,sw5,reduceCtorEq,Nat.reduceEqDiff,Nat.reduceAdd,Nat.reduceDiv,Nat.reduceLeDiff,h3.len,fq5.ret,Plt.ok,h0,c6,hbd]
          · simp -implicitDefEqProofs only [sw0,sw1,sw2,sw3,sw4,sw5,reduceCtorEq,Nat.reduceEqDiff,Nat.reduceAdd,Nat.reduceDiv,Nat.reduceLeDiff,few_s (k:=k) (by omega) h2' (by omega)]
            cases c7:amts p.prices <;> simp -implicitDefEqProofs only [c7,sw0,sw1,sw2,sw3,sw4,sw5,reduceCtorEq,Nat.reduceEqDiff,Nat.reduceAdd,Nat.reduceDiv,Nat.reduceLeDiff,h3.len,fq5.ret,Plt.ok,h0,c6,hbd,eq_true c4',c5',d8]
        · have c5':¬ p.loads.length≤48:=by omega
          simp -implicitDefEqProofs only [eq_true c4,c5,sw0,sw1,sw2,sw3,sw4,sw5,reduceCtorEq,Nat.reduceEqDiff,Nat.reduceAdd,Nat.reduceDiv,Nat.reduceLeDiff,h1.len,h3.len,fq5.ret,Plt.ok,h0,hbd,c5']
      · have c4':¬ p.loads.length=p.prices.length:=by omega
        simp -implicitDefEqProofs only [eq_false c4,sw0,sw1,sw2,sw3,sw4,sw5,reduceCtorEq,Nat.reduceEqDiff,Nat.reduceAdd,Nat.reduceDiv,Nat.reduceLeDiff,h1.len,h3.len,fq5.ret,Plt.ok,h0,hbd,eq_false c4']
end Go.Proofs.YtcebebhaahpoiaaDoor
end
section
namespace Go.Proofs.YtcebebhaahpoiaaDoor
open Go Go.Ai Go.W
attribute [local irreducible] VC YC WC
set_option linter.unusedSimpArgs false
set_option linter.unusedVariables false
set_option maxRecDepth 10000
variable {k:Nat} {b:Option Nat} {H:List AObj} {lk:Bool} {K:AV→St→Prop}
theorem r02_Ints_s (hk:1005≤k) {v w:AV} {xs ys:List Int} (hs:SI H v xs) (ht:SI H w ys) (hl:xs.length≤1000):VC ⟨prog,k,b⟩ F_fq44 [v,w] ⟨H,lk⟩ K=K (.bool (decide (xs=ys))) ⟨H,lk⟩:=by
  obtain ⟨k,rfl⟩:∃ j,k=j + 1:=⟨k - 1,by omega⟩
  apply VC_iff
  apply fq44.enter
  simp -implicitDefEqProofs only [fq44.n0_w,sw0,sw1,sw2,sw3,sw4,sw5,reduceCtorEq,Nat.reduceEqDiff,Nat.reduceAdd,Nat.reduceDiv,Nat.reduceLeDiff,hs.len,ht.len]
  split
  · rename_i hne
    have:¬ xs=ys:=by intro e; subst e; exact hne rfl
    simp -implicitDefEqProofs only [fq44.n1_w,sw0,sw1,sw2,sw3,sw4,sw5,reduceCtorEq,Nat.reduceEqDiff,Nat.reduceAdd,Nat.reduceDiv,Nat.reduceLeDiff,fq44.ret,this]
  · rename_i heq
    have heq:xs.length=ys.length:=by omega
    simp -implicitDefEqProofs only [fq44.n2_w,sw0,sw1,sw2,sw3,sw4,sw5,reduceCtorEq,Nat.reduceEqDiff,Nat.reduceAdd,Nat.reduceDiv,Nat.reduceLeDiff]
    refine fq44.n3_l (fun m r3 s=>∃ i:Nat,r3=iv i∧s=⟨H,false⟩∧m=xs.length - i∧i≤xs.length∧∀ j (h:j < xs.length) (h':j < ys.length),j < i→xs[j]=ys[j]) xs.length (by simp -implicitDefEqProofs only []; omega) ⟨0,rfl,rfl,by omega,by omega,fun j _ _ h=>by omega⟩ ?_
    rintro m r2 r3 r4 r5 s ⟨i,rfl,rfl,hm,hi,hno⟩
    simp -implicitDefEqProofs only [fq44.n4_w,sw0,sw1,sw2,sw3,sw4,sw5,reduceCtorEq,Nat.reduceEqDiff,Nat.reduceAdd,Nat.reduceDiv,Nat.reduceLeDiff,hs.len]
    split
    · rename_i hlt
      have hlt:i < xs.length:=by omega
      have hlt':i < ys.length:=by omega
      simp -implicitDefEqProofs only [fq44.n6_w,sw0,sw1,sw2,sw3,sw4,sw5,reduceCtorEq,Nat.reduceEqDiff,Nat.reduceAdd,Nat.reduceDiv,Nat.reduceLeDiff,hs.at,hlt,hs.ld hlt hs.pos,ht.at,hlt',ht.ld hlt' ht.pos,ic]
      split
      · rename_i hb
        have:¬ xs=ys:=by intro e; subst e; exact hb rfl
        simp -implicitDefEqProofs only [fq44.n7_w,sw0,sw1,sw2,sw3,sw4,sw5,reduceCtorEq,Nat.reduceEqDiff,Nat.reduceAdd,Nat.reduceDiv,Nat.reduceLeDiff,fq44.ret,this]
      · rename_i hb
        simp -implicitDefEqProofs only [fq44.n8_w,sw0,sw1,sw2,sw3,sw4,sw5,reduceCtorEq,Nat.reduceEqDiff,Nat.reduceAdd,Nat.reduceDiv,Nat.reduceLeDiff]
        refine fq44.n3_go (m':=m - 1) (by omega) ⟨i + 1,by rw [wrap64 (by omega)]; rfl,rfl,by omega,by omega,?_⟩
        intro j h h' hj
        by_cases hji:j=i
        · subst hji; simpa using hb
        · exact hno j h h' (by omega)
    · rename_i hge
      have:xs=ys:=List.ext_getElem heq (fun j h h'=>hno j h h' (by omega))
      simp -implicitDefEqProofs only [fq44.n9_w,sw0,sw1,sw2,sw3,sw4,sw5,reduceCtorEq,Nat.reduceEqDiff,Nat.reduceAdd,Nat.reduceDiv,Nat.reduceLeDiff,fq44.ret,decide_eq_true this]
def coldOf:List Mach→Nat→Int
  | [],_=>0
  | m :: ms,n=>(if n.testBit 0 then m.cold else 0) + coldOf ms (n / 2)
def powerOf:List Mach→Nat→Int
  | [],_=>0
  | m :: ms,n=>(if n.testBit 0 then m.power else 0) + powerOf ms (n / 2)
def startOf:List Mach→Nat→Nat→Int
  | [],_,_=>0
  | m :: ms,n,o=>(if n.testBit 0 && !o.testBit 0 then m.start else 0) + startOf ms (n / 2) (o / 2)
theorem tb_drop (n i:Nat):(n / 2 ^ i).testBit 0=n.testBit i:=by
  rw [Nat.testBit_div_two_pow]; simp
theorem coldOf_drop {ms:List Mach} {i:Nat} (h:i < ms.length) (n:Nat):coldOf (ms.drop i) (n / 2 ^ i)=(if n.testBit i then ms[i].cold else 0) + coldOf (ms.drop (i + 1)) (n / 2 ^ (i + 1)):=by
  rw [List.drop_eq_getElem_cons h,coldOf,tb_drop,Nat.div_div_eq_div_mul,← Nat.pow_succ]
theorem powerOf_drop {ms:List Mach} {i:Nat} (h:i < ms.length) (n:Nat):powerOf (ms.drop i) (n / 2 ^ i)=(if n.testBit i then ms[i].power else 0) + powerOf (ms.drop (i + 1)) (n / 2 ^ (i + 1)):=by
  rw [List.drop_eq_getElem_cons h,powerOf,tb_drop,Nat.div_div_eq_div_mul,← Nat.pow_succ]
structure Plt.Ok (p:Plt):Prop where
  low:-1000000≤p.low∧p.low≤1000000
  high:p.low≤p.high∧p.high≤p.low + 1000
  heat:p.low≤p.heat∧p.heat≤p.high
  len:p.loads.length=p.prices.length
  hours:p.loads.length≤48
  loads:∀ i (h:i < p.loads.length),0≤p.loads[i]∧p.loads[i]≤1000000
  prices:∀ i (h:i < p.prices.length),0≤p.prices[i]∧p.prices[i]≤1000000
  few:p.machs.length≤4
  machs:∀ i (h:i < p.machs.length),(0≤p.machs[i].cold∧p.machs[i].cold≤1000000)∧(0≤p.machs[i].power∧p.machs[i].power≤1000000)∧(0≤p.machs[i].start∧p.machs[i].start≤1000000)
theorem Plt.ok_Ok {p:Plt} (h:p.ok=true):p.Ok:=by
  simp -implicitDefEqProofs only [Plt.ok,Plt.band,Mach.ok,amts,amt,Bool.and_eq_true,decide_eq_true_eq,List.all_eq_true] at h
  obtain ⟨⟨⟨h1,⟨h2,h3⟩,h4⟩,⟨⟨h5,h6⟩,h7⟩,h8⟩,h9⟩:=h
  refine ⟨h2,h3,h4,h5,h6,fun i hi=>h7 _ (List.getElem_mem _),fun i hi=>h8 _ (List.getElem_mem _),h9,fun i hi=>?_⟩
  have:=h1 _ (List.getElem_mem hi)
  simp -implicitDefEqProofs only [List.mem_cons,List.not_mem_nil,or_false,forall_eq_or_imp,forall_eq] at this
  exact this
def Plt.heatBy (p:Plt) (h:Nat) (before:Int) (n:Nat):Int:=max p.low (before + p.loads.getD h 0 - coldOf p.machs n)
def Plt.costBy (p:Plt) (h before n:Nat):Int:=p.prices.getD h 0 * powerOf p.machs n + startOf p.machs n before
end Go.Proofs.YtcebebhaahpoiaaDoor
end
section
namespace Go.Proofs.YtcebebhaahpoiaaDoor
open Go Go.Ai Go.W
attribute [local irreducible] VC YC WC
set_option linter.unusedSimpArgs false
set_option linter.unusedVariables false
set_option maxRecDepth 10000
variable {k:Nat} {b:Option Nat} {H:List AObj} {lk:Bool} {K:AV→St→Prop}
theorem coldOf_le {ms:List Mach} (h:∀ i (hi:i < ms.length),0≤ms[i].cold∧ms[i].cold≤1000000) (n:Nat):0≤coldOf ms n∧coldOf ms n≤ms.length * 1000000:=by
  induction ms generalizing n with
  | nil=>simp [coldOf]
  | cons m ms ih =>
    have h0:=h 0 (by simp)
    have:=ih (fun i hi=>by have:=h (i + 1) (by simpa using hi); simpa only [List.getElem_cons_succ] using this) (n / 2)
    simp -implicitDefEqProofs only [List.getElem_cons_zero] at h0
    simp -implicitDefEqProofs only [coldOf,List.length_cons]
    split <;> omega
theorem powerOf_le {ms:List Mach} (h:∀ i (hi:i < ms.length),0≤ms[i].power∧ms[i].power≤1000000) (n:Nat):0≤powerOf ms n∧powerOf ms n≤ms.length * 1000000:=by
  induction ms generalizing n with
  | nil=>simp [powerOf]
  | cons m ms ih =>
    have h0:=h 0 (by simp)
    have:=ih (fun i hi=>by have:=h (i + 1) (by simpa using hi); simpa only [List.getElem_cons_succ] using this) (n / 2)
    simp -implicitDefEqProofs only [List.getElem_cons_zero] at h0
    simp -implicitDefEqProofs only [powerOf,List.length_cons]
    split <;> omega
theorem startOf_le {ms:List Mach} (h:∀ i (hi:i < ms.length),0≤ms[i].start∧ms[i].start≤1000000) (n o:Nat):0≤startOf ms n o∧startOf ms n o≤ms.length * 1000000:=by
  induction ms generalizing n o with
  | nil=>simp [startOf]
  | cons m ms ih =>
    have h0:=h 0 (by simp)
    have:=ih (fun i hi=>by have:=h (i + 1) (by simpa using hi); simpa only [List.getElem_cons_succ] using this) (n / 2) (o / 2)
    simp -implicitDefEqProofs only [List.getElem_cons_zero] at h0
    simp -implicitDefEqProofs only [startOf,List.length_cons]
    split <;> omega
theorem mul_amt {a b:Int} (ha:0≤a∧a≤1000000) (hb:0≤b∧b≤4000000):0≤a * b∧a * b≤4000000000000:=by
  constructor
  · exact Int.mul_nonneg ha.1 hb.1
  · have h1:a * b≤1000000 * b:=Int.mul_le_mul_of_nonneg_right ha.2 hb.1
    omega
end Go.Proofs.YtcebebhaahpoiaaDoor
end
section
namespace Go.Proofs.YtcebebhaahpoiaaDoor
open Go Go.Ai Go.W
attribute [local irreducible] VC YC WC
set_option linter.unusedSimpArgs false
set_option linter.unusedVariables false
set_option maxRecDepth 10000
variable {k:Nat} {b:Option Nat} {H:List AObj} {lk:Bool} {K:AV→St→Prop}
def Plt.num (p:Plt) (n:Int):Bool:=decide (0≤n∧n≤(2 ^ p.machs.length:Nat) - 1)
def Plt.sched (p:Plt) (l:List Int):Bool:=p.ok && decide (l.length=p.loads.length) && l.all p.num
def heatsFrom (p:Plt):Nat→Int→List Int→List Int
  | _,_,[]=>[]
  | h,t,n :: l=>p.heatBy h t n.toNat :: heatsFrom p (h + 1) (p.heatBy h t n.toNat) l
theorem sched_at {p:Plt} {l:List Int} (h:p.sched l=true):p.Ok∧l.length=p.loads.length∧∀ i (hi:i < l.length),0≤l[i]∧l[i] < 16∧l[i]≤(2 ^ p.machs.length:Nat) - 1:=by
  simp -implicitDefEqProofs only [Plt.sched,Bool.and_eq_true,decide_eq_true_eq,List.all_eq_true] at h
  have ho:=Plt.ok_Ok h.1.1
  refine ⟨ho,h.1.2,fun i hi=>?_⟩
  have:=h.2 _ (List.getElem_mem hi)
  simp -implicitDefEqProofs only [Plt.num,decide_eq_true_eq] at this
  have h4:(2:Nat) ^ p.machs.length≤2 ^ 4:=Nat.pow_le_pow_right (by omega) ho.few
  omega
theorem heatBy_le {p:Plt} (ho:p.Ok) {h:Nat} (hh:h < p.loads.length) {t:Int} {n:Nat} {B:Int} (ht:-1000000≤t∧t≤B) (hB:2000000≤B):-1000000≤p.heatBy h t n∧p.heatBy h t n≤B + 1000000:=by
  have h1:=ho.loads h hh
  have h2:=coldOf_le (fun i hi=>(ho.machs i hi).1) n
  have h3:=ho.low
  unfold Plt.heatBy
  simp -implicitDefEqProofs only [List.getD_eq_getElem?_getD,List.getElem?_eq_getElem hh,Option.getD_some]
  omega
theorem drop_at {l:List Int} {i:Nat} (h:i < l.length):l.drop i=l[i] :: l.drop (i + 1):=List.drop_eq_getElem_cons h
theorem costBy_le {p:Plt} (ho:p.Ok) {h:Nat} (hh:h < p.loads.length) (o n:Nat):0≤p.costBy h o n∧p.costBy h o n≤4000004000000:=by
  have hh2:h < p.prices.length:=by rw [← ho.len]; exact hh
  have h1:=ho.prices h hh2
  have hf:=ho.few
  have h2:=powerOf_le (fun i hi=>(ho.machs i hi).2.1) n
  have h3:=startOf_le (fun i hi=>(ho.machs i hi).2.2) n o
  have h4:=mul_amt h1 ⟨h2.1,show powerOf p.machs n≤4000000 by omega⟩
  unfold Plt.costBy
  simp -implicitDefEqProofs only [List.getD_eq_getElem?_getD,List.getElem?_eq_getElem hh2,Option.getD_some]
  omega
end Go.Proofs.YtcebebhaahpoiaaDoor
end
