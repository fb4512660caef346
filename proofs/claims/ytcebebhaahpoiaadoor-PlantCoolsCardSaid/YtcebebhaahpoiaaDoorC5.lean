/- PlantCools: for every plant the law answers true and turns nothing, with no condition. Part 5 of 5. -/
import Derived.Test.YtcebebhaahpoiaaDoorC4
set_option maxHeartbeats 2000000
set_option linter.unusedSimpArgs false
set_option linter.unusedVariables false
set_option linter.deprecated false
set_option linter.all false
section
namespace Go.Proofs.YtcebebhaahpoiaaDoor
open Go Go.Ai Go.W
attribute [local irreducible] VC YC WC
set_option linter.unusedSimpArgs false
set_option linter.unusedVariables false
set_option maxRecDepth 10000
variable {k:Nat} {b:Option Nat} {H:List AObj} {lk:Bool} {K:AV→St→Prop}
theorem slots_u1 {k:Nat} {b:Option Nat} {ρ s Q}:WC ⟨prog,k,b⟩ q41.n1 ρ s Q=wLoop (WC ⟨prog,k,b⟩ q41.n2) k ρ s Q:=WC_lp
theorem Plan_u6 {k:Nat} {b:Option Nat} {ρ s Q}:WC ⟨prog,k,b⟩ q17.n6 ρ s Q=wLoop (WC ⟨prog,k,b⟩ q17.n7) k ρ s Q:=WC_lp
theorem Plan_u11 {k:Nat} {b:Option Nat} {ρ s Q}:WC ⟨prog,k,b⟩ q17.n11 ρ s Q=wLoop (WC ⟨prog,k,b⟩ q17.n12) k ρ s Q:=WC_lp
theorem heap_int_put_u1 {k:Nat} {b:Option Nat} {ρ s Q}:WC ⟨prog,k,b⟩ q22.n1 ρ s Q=wLoop (WC ⟨prog,k,b⟩ q22.n2) k ρ s Q:=WC_lp
theorem heap_int_take_u1 {k:Nat} {b:Option Nat} {ρ s Q}:WC ⟨prog,k,b⟩ q23.n1 ρ s Q=wLoop (WC ⟨prog,k,b⟩ q23.n2) k ρ s Q:=WC_lp
theorem heap_int_take_u3 {k:Nat} {b:Option Nat} {ρ s Q}:WC ⟨prog,k,b⟩ q23.n3 ρ s Q=wLoop (WC ⟨prog,k,b⟩ q23.n4) k ρ s Q:=WC_lp
abbrev shI:Sh:=.mk false [.int .i64]
theorem slotsB (hk:200≤k) (hK:K (.fn F_q42 [.ptr (H.length + 1) 0 1]) ⟨H ++ [.map shI 2 [(iv 0,.sref (H.length + 3) 0 2 2 1)],.cells [.map H.length],.cells [iv 0,iv 0,iv 1],.cells [iv 0,iv 1],.cells [iv 1,iv 0,iv 1]],false⟩):VC ⟨prog,k,b⟩ F_q41 [vB] ⟨H,false⟩ K:=by
  obtain ⟨k,rfl⟩:∃ j,k=j + 1:=⟨k - 1,by omega⟩
  obtain ⟨k,rfl⟩:∃ j,k=j + 100:=⟨k - 100,by omega⟩
  apply q41.enter
  have hu:AV.under H.length (AV.fn F_q42 [AV.ptr (H.length + 1) 0 1])=false:=by simp [AV.under,underL]
  simp -implicitDefEqProofs only [q41.n0_w,sw0,sw1,sw2,sw3,sw4,sw5,reduceCtorEq,Nat.reduceEqDiff,Nat.reduceAdd,Nat.reduceDiv,Nat.reduceLeDiff,dw0,Int.reduceAdd,Int.reduceSub,Int.reduceMul,Int.reduceLT,Int.reduceLE,Int.reduceNeg,Int.reduceEq,Int.reduceToNat,Nat.reduceLT,Nat.reduceMul,Nat.reduceSub,Nat.reduceBEq,Nat.reduceLeDiff,xw0,eApp,rowOf,appRow,lkL,lkN,eMupd,vLook,mapSh,findE,putE,keqL,hasSh,fits,shb,Int.reduceBEq,eMksl,vSlc,boundsOf,boundOf,cleanL,Nat.reduceGT,Int.reduceGT,Int.reduceGE,Int.reduceDiv,Int.reduceTDiv,vAidx,rdc,slots_u1]
  simp -implicitDefEqProofs only [wl_s,q41.n2_w]
  simp -implicitDefEqProofs only [sw0,sw1,sw2,sw3,sw4,sw5,reduceCtorEq,Nat.reduceEqDiff,Nat.reduceAdd,Nat.reduceDiv,Nat.reduceLeDiff,dw0,Int.reduceAdd,Int.reduceSub,Int.reduceMul,Int.reduceLT,Int.reduceLE,Int.reduceNeg,Int.reduceEq,Int.reduceToNat,Nat.reduceLT,Nat.reduceMul,Nat.reduceSub,Nat.reduceBEq,Nat.reduceLeDiff,xw0,eApp,rowOf,appRow,lkL,lkN,eMupd,vLook,mapSh,findE,putE,keqL,hasSh,fits,shb,Int.reduceBEq,eMksl,vSlc,boundsOf,boundOf,cleanL,Nat.reduceGT,Int.reduceGT,Int.reduceGE,Int.reduceDiv,Int.reduceTDiv,vAidx,rdc,q41.n4_w]
  simp -implicitDefEqProofs only [wl_s,q41.n2_w]
  simp -implicitDefEqProofs only [sw0,sw1,sw2,sw3,sw4,sw5,reduceCtorEq,Nat.reduceEqDiff,Nat.reduceAdd,Nat.reduceDiv,Nat.reduceLeDiff,dw0,Int.reduceAdd,Int.reduceSub,Int.reduceMul,Int.reduceLT,Int.reduceLE,Int.reduceNeg,Int.reduceEq,Int.reduceToNat,Nat.reduceLT,Nat.reduceMul,Nat.reduceSub,Nat.reduceBEq,Nat.reduceLeDiff,xw0,eApp,rowOf,appRow,lkL,lkN,eMupd,vLook,mapSh,findE,putE,keqL,hasSh,fits,shb,Int.reduceBEq,eMksl,vSlc,boundsOf,boundOf,cleanL,Nat.reduceGT,Int.reduceGT,Int.reduceGE,Int.reduceDiv,Int.reduceTDiv,vAidx,rdc,q41.n4_w]
  simp -implicitDefEqProofs only [wl_s,q41.n2_w]
  simp -implicitDefEqProofs only [sw0,sw1,sw2,sw3,sw4,sw5,reduceCtorEq,Nat.reduceEqDiff,Nat.reduceAdd,Nat.reduceDiv,Nat.reduceLeDiff,dw0,Int.reduceAdd,Int.reduceSub,Int.reduceMul,Int.reduceLT,Int.reduceLE,Int.reduceNeg,Int.reduceEq,Int.reduceToNat,Nat.reduceLT,Nat.reduceMul,Nat.reduceSub,Nat.reduceBEq,Nat.reduceLeDiff,xw0,eApp,rowOf,appRow,lkL,lkN,eMupd,vLook,mapSh,findE,putE,keqL,hasSh,fits,shb,Int.reduceBEq,eMksl,vSlc,boundsOf,boundOf,cleanL,Nat.reduceGT,Int.reduceGT,Int.reduceGE,Int.reduceDiv,Int.reduceTDiv,vAidx,rdc,q41.n5_w,q41.ret,hu]
  exact hK
theorem gO_u {b:Bool} {s:St} {X:(AV→St→Prop)→Prop} {K:AV→St→Prop}:gO .undef b s X K=K .undef s:=rfl
theorem Plan_1_s {v:AV} {qs:List (Int × Int × Int)} {cl x y:Nat} (hs:Sl H 3 jc v qs) (hr:row H cl 1=some [v]) (hx:x < qs.length) (hy:y < qs.length):VC ⟨prog,k + 1,b⟩ F_q18 [iv x,iv y,.ptr cl 0 1] ⟨H,lk⟩ K=K (.bool (decide (qs[x].2.2 < qs[y].2.2∨qs[x].2.2=qs[y].2.2∧x < y))) ⟨H,lk⟩:=by
  apply VC_iff
  apply q18.enter
  have hx2:=hs.ld hx (show 2 < 3 by omega)
  have hy2:=hs.ld hy (show 2 < 3 by omega)
  have hax:=hs.at' (k:=.i64) hx
  have hay:=hs.at' (k:=.i64) hy
  by_cases c1:qs[x].2.2 < qs[y].2.2
  · simp -implicitDefEqProofs only [q18.n0_w,sw0,sw1,sw2,sw3,sw4,sw5,reduceCtorEq,Nat.reduceEqDiff,Nat.reduceAdd,Nat.reduceDiv,Nat.reduceLeDiff,hr,hs.at,hx,hy,hs.off,hx2,hy2,eq_true c1,q18.ret,true_or,gO_u]
  · by_cases c2:qs[x].2.2=qs[y].2.2
    · by_cases c3:(x:Int) < y
      · have c3':x < y:=by omega
        simp -implicitDefEqProofs only [q18.n0_w,sw0,sw1,sw2,sw3,sw4,sw5,reduceCtorEq,Nat.reduceEqDiff,Nat.reduceAdd,Nat.reduceDiv,Nat.reduceLeDiff,hr,hs.at,hx,hy,hs.off,hx2,hy2,eq_false c1,eq_true c2,eq_true c3,eq_true c3',q18.ret,false_or,or_true]
      · have c3':¬ x < y:=by omega
        simp -implicitDefEqProofs only [q18.n0_w,sw0,sw1,sw2,sw3,sw4,sw5,reduceCtorEq,Nat.reduceEqDiff,Nat.reduceAdd,Nat.reduceDiv,Nat.reduceLeDiff,hr,hs.at,hx,hy,hs.off,hx2,hy2,eq_false c1,eq_true c2,eq_false c3,eq_false c3',q18.ret,false_or,or_self]
    · simp -implicitDefEqProofs only [q18.n0_w,sw0,sw1,sw2,sw3,sw4,sw5,reduceCtorEq,Nat.reduceEqDiff,Nat.reduceAdd,Nat.reduceDiv,Nat.reduceLeDiff,hr,hs.at,hx,hy,hs.off,hx2,hy2,eq_false c1,eq_false c2,q18.ret,false_or,false_and,or_self]
variable {f:AV} {L:List AObj} {a c x:AV}
theorem put0 {n:Int} (hK:K (.tup []) ⟨H ++ (.cells [.sref (H.length + (L.length + 1)) 0 1 1 1,f] :: (L ++ [.cells [iv n]])),true⟩):VC ⟨prog,k + 100,b⟩ F_q22 [.ptr H.length 0 2,iv n] ⟨H ++ (.cells [.slice true 0 [],f] :: L),lk⟩ K:=by
  apply q22.enter
  simp -implicitDefEqProofs only [q22.n0_w,sw0,sw1,sw2,sw3,sw4,sw5,reduceCtorEq,Nat.reduceEqDiff,Nat.reduceAdd,Nat.reduceDiv,Nat.reduceLeDiff,dw0,Int.reduceAdd,Int.reduceSub,Int.reduceMul,Int.reduceLT,Int.reduceLE,Int.reduceNeg,Int.reduceEq,Int.reduceToNat,Nat.reduceLT,Nat.reduceMul,Nat.reduceSub,Nat.reduceBEq,Nat.reduceLeDiff,xw0,eApp,rowOf,appRow,lkL,lkN,eMupd,vLook,mapSh,findE,putE,keqL,hasSh,fits,shb,Int.reduceBEq,eMksl,vSlc,boundsOf,boundOf,cleanL,Nat.reduceGT,Int.reduceGT,Int.reduceGE,Int.reduceDiv,Int.reduceTDiv,vAidx,rdc,heap_int_put_u1]
  simp -implicitDefEqProofs only [wl_s,q22.n2_w]
  simp -implicitDefEqProofs only [sw0,sw1,sw2,sw3,sw4,sw5,reduceCtorEq,Nat.reduceEqDiff,Nat.reduceAdd,Nat.reduceDiv,Nat.reduceLeDiff,dw0,Int.reduceAdd,Int.reduceSub,Int.reduceMul,Int.reduceLT,Int.reduceLE,Int.reduceNeg,Int.reduceEq,Int.reduceToNat,Nat.reduceLT,Nat.reduceMul,Nat.reduceSub,Nat.reduceBEq,Nat.reduceLeDiff,xw0,eApp,rowOf,appRow,lkL,lkN,eMupd,vLook,mapSh,findE,putE,keqL,hasSh,fits,shb,Int.reduceBEq,eMksl,vSlc,boundsOf,boundOf,cleanL,Nat.reduceGT,Int.reduceGT,Int.reduceGE,Int.reduceDiv,Int.reduceTDiv,vAidx,rdc,q22.ret]
  exact hK
theorem put1_1 {v z:AV} {qs:List (Int × Int × Int)} {cl n m:Nat} (hs:Sl H 3 jc v qs) (hr:row H cl 1=some [v]) (hn:n < qs.length) (hm:m < qs.length)
    (hK:K (.tup []) ⟨H ++ (.cells [.sref (H.length + (L.length + 1)) 0 2 2 1,.fn F_q18 [.ptr cl 0 1]] :: (L ++ [.cells (if qs[n].2.2 < qs[m].2.2∨qs[n].2.2=qs[m].2.2∧n < m then [iv n,iv m] else [iv m,iv n])])),true⟩) :
    VC ⟨prog,k + 100,b⟩ F_q22 [.ptr H.length 0 2,iv n] ⟨H ++ (.cells [.sref (H.length + (L.length + 1)) 0 1 1 1,.fn F_q18 [.ptr cl 0 1]] :: (L ++ [AObj.cells [iv m]])),lk⟩ K:=by
  apply q22.enter
  have hbe:=fun (X:List AObj) (lk:Bool) (b:Option Nat) (K:AV→St→Prop)=>Plan_1_s (k:=k + 98) (lk:=lk) (b:=b) (K:=K) (hs.app (L:=X)) (row_app (L:=X) hr) hn hm
  by_cases c:qs[n].2.2 < qs[m].2.2∨qs[n].2.2=qs[m].2.2∧n < m
  · rw [if_pos c] at hK
    simp -implicitDefEqProofs only [eq_true c] at hbe
    simp -implicitDefEqProofs only [q22.n0_w,sw0,sw1,sw2,sw3,sw4,sw5,reduceCtorEq,Nat.reduceEqDiff,Nat.reduceAdd,Nat.reduceDiv,Nat.reduceLeDiff,dw0,Int.reduceAdd,Int.reduceSub,Int.reduceMul,Int.reduceLT,Int.reduceLE,Int.reduceNeg,Int.reduceEq,Int.reduceToNat,Nat.reduceLT,Nat.reduceMul,Nat.reduceSub,Nat.reduceBEq,Nat.reduceLeDiff,xw0,eApp,rowOf,appRow,lkL,lkN,eMupd,vLook,mapSh,findE,putE,keqL,hasSh,fits,shb,Int.reduceBEq,eMksl,vSlc,boundsOf,boundOf,cleanL,Nat.reduceGT,Int.reduceGT,Int.reduceGE,Int.reduceDiv,Int.reduceTDiv,vAidx,rdc,heap_int_put_u1]
    simp -implicitDefEqProofs only [wl_s,q22.n2_w]
    simp -implicitDefEqProofs only [sw0,sw1,sw2,sw3,sw4,sw5,reduceCtorEq,Nat.reduceEqDiff,Nat.reduceAdd,Nat.reduceDiv,Nat.reduceLeDiff,dw0,Int.reduceAdd,Int.reduceSub,Int.reduceMul,Int.reduceLT,Int.reduceLE,Int.reduceNeg,Int.reduceEq,Int.reduceToNat,Nat.reduceLT,Nat.reduceMul,Nat.reduceSub,Nat.reduceBEq,Nat.reduceLeDiff,xw0,eApp,rowOf,appRow,lkL,lkN,eMupd,vLook,mapSh,findE,putE,keqL,hasSh,fits,shb,Int.reduceBEq,eMksl,vSlc,boundsOf,boundOf,cleanL,Nat.reduceGT,Int.reduceGT,Int.reduceGE,Int.reduceDiv,Int.reduceTDiv,vAidx,rdc,q22.n4_w,hbe,q22.n5_w]
    simp -implicitDefEqProofs only [wl_s,q22.n2_w]
    simp -implicitDefEqProofs only [sw0,sw1,sw2,sw3,sw4,sw5,reduceCtorEq,Nat.reduceEqDiff,Nat.reduceAdd,Nat.reduceDiv,Nat.reduceLeDiff,dw0,Int.reduceAdd,Int.reduceSub,Int.reduceMul,Int.reduceLT,Int.reduceLE,Int.reduceNeg,Int.reduceEq,Int.reduceToNat,Nat.reduceLT,Nat.reduceMul,Nat.reduceSub,Nat.reduceBEq,Nat.reduceLeDiff,xw0,eApp,rowOf,appRow,lkL,lkN,eMupd,vLook,mapSh,findE,putE,keqL,hasSh,fits,shb,Int.reduceBEq,eMksl,vSlc,boundsOf,boundOf,cleanL,Nat.reduceGT,Int.reduceGT,Int.reduceGE,Int.reduceDiv,Int.reduceTDiv,vAidx,rdc,q22.ret]
    exact hK
  · rw [if_neg c] at hK
    simp -implicitDefEqProofs only [eq_false c] at hbe
    simp -implicitDefEqProofs only [q22.n0_w,sw0,sw1,sw2,sw3,sw4,sw5,reduceCtorEq,Nat.reduceEqDiff,Nat.reduceAdd,Nat.reduceDiv,Nat.reduceLeDiff,dw0,Int.reduceAdd,Int.reduceSub,Int.reduceMul,Int.reduceLT,Int.reduceLE,Int.reduceNeg,Int.reduceEq,Int.reduceToNat,Nat.reduceLT,Nat.reduceMul,Nat.reduceSub,Nat.reduceBEq,Nat.reduceLeDiff,xw0,eApp,rowOf,appRow,lkL,lkN,eMupd,vLook,mapSh,findE,putE,keqL,hasSh,fits,shb,Int.reduceBEq,eMksl,vSlc,boundsOf,boundOf,cleanL,Nat.reduceGT,Int.reduceGT,Int.reduceGE,Int.reduceDiv,Int.reduceTDiv,vAidx,rdc,heap_int_put_u1]
    simp -implicitDefEqProofs only [wl_s,q22.n2_w]
    simp -implicitDefEqProofs only [sw0,sw1,sw2,sw3,sw4,sw5,reduceCtorEq,Nat.reduceEqDiff,Nat.reduceAdd,Nat.reduceDiv,Nat.reduceLeDiff,dw0,Int.reduceAdd,Int.reduceSub,Int.reduceMul,Int.reduceLT,Int.reduceLE,Int.reduceNeg,Int.reduceEq,Int.reduceToNat,Nat.reduceLT,Nat.reduceMul,Nat.reduceSub,Nat.reduceBEq,Nat.reduceLeDiff,xw0,eApp,rowOf,appRow,lkL,lkN,eMupd,vLook,mapSh,findE,putE,keqL,hasSh,fits,shb,Int.reduceBEq,eMksl,vSlc,boundsOf,boundOf,cleanL,Nat.reduceGT,Int.reduceGT,Int.reduceGE,Int.reduceDiv,Int.reduceTDiv,vAidx,rdc,q22.n4_w,hbe,q22.ret]
    exact hK
theorem put1_2 {v z:AV} {qs:List (Int × Int × Int)} {cl n m:Nat} (hs:Sl H 3 jc v qs) (hr:row H cl 1=some [v]) (hn:n < qs.length) (hm:m < qs.length)
    (hK:K (.tup []) ⟨H ++ (.cells [.sref (H.length + (L.length + 1)) 0 2 2 1,.fn F_q18 [.ptr cl 0 1]] :: (L ++ [.cells (if qs[n].2.2 < qs[m].2.2∨qs[n].2.2=qs[m].2.2∧n < m then [iv n,iv m] else [iv m,iv n])])),true⟩) :
    VC ⟨prog,k + 100,b⟩ F_q22 [.ptr H.length 0 2,iv n] ⟨H ++ (.cells [.sref (H.length + (L.length + 1)) 0 1 2 1,.fn F_q18 [.ptr cl 0 1]] :: (L ++ [AObj.cells [iv m,z]])),lk⟩ K:=by
  apply q22.enter
  have hbe:=fun (X:List AObj) (lk:Bool) (b:Option Nat) (K:AV→St→Prop)=>Plan_1_s (k:=k + 98) (lk:=lk) (b:=b) (K:=K) (hs.app (L:=X)) (row_app (L:=X) hr) hn hm
  by_cases c:qs[n].2.2 < qs[m].2.2∨qs[n].2.2=qs[m].2.2∧n < m
  · rw [if_pos c] at hK
    simp -implicitDefEqProofs only [eq_true c] at hbe
    simp -implicitDefEqProofs only [q22.n0_w,sw0,sw1,sw2,sw3,sw4,sw5,reduceCtorEq,Nat.reduceEqDiff,Nat.reduceAdd,Nat.reduceDiv,Nat.reduceLeDiff,dw0,Int.reduceAdd,Int.reduceSub,Int.reduceMul,Int.reduceLT,Int.reduceLE,Int.reduceNeg,Int.reduceEq,Int.reduceToNat,Nat.reduceLT,Nat.reduceMul,Nat.reduceSub,Nat.reduceBEq,Nat.reduceLeDiff,xw0,eApp,rowOf,appRow,lkL,lkN,eMupd,vLook,mapSh,findE,putE,keqL,hasSh,fits,shb,Int.reduceBEq,eMksl,vSlc,boundsOf,boundOf,cleanL,Nat.reduceGT,Int.reduceGT,Int.reduceGE,Int.reduceDiv,Int.reduceTDiv,vAidx,rdc,heap_int_put_u1]
    simp -implicitDefEqProofs only [wl_s,q22.n2_w]
    simp -implicitDefEqProofs only [sw0,sw1,sw2,sw3,sw4,sw5,reduceCtorEq,Nat.reduceEqDiff,Nat.reduceAdd,Nat.reduceDiv,Nat.reduceLeDiff,dw0,Int.reduceAdd,Int.reduceSub,Int.reduceMul,Int.reduceLT,Int.reduceLE,Int.reduceNeg,Int.reduceEq,Int.reduceToNat,Nat.reduceLT,Nat.reduceMul,Nat.reduceSub,Nat.reduceBEq,Nat.reduceLeDiff,xw0,eApp,rowOf,appRow,lkL,lkN,eMupd,vLook,mapSh,findE,putE,keqL,hasSh,fits,shb,Int.reduceBEq,eMksl,vSlc,boundsOf,boundOf,cleanL,Nat.reduceGT,Int.reduceGT,Int.reduceGE,Int.reduceDiv,Int.reduceTDiv,vAidx,rdc,q22.n4_w,hbe,q22.n5_w]
    simp -implicitDefEqProofs only [wl_s,q22.n2_w]
    simp -implicitDefEqProofs only [sw0,sw1,sw2,sw3,sw4,sw5,reduceCtorEq,Nat.reduceEqDiff,Nat.reduceAdd,Nat.reduceDiv,Nat.reduceLeDiff,dw0,Int.reduceAdd,Int.reduceSub,Int.reduceMul,Int.reduceLT,Int.reduceLE,Int.reduceNeg,Int.reduceEq,Int.reduceToNat,Nat.reduceLT,Nat.reduceMul,Nat.reduceSub,Nat.reduceBEq,Nat.reduceLeDiff,xw0,eApp,rowOf,appRow,lkL,lkN,eMupd,vLook,mapSh,findE,putE,keqL,hasSh,fits,shb,Int.reduceBEq,eMksl,vSlc,boundsOf,boundOf,cleanL,Nat.reduceGT,Int.reduceGT,Int.reduceGE,Int.reduceDiv,Int.reduceTDiv,vAidx,rdc,q22.ret]
    exact hK
  · rw [if_neg c] at hK
    simp -implicitDefEqProofs only [eq_false c] at hbe
    simp -implicitDefEqProofs only [q22.n0_w,sw0,sw1,sw2,sw3,sw4,sw5,reduceCtorEq,Nat.reduceEqDiff,Nat.reduceAdd,Nat.reduceDiv,Nat.reduceLeDiff,dw0,Int.reduceAdd,Int.reduceSub,Int.reduceMul,Int.reduceLT,Int.reduceLE,Int.reduceNeg,Int.reduceEq,Int.reduceToNat,Nat.reduceLT,Nat.reduceMul,Nat.reduceSub,Nat.reduceBEq,Nat.reduceLeDiff,xw0,eApp,rowOf,appRow,lkL,lkN,eMupd,vLook,mapSh,findE,putE,keqL,hasSh,fits,shb,Int.reduceBEq,eMksl,vSlc,boundsOf,boundOf,cleanL,Nat.reduceGT,Int.reduceGT,Int.reduceGE,Int.reduceDiv,Int.reduceTDiv,vAidx,rdc,heap_int_put_u1]
    simp -implicitDefEqProofs only [wl_s,q22.n2_w]
    simp -implicitDefEqProofs only [sw0,sw1,sw2,sw3,sw4,sw5,reduceCtorEq,Nat.reduceEqDiff,Nat.reduceAdd,Nat.reduceDiv,Nat.reduceLeDiff,dw0,Int.reduceAdd,Int.reduceSub,Int.reduceMul,Int.reduceLT,Int.reduceLE,Int.reduceNeg,Int.reduceEq,Int.reduceToNat,Nat.reduceLT,Nat.reduceMul,Nat.reduceSub,Nat.reduceBEq,Nat.reduceLeDiff,xw0,eApp,rowOf,appRow,lkL,lkN,eMupd,vLook,mapSh,findE,putE,keqL,hasSh,fits,shb,Int.reduceBEq,eMksl,vSlc,boundsOf,boundOf,cleanL,Nat.reduceGT,Int.reduceGT,Int.reduceGE,Int.reduceDiv,Int.reduceTDiv,vAidx,rdc,q22.n4_w,hbe,q22.ret]
    exact hK
theorem take1 (hk:100≤k) {ver:Nat} {R:List AV} {n:Int} (hv:R.length + 1=ver) (hK:K (iv n) ⟨H ++ (.cells [.slice false 1 [],f] :: (L ++ [.cells (iv n :: R)])),true⟩) :
    VC ⟨prog,k + 1,b⟩ F_q23 [.ptr H.length 0 2] ⟨H ++ (.cells [.sref (H.length + (L.length + 1)) 0 1 ver 1,f] :: (L ++ [.cells (iv n :: R)])),true⟩ K:=by
  subst hv
  apply q23.enter
  simp -implicitDefEqProofs only [q23.n0_w,sw0,sw1,sw2,sw3,sw4,sw5,reduceCtorEq,Nat.reduceEqDiff,Nat.reduceAdd,Nat.reduceDiv,Nat.reduceLeDiff,dw0,Int.reduceAdd,Int.reduceSub,Int.reduceMul,Int.reduceLT,Int.reduceLE,Int.reduceNeg,Int.reduceEq,Int.reduceToNat,Nat.reduceLT,Nat.reduceMul,Nat.reduceSub,Nat.reduceBEq,Nat.reduceLeDiff,xw0,eApp,rowOf,appRow,lkL,lkN,eMupd,vLook,mapSh,findE,putE,keqL,hasSh,fits,shb,Int.reduceBEq,eMksl,vSlc,boundsOf,boundOf,cleanL,Nat.reduceGT,Int.reduceGT,Int.reduceGE,Int.reduceDiv,Int.reduceTDiv,vAidx,rdc,heap_int_take_u1]
  rw [wl_1 (by omega)]
  simp -implicitDefEqProofs only [q23.n2_w,sw0,sw1,sw2,sw3,sw4,sw5,reduceCtorEq,Nat.reduceEqDiff,Nat.reduceAdd,Nat.reduceDiv,Nat.reduceLeDiff,dw0,Int.reduceAdd,Int.reduceSub,Int.reduceMul,Int.reduceLT,Int.reduceLE,Int.reduceNeg,Int.reduceEq,Int.reduceToNat,Nat.reduceLT,Nat.reduceMul,Nat.reduceSub,Nat.reduceBEq,Nat.reduceLeDiff,xw0,eApp,rowOf,appRow,lkL,lkN,eMupd,vLook,mapSh,findE,putE,keqL,hasSh,fits,shb,Int.reduceBEq,eMksl,vSlc,boundsOf,boundOf,cleanL,Nat.reduceGT,Int.reduceGT,Int.reduceGE,Int.reduceDiv,Int.reduceTDiv,vAidx,rdc,heap_int_take_u3]
  rw [wl_1 (by omega)]
  simp -implicitDefEqProofs only [q23.n4_w,sw0,sw1,sw2,sw3,sw4,sw5,reduceCtorEq,Nat.reduceEqDiff,Nat.reduceAdd,Nat.reduceDiv,Nat.reduceLeDiff,dw0,Int.reduceAdd,Int.reduceSub,Int.reduceMul,Int.reduceLT,Int.reduceLE,Int.reduceNeg,Int.reduceEq,Int.reduceToNat,Nat.reduceLT,Nat.reduceMul,Nat.reduceSub,Nat.reduceBEq,Nat.reduceLeDiff,xw0,eApp,rowOf,appRow,lkL,lkN,eMupd,vLook,mapSh,findE,putE,keqL,hasSh,fits,shb,Int.reduceBEq,eMksl,vSlc,boundsOf,boundOf,cleanL,Nat.reduceGT,Int.reduceGT,Int.reduceGE,Int.reduceDiv,Int.reduceTDiv,vAidx,rdc,q23.n6_w,q23.n8_w]
  rw [wl_1 (by omega)]
  simp -implicitDefEqProofs only [q23.n4_w,sw0,sw1,sw2,sw3,sw4,sw5,reduceCtorEq,Nat.reduceEqDiff,Nat.reduceAdd,Nat.reduceDiv,Nat.reduceLeDiff,dw0,Int.reduceAdd,Int.reduceSub,Int.reduceMul,Int.reduceLT,Int.reduceLE,Int.reduceNeg,Int.reduceEq,Int.reduceToNat,Nat.reduceLT,Nat.reduceMul,Nat.reduceSub,Nat.reduceBEq,Nat.reduceLeDiff,xw0,eApp,rowOf,appRow,lkL,lkN,eMupd,vLook,mapSh,findE,putE,keqL,hasSh,fits,shb,Int.reduceBEq,eMksl,vSlc,boundsOf,boundOf,cleanL,Nat.reduceGT,Int.reduceGT,Int.reduceGE,Int.reduceDiv,Int.reduceTDiv,vAidx,rdc,q23.n6_w,q23.n8_w]
  rw [wl_1 (by omega)]
  simp -implicitDefEqProofs only [q23.n4_w,sw0,sw1,sw2,sw3,sw4,sw5,reduceCtorEq,Nat.reduceEqDiff,Nat.reduceAdd,Nat.reduceDiv,Nat.reduceLeDiff,dw0,Int.reduceAdd,Int.reduceSub,Int.reduceMul,Int.reduceLT,Int.reduceLE,Int.reduceNeg,Int.reduceEq,Int.reduceToNat,Nat.reduceLT,Nat.reduceMul,Nat.reduceSub,Nat.reduceBEq,Nat.reduceLeDiff,xw0,eApp,rowOf,appRow,lkL,lkN,eMupd,vLook,mapSh,findE,putE,keqL,hasSh,fits,shb,Int.reduceBEq,eMksl,vSlc,boundsOf,boundOf,cleanL,Nat.reduceGT,Int.reduceGT,Int.reduceGE,Int.reduceDiv,Int.reduceTDiv,vAidx,rdc,q23.n9_w,q23.n10_w,q23.ret]
  rw [List.take_of_length_le (by simp)]
  exact hK
theorem take2 (hk:100≤k) {n m:Int} (hK:K (iv n) ⟨H ++ (.cells [.sref (H.length + (L.length + 1)) 0 1 2 1,f] :: (L ++ [.cells [iv m,iv m]])),true⟩) :
    VC ⟨prog,k + 1,b⟩ F_q23 [.ptr H.length 0 2] ⟨H ++ (.cells [.sref (H.length + (L.length + 1)) 0 2 2 1,f] :: (L ++ [.cells [iv n,iv m]])),true⟩ K:=by
  apply q23.enter
  simp -implicitDefEqProofs only [q23.n0_w,sw0,sw1,sw2,sw3,sw4,sw5,reduceCtorEq,Nat.reduceEqDiff,Nat.reduceAdd,Nat.reduceDiv,Nat.reduceLeDiff,dw0,Int.reduceAdd,Int.reduceSub,Int.reduceMul,Int.reduceLT,Int.reduceLE,Int.reduceNeg,Int.reduceEq,Int.reduceToNat,Nat.reduceLT,Nat.reduceMul,Nat.reduceSub,Nat.reduceBEq,Nat.reduceLeDiff,xw0,eApp,rowOf,appRow,lkL,lkN,eMupd,vLook,mapSh,findE,putE,keqL,hasSh,fits,shb,Int.reduceBEq,eMksl,vSlc,boundsOf,boundOf,cleanL,Nat.reduceGT,Int.reduceGT,Int.reduceGE,Int.reduceDiv,Int.reduceTDiv,vAidx,rdc,heap_int_take_u1]
  rw [wl_1 (by omega)]
  simp -implicitDefEqProofs only [q23.n2_w,sw0,sw1,sw2,sw3,sw4,sw5,reduceCtorEq,Nat.reduceEqDiff,Nat.reduceAdd,Nat.reduceDiv,Nat.reduceLeDiff,dw0,Int.reduceAdd,Int.reduceSub,Int.reduceMul,Int.reduceLT,Int.reduceLE,Int.reduceNeg,Int.reduceEq,Int.reduceToNat,Nat.reduceLT,Nat.reduceMul,Nat.reduceSub,Nat.reduceBEq,Nat.reduceLeDiff,xw0,eApp,rowOf,appRow,lkL,lkN,eMupd,vLook,mapSh,findE,putE,keqL,hasSh,fits,shb,Int.reduceBEq,eMksl,vSlc,boundsOf,boundOf,cleanL,Nat.reduceGT,Int.reduceGT,Int.reduceGE,Int.reduceDiv,Int.reduceTDiv,vAidx,rdc,heap_int_take_u3]
  rw [wl_1 (by omega)]
  simp -implicitDefEqProofs only [q23.n4_w,sw0,sw1,sw2,sw3,sw4,sw5,reduceCtorEq,Nat.reduceEqDiff,Nat.reduceAdd,Nat.reduceDiv,Nat.reduceLeDiff,dw0,Int.reduceAdd,Int.reduceSub,Int.reduceMul,Int.reduceLT,Int.reduceLE,Int.reduceNeg,Int.reduceEq,Int.reduceToNat,Nat.reduceLT,Nat.reduceMul,Nat.reduceSub,Nat.reduceBEq,Nat.reduceLeDiff,xw0,eApp,rowOf,appRow,lkL,lkN,eMupd,vLook,mapSh,findE,putE,keqL,hasSh,fits,shb,Int.reduceBEq,eMksl,vSlc,boundsOf,boundOf,cleanL,Nat.reduceGT,Int.reduceGT,Int.reduceGE,Int.reduceDiv,Int.reduceTDiv,vAidx,rdc,q23.n6_w,q23.n8_w]
  rw [wl_1 (by omega)]
  simp -implicitDefEqProofs only [q23.n4_w,sw0,sw1,sw2,sw3,sw4,sw5,reduceCtorEq,Nat.reduceEqDiff,Nat.reduceAdd,Nat.reduceDiv,Nat.reduceLeDiff,dw0,Int.reduceAdd,Int.reduceSub,Int.reduceMul,Int.reduceLT,Int.reduceLE,Int.reduceNeg,Int.reduceEq,Int.reduceToNat,Nat.reduceLT,Nat.reduceMul,Nat.reduceSub,Nat.reduceBEq,Nat.reduceLeDiff,xw0,eApp,rowOf,appRow,lkL,lkN,eMupd,vLook,mapSh,findE,putE,keqL,hasSh,fits,shb,Int.reduceBEq,eMksl,vSlc,boundsOf,boundOf,cleanL,Nat.reduceGT,Int.reduceGT,Int.reduceGE,Int.reduceDiv,Int.reduceTDiv,vAidx,rdc,q23.n6_w,q23.n8_w]
  rw [wl_1 (by omega)]
  simp -implicitDefEqProofs only [q23.n4_w,sw0,sw1,sw2,sw3,sw4,sw5,reduceCtorEq,Nat.reduceEqDiff,Nat.reduceAdd,Nat.reduceDiv,Nat.reduceLeDiff,dw0,Int.reduceAdd,Int.reduceSub,Int.reduceMul,Int.reduceLT,Int.reduceLE,Int.reduceNeg,Int.reduceEq,Int.reduceToNat,Nat.reduceLT,Nat.reduceMul,Nat.reduceSub,Nat.reduceBEq,Nat.reduceLeDiff,xw0,eApp,rowOf,appRow,lkL,lkN,eMupd,vLook,mapSh,findE,putE,keqL,hasSh,fits,shb,Int.reduceBEq,eMksl,vSlc,boundsOf,boundOf,cleanL,Nat.reduceGT,Int.reduceGT,Int.reduceGE,Int.reduceDiv,Int.reduceTDiv,vAidx,rdc,q23.n9_w,q23.n10_w,q23.ret]
  exact hK
theorem slots_1_s {J:Nat→St→Prop} {R:St→Prop} (hk:1000≤k) {l ck:Nat} {s:St}
    (hy:∀ (t:Nat) s,t < 500→J t s→∃ m v,row s.heap ck 1=some [m]∧vLook s.heap shI (.slice true 0 []) false m (iv t)=some v∧∀ b,YC ⟨prog,k,b⟩ l [iv t,v] s (fun w s'=>(w=.bool true∧J (t + 1) s')∨(w=.bool false∧R s')))
    (h0:J 0 { s with leak:=false }) (hend:∀ s,J 500 s→R s) (hR:∀ s',R s'→s'.leak=true∧K (.tup []) ⟨s'.heap,true⟩):VC ⟨prog,k + 1,b⟩ F_q42 [.yield l,.ptr ck 0 1] s K:=by
  have hfin:∀ s',R s'→K (leave s.heap.length s.leak [] [] s').1 (leave s.heap.length s.leak [] [] s').2:=by
    intro s' h
    obtain ⟨h1,h2⟩:=hR s' h
    obtain ⟨G,lk'⟩:=s'
    dsimp only at h1
    subst h1
    rw [lv_t]
    exact h2
  apply q42.enter
  simp -implicitDefEqProofs only [q42.n0_w,sw0,sw1,sw2,sw3,sw4,sw5,reduceCtorEq,Nat.reduceEqDiff,Nat.reduceAdd,Nat.reduceDiv,Nat.reduceLeDiff]
  refine q42.n1_l (fun m r2 s=>∃ t:Nat,r2=iv t∧m=500 - t∧t≤500∧J t s) 500 (by simp -implicitDefEqProofs only []; omega) ⟨0,rfl,rfl,by omega,h0⟩ ?_
  rintro m r2 r3 s ⟨t,rfl,rfl,ht,hJ⟩
  simp -implicitDefEqProofs only [q42.n2_w,sw0,sw1,sw2,sw3,sw4,sw5,reduceCtorEq,Nat.reduceEqDiff,Nat.reduceAdd,Nat.reduceDiv,Nat.reduceLeDiff]
  split
  · rename_i hlt
    have hlt:t < 500:=by omega
    obtain ⟨mm,v,h1,h2,h3⟩:=hy t s hlt hJ
    simp -implicitDefEqProofs only [q42.n4_w,sw0,sw1,sw2,sw3,sw4,sw5,reduceCtorEq,Nat.reduceEqDiff,Nat.reduceAdd,Nat.reduceDiv,Nat.reduceLeDiff,h1,h2,VV_y]
    refine YC_mono ?_ (h3 _)
    rintro w s' (⟨rfl,hJ'⟩ | ⟨rfl,hR'⟩)
    · simp -implicitDefEqProofs only [sw0,sw1,sw2,sw3,sw4,sw5,reduceCtorEq,Nat.reduceEqDiff,Nat.reduceAdd,Nat.reduceDiv,Nat.reduceLeDiff,q42.n5_w]
      refine q42.n1_go (m':=500 - (t + 1)) (by omega) ⟨t + 1,by rw [wrap64 (by omega)]; rfl,rfl,by omega,hJ'⟩
    · simp -implicitDefEqProofs only [sw0,sw1,sw2,sw3,sw4,sw5,reduceCtorEq,Nat.reduceEqDiff,Nat.reduceAdd,Nat.reduceDiv,Nat.reduceLeDiff,q42.ret]
      exact hfin s' hR'
  · rename_i hge
    have hte:t=500:=by omega
    subst hte
    simp -implicitDefEqProofs only [sw0,sw1,sw2,sw3,sw4,sw5,reduceCtorEq,Nat.reduceEqDiff,Nat.reduceAdd,Nat.reduceDiv,Nat.reduceLeDiff,RK_n,q42.ret]
    exact hfin s (hend s hJ)
theorem put0' (hk:100≤k) {n:Int} (hK:K (.tup []) ⟨H ++ (.cells [.sref (H.length + (L.length + 1)) 0 1 1 1,f] :: (L ++ [.cells [iv n]])),true⟩):VC ⟨prog,k,b⟩ F_q22 [.ptr H.length 0 2,iv n] ⟨H ++ (.cells [.slice true 0 [],f] :: L),lk⟩ K:=by
  obtain ⟨k,rfl⟩:∃ j,k=j + 100:=⟨k - 100,by omega⟩
  exact put0 hK
theorem put1'_1 (hk:100≤k) {v z:AV} {qs:List (Int × Int × Int)} {cl n m:Nat} (hs:Sl H 3 jc v qs) (hr:row H cl 1=some [v]) (hn:n < qs.length) (hm:m < qs.length)
    (hK:K (.tup []) ⟨H ++ (.cells [.sref (H.length + (L.length + 1)) 0 2 2 1,.fn F_q18 [.ptr cl 0 1]] :: (L ++ [.cells (if qs[n].2.2 < qs[m].2.2∨qs[n].2.2=qs[m].2.2∧n < m then [iv n,iv m] else [iv m,iv n])])),true⟩) :
    VC ⟨prog,k,b⟩ F_q22 [.ptr H.length 0 2,iv n] ⟨H ++ (.cells [.sref (H.length + (L.length + 1)) 0 1 1 1,.fn F_q18 [.ptr cl 0 1]] :: (L ++ [AObj.cells [iv m]])),lk⟩ K:=by
  obtain ⟨k,rfl⟩:∃ j,k=j + 100:=⟨k - 100,by omega⟩
  exact put1_1 (z:=z) hs hr hn hm hK
theorem put1'_2 (hk:100≤k) {v z:AV} {qs:List (Int × Int × Int)} {cl n m:Nat} (hs:Sl H 3 jc v qs) (hr:row H cl 1=some [v]) (hn:n < qs.length) (hm:m < qs.length)
    (hK:K (.tup []) ⟨H ++ (.cells [.sref (H.length + (L.length + 1)) 0 2 2 1,.fn F_q18 [.ptr cl 0 1]] :: (L ++ [.cells (if qs[n].2.2 < qs[m].2.2∨qs[n].2.2=qs[m].2.2∧n < m then [iv n,iv m] else [iv m,iv n])])),true⟩) :
    VC ⟨prog,k,b⟩ F_q22 [.ptr H.length 0 2,iv n] ⟨H ++ (.cells [.sref (H.length + (L.length + 1)) 0 1 2 1,.fn F_q18 [.ptr cl 0 1]] :: (L ++ [AObj.cells [iv m,z]])),lk⟩ K:=by
  obtain ⟨k,rfl⟩:∃ j,k=j + 100:=⟨k - 100,by omega⟩
  exact put1_2 (z:=z) hs hr hn hm hK
theorem yB0 (hk:1000≤k) {r0 r1 r6 r9 r10 r11 r12 r13 r14 r15 r16 r17 r18 r19 r20 r21 r22 r23 r24 r25 r26 r27 r28 r29 r30 r31 r32 r33 r34 r35 r36 r37 r38 r39 r40 r41 r42 r43 r44 r45 r46 r47 r48 r49 r50 r51 r52 r53 r54 r55 r56 r57 r58 r59 r60 r61 r62 r63 r64 r65 r66:AV} {m0 m1:AObj} {x1 x2:AObj}
    (hK:K (.bool true) ⟨H ++ [.cells [vB],.cells [iv 1],.cells [.slice true 0 []],.cells [iv 0],.cells [iv 0,iv 0],.cells [.sref (H.length + 4) 0 2 2 1],.cells [.sref (H.length + 13) 0 1 2 1,.fn F_q18 [.ptr H.length 0 1]],m0,m1,x1,.cells [iv 0,iv 1],x2,.loop [r0,r1,.ptr H.length 0 1,.ptr (H.length + 1) 0 1,.ptr (H.length + 2) 0 1,.ptr (H.length + 3) 0 1,r6,.ptr (H.length + 5) 0 1,.ptr (H.length + 6) 0 2,r9,r10,r11,r12,r13,r14,r15,r16,r17,r18,r19,r20,r21,r22,r23,r24,r25,r26,r27,r28,r29,r30,r31,r32,r33,r34,r35,r36,r37,r38,r39,r40,r41,r42,r43,r44,r45,r46,r47,r48,r49,r50,r51,r52,r53,r54,r55,r56,r57,r58,r59,r60,r61,r62,r63,r64,r65,r66] [28,29] q17.n4 q17.n5 true none,.cells [iv 1,iv 1]],true⟩) :
    YC ⟨prog,k + 1,b⟩ (H.length + 12) [iv 0,.sref (H.length + 10) 0 2 2 1] ⟨H ++ [.cells [vB],.cells [iv 1],.cells [.slice true 0 []],.cells [iv 0],.cells [iv 0,iv 0],.cells [.sref (H.length + 4) 0 2 2 1],.cells [.slice true 0 [],.fn F_q18 [.ptr H.length 0 1]],m0,m1,x1,.cells [iv 0,iv 1],x2,.loop [r0,r1,.ptr H.length 0 1,.ptr (H.length + 1) 0 1,.ptr (H.length + 2) 0 1,.ptr (H.length + 3) 0 1,r6,.ptr (H.length + 5) 0 1,.ptr (H.length + 6) 0 2,r9,r10,r11,r12,r13,r14,r15,r16,r17,r18,r19,r20,r21,r22,r23,r24,r25,r26,r27,r28,r29,r30,r31,r32,r33,r34,r35,r36,r37,r38,r39,r40,r41,r42,r43,r44,r45,r46,r47,r48,r49,r50,r51,r52,r53,r54,r55,r56,r57,r58,r59,r60,r61,r62,r63,r64,r65,r66] [28,29] q17.n4 q17.n5 true none],lk⟩ K:=by
  have hk1:100≤k:=by omega
  have hk2:100≤k - 1:=by omega
  refine YC_go (by simp -implicitDefEqProofs only [sw0,sw1,sw2,sw3,sw4,sw5,reduceCtorEq,Nat.reduceEqDiff,Nat.reduceAdd,Nat.reduceDiv,Nat.reduceLeDiff,dw0,Int.reduceAdd,Int.reduceSub,Int.reduceMul,Int.reduceLT,Int.reduceLE,Int.reduceNeg,Int.reduceEq,Int.reduceToNat,Nat.reduceLT,Nat.reduceMul,Nat.reduceSub,Nat.reduceBEq,Nat.reduceLeDiff,xw0,eApp,rowOf,appRow,lkL,lkN,eMupd,vLook,mapSh,findE,putE,keqL,hasSh,fits,shb,Int.reduceBEq,eMksl,vSlc,boundsOf,boundOf,cleanL,Nat.reduceGT,Int.reduceGT,Int.reduceGE,Int.reduceDiv,Int.reduceTDiv,vAidx,rdc]; rfl) rfl ?_
  simp -implicitDefEqProofs only [sw0,sw1,sw2,sw3,sw4,sw5,reduceCtorEq,Nat.reduceEqDiff,Nat.reduceAdd,Nat.reduceDiv,Nat.reduceLeDiff,dw0,Int.reduceAdd,Int.reduceSub,Int.reduceMul,Int.reduceLT,Int.reduceLE,Int.reduceNeg,Int.reduceEq,Int.reduceToNat,Nat.reduceLT,Nat.reduceMul,Nat.reduceSub,Nat.reduceBEq,Nat.reduceLeDiff,xw0,eApp,rowOf,appRow,lkL,lkN,eMupd,vLook,mapSh,findE,putE,keqL,hasSh,fits,shb,Int.reduceBEq,eMksl,vSlc,boundsOf,boundOf,cleanL,Nat.reduceGT,Int.reduceGT,Int.reduceGE,Int.reduceDiv,Int.reduceTDiv,vAidx,rdc,q17.n4_w,q17.n5_w,YK,Plan_u6]
  refine ⟨⟨_,_,_,_,rfl⟩,?_⟩
  rw [wl_1 (by omega)]
  simp -implicitDefEqProofs only [q17.n7_w,sw0,sw1,sw2,sw3,sw4,sw5,reduceCtorEq,Nat.reduceEqDiff,Nat.reduceAdd,Nat.reduceDiv,Nat.reduceLeDiff,dw0,Int.reduceAdd,Int.reduceSub,Int.reduceMul,Int.reduceLT,Int.reduceLE,Int.reduceNeg,Int.reduceEq,Int.reduceToNat,Nat.reduceLT,Nat.reduceMul,Nat.reduceSub,Nat.reduceBEq,Nat.reduceLeDiff,xw0,eApp,rowOf,appRow,lkL,lkN,eMupd,vLook,mapSh,findE,putE,keqL,hasSh,fits,shb,Int.reduceBEq,eMksl,vSlc,boundsOf,boundOf,cleanL,Nat.reduceGT,Int.reduceGT,Int.reduceGE,Int.reduceDiv,Int.reduceTDiv,vAidx,rdc,q17.n9_w]
  have h:=fun (K:AV→St→Prop) X (hK)=>put0' (k:=k) (b:=none) (lk:=lk) (K:=K) (n:=0) (f:=.fn F_q18 [.ptr H.length 0 1]) hk1 (H:=H ++ [.cells [vB],.cells [iv 1],.cells [.slice true 0 []],.cells [iv 0],.cells [iv 0,iv 0],.cells [.sref (H.length + 4) 0 2 2 1]]) (L:=[m0,m1,x1,.cells [iv 0,iv 1],x2,X]) hK
  simp -implicitDefEqProofs only [sw0,sw1,sw2,sw3,sw4,sw5,reduceCtorEq,Nat.reduceEqDiff,Nat.reduceAdd,Nat.reduceDiv,Nat.reduceLeDiff,Nat.add_assoc] at h
  refine h _ _ ?_
  clear h
  rw [wl_1 (by omega)]
  simp -implicitDefEqProofs only [q17.n7_w,sw0,sw1,sw2,sw3,sw4,sw5,reduceCtorEq,Nat.reduceEqDiff,Nat.reduceAdd,Nat.reduceDiv,Nat.reduceLeDiff,dw0,Int.reduceAdd,Int.reduceSub,Int.reduceMul,Int.reduceLT,Int.reduceLE,Int.reduceNeg,Int.reduceEq,Int.reduceToNat,Nat.reduceLT,Nat.reduceMul,Nat.reduceSub,Nat.reduceBEq,Nat.reduceLeDiff,xw0,eApp,rowOf,appRow,lkL,lkN,eMupd,vLook,mapSh,findE,putE,keqL,hasSh,fits,shb,Int.reduceBEq,eMksl,vSlc,boundsOf,boundOf,cleanL,Nat.reduceGT,Int.reduceGT,Int.reduceGE,Int.reduceDiv,Int.reduceTDiv,vAidx,rdc,q17.n9_w]
  have h:=fun (K:AV→St→Prop) X (hK)=>put1'_1 (k:=k) (b:=none) (lk:=true) (K:=K) (n:=1) (m:=0) (z:=.undef) (qs:=jB) (cl:=H.length) (v:=vB) hk1 (H:=H ++ [.cells [vB],.cells [iv 1],.cells [.slice true 0 []],.cells [iv 0],.cells [iv 0,iv 0],.cells [.sref (H.length + 4) 0 2 2 1]]) (L:=[m0,m1,x1,.cells [iv 0,iv 1],x2,X]) vB_sl (by simp -implicitDefEqProofs only [sw0,sw1,sw2,sw3,sw4,sw5,reduceCtorEq,Nat.reduceEqDiff,Nat.reduceAdd,Nat.reduceDiv,Nat.reduceLeDiff,dw0,Int.reduceAdd,Int.reduceSub,Int.reduceMul,Int.reduceLT,Int.reduceLE,Int.reduceNeg,Int.reduceEq,Int.reduceToNat,Nat.reduceLT,Nat.reduceMul,Nat.reduceSub,Nat.reduceBEq,Nat.reduceLeDiff,xw0,eApp,rowOf,appRow,lkL,lkN,eMupd,vLook,mapSh,findE,putE,keqL,hasSh,fits,shb,Int.reduceBEq,eMksl,vSlc,boundsOf,boundOf,cleanL,Nat.reduceGT,Int.reduceGT,Int.reduceGE,Int.reduceDiv,Int.reduceTDiv,vAidx,rdc]) (by decide) (by decide) hK
  simp -implicitDefEqProofs only [sw0,sw1,sw2,sw3,sw4,sw5,reduceCtorEq,Nat.reduceEqDiff,Nat.reduceAdd,Nat.reduceDiv,Nat.reduceLeDiff,dw0,Int.reduceAdd,Int.reduceSub,Int.reduceMul,Int.reduceLT,Int.reduceLE,Int.reduceNeg,Int.reduceEq,Int.reduceToNat,Nat.reduceLT,Nat.reduceMul,Nat.reduceSub,Nat.reduceBEq,Nat.reduceLeDiff,xw0,eApp,rowOf,appRow,lkL,lkN,eMupd,vLook,mapSh,findE,putE,keqL,hasSh,fits,shb,Int.reduceBEq,eMksl,vSlc,boundsOf,boundOf,cleanL,Nat.reduceGT,Int.reduceGT,Int.reduceGE,Int.reduceDiv,Int.reduceTDiv,vAidx,rdc,jB,Nat.add_assoc] at h
  refine h _ _ ?_
  clear h
  rw [wl_1 (by omega)]
  simp -implicitDefEqProofs only [q17.n7_w,sw0,sw1,sw2,sw3,sw4,sw5,reduceCtorEq,Nat.reduceEqDiff,Nat.reduceAdd,Nat.reduceDiv,Nat.reduceLeDiff,dw0,Int.reduceAdd,Int.reduceSub,Int.reduceMul,Int.reduceLT,Int.reduceLE,Int.reduceNeg,Int.reduceEq,Int.reduceToNat,Nat.reduceLT,Nat.reduceMul,Nat.reduceSub,Nat.reduceBEq,Nat.reduceLeDiff,xw0,eApp,rowOf,appRow,lkL,lkN,eMupd,vLook,mapSh,findE,putE,keqL,hasSh,fits,shb,Int.reduceBEq,eMksl,vSlc,boundsOf,boundOf,cleanL,Nat.reduceGT,Int.reduceGT,Int.reduceGE,Int.reduceDiv,Int.reduceTDiv,vAidx,rdc,q17.n10_w,Plan_u11]
  rw [wl_1 (by omega)]
  simp -implicitDefEqProofs only [q17.n12_w,sw0,sw1,sw2,sw3,sw4,sw5,reduceCtorEq,Nat.reduceEqDiff,Nat.reduceAdd,Nat.reduceDiv,Nat.reduceLeDiff,dw0,Int.reduceAdd,Int.reduceSub,Int.reduceMul,Int.reduceLT,Int.reduceLE,Int.reduceNeg,Int.reduceEq,Int.reduceToNat,Nat.reduceLT,Nat.reduceMul,Nat.reduceSub,Nat.reduceBEq,Nat.reduceLeDiff,xw0,eApp,rowOf,appRow,lkL,lkN,eMupd,vLook,mapSh,findE,putE,keqL,hasSh,fits,shb,Int.reduceBEq,eMksl,vSlc,boundsOf,boundOf,cleanL,Nat.reduceGT,Int.reduceGT,Int.reduceGE,Int.reduceDiv,Int.reduceTDiv,vAidx,rdc,q17.n14_w]
  have h:=fun (K:AV→St→Prop) X (hK)=>take2 (k:=k - 1) (b:=none) (K:=K) (n:=0) (m:=1) (f:=.fn F_q18 [.ptr H.length 0 1]) hk2 (H:=H ++ [.cells [vB],.cells [iv 1],.cells [.slice true 0 []],.cells [iv 0],.cells [iv 0,iv 0],.cells [.sref (H.length + 4) 0 2 2 1]]) (L:=[m0,m1,x1,.cells [iv 0,iv 1],x2,X]) hK
  rw [show k - 1 + 1=k by omega] at h
  simp -implicitDefEqProofs only [sw0,sw1,sw2,sw3,sw4,sw5,reduceCtorEq,Nat.reduceEqDiff,Nat.reduceAdd,Nat.reduceDiv,Nat.reduceLeDiff,dw0,Int.reduceAdd,Int.reduceSub,Int.reduceMul,Int.reduceLT,Int.reduceLE,Int.reduceNeg,Int.reduceEq,Int.reduceToNat,Nat.reduceLT,Nat.reduceMul,Nat.reduceSub,Nat.reduceBEq,Nat.reduceLeDiff,xw0,eApp,rowOf,appRow,lkL,lkN,eMupd,vLook,mapSh,findE,putE,keqL,hasSh,fits,shb,Int.reduceBEq,eMksl,vSlc,boundsOf,boundOf,cleanL,Nat.reduceGT,Int.reduceGT,Int.reduceGE,Int.reduceDiv,Int.reduceTDiv,vAidx,rdc,Nat.add_assoc] at h
  refine h _ _ ?_
  clear h
  simp -implicitDefEqProofs only [sw0,sw1,sw2,sw3,sw4,sw5,reduceCtorEq,Nat.reduceEqDiff,Nat.reduceAdd,Nat.reduceDiv,Nat.reduceLeDiff,dw0,Int.reduceAdd,Int.reduceSub,Int.reduceMul,Int.reduceLT,Int.reduceLE,Int.reduceNeg,Int.reduceEq,Int.reduceToNat,Nat.reduceLT,Nat.reduceMul,Nat.reduceSub,Nat.reduceBEq,Nat.reduceLeDiff,xw0,eApp,rowOf,appRow,lkL,lkN,eMupd,vLook,mapSh,findE,putE,keqL,hasSh,fits,shb,Int.reduceBEq,eMksl,vSlc,boundsOf,boundOf,cleanL,Nat.reduceGT,Int.reduceGT,Int.reduceGE,Int.reduceDiv,Int.reduceTDiv,vAidx,rdc,q17.n16_w,q17.n17_w]
  rw [wl_1 (by omega)]
  simp -implicitDefEqProofs only [q17.n12_w,sw0,sw1,sw2,sw3,sw4,sw5,reduceCtorEq,Nat.reduceEqDiff,Nat.reduceAdd,Nat.reduceDiv,Nat.reduceLeDiff,dw0,Int.reduceAdd,Int.reduceSub,Int.reduceMul,Int.reduceLT,Int.reduceLE,Int.reduceNeg,Int.reduceEq,Int.reduceToNat,Nat.reduceLT,Nat.reduceMul,Nat.reduceSub,Nat.reduceBEq,Nat.reduceLeDiff,xw0,eApp,rowOf,appRow,lkL,lkN,eMupd,vLook,mapSh,findE,putE,keqL,hasSh,fits,shb,Int.reduceBEq,eMksl,vSlc,boundsOf,boundOf,cleanL,Nat.reduceGT,Int.reduceGT,Int.reduceGE,Int.reduceDiv,Int.reduceTDiv,vAidx,rdc,YK]
  exact hK
theorem yB1 (hk:1000≤k) {r0 r1 r6 r9 r10 r11 r12 r13 r14 r15 r16 r17 r18 r19 r20 r21 r22 r23 r24 r25 r26 r27 r28 r29 r30 r31 r32 r33 r34 r35 r36 r37 r38 r39 r40 r41 r42 r43 r44 r45 r46 r47 r48 r49 r50 r51 r52 r53 r54 r55 r56 r57 r58 r59 r60 r61 r62 r63 r64 r65 r66:AV} {m0 m1:AObj} {x1 x2:AObj}
    (hK:K (.bool false) ⟨H ++ [.cells [vB],.cells [iv 1],.cells [.slice true 0 []],.cells [iv 7],.cells [iv 0,iv 0],.cells [.sref (H.length + 4) 0 2 2 1],.cells [.slice false 1 [],.fn F_q18 [.ptr H.length 0 1]],m0,m1,x1,.cells [iv 0,iv 1],x2,.loop [r0,r1,.ptr H.length 0 1,.ptr (H.length + 1) 0 1,.ptr (H.length + 2) 0 1,.ptr (H.length + 3) 0 1,r6,.ptr (H.length + 5) 0 1,.ptr (H.length + 6) 0 2,r9,r10,r11,r12,r13,r14,r15,r16,r17,r18,r19,r20,r21,r22,r23,r24,r25,r26,r27,r28,r29,r30,r31,r32,r33,r34,r35,r36,r37,r38,r39,r40,r41,r42,r43,r44,r45,r46,r47,r48,r49,r50,r51,r52,r53,r54,r55,r56,r57,r58,r59,r60,r61,r62,r63,r64,r65,r66] [28,29] q17.n4 q17.n5 false (some .ret),.cells [iv 1,iv 1]],true⟩) :
    YC ⟨prog,k + 1,b⟩ (H.length + 12) [iv 1,.slice true 0 []] ⟨H ++ [.cells [vB],.cells [iv 1],.cells [.slice true 0 []],.cells [iv 0],.cells [iv 0,iv 0],.cells [.sref (H.length + 4) 0 2 2 1],.cells [.sref (H.length + 13) 0 1 2 1,.fn F_q18 [.ptr H.length 0 1]],m0,m1,x1,.cells [iv 0,iv 1],x2,.loop [r0,r1,.ptr H.length 0 1,.ptr (H.length + 1) 0 1,.ptr (H.length + 2) 0 1,.ptr (H.length + 3) 0 1,r6,.ptr (H.length + 5) 0 1,.ptr (H.length + 6) 0 2,r9,r10,r11,r12,r13,r14,r15,r16,r17,r18,r19,r20,r21,r22,r23,r24,r25,r26,r27,r28,r29,r30,r31,r32,r33,r34,r35,r36,r37,r38,r39,r40,r41,r42,r43,r44,r45,r46,r47,r48,r49,r50,r51,r52,r53,r54,r55,r56,r57,r58,r59,r60,r61,r62,r63,r64,r65,r66] [28,29] q17.n4 q17.n5 true none,.cells [iv 1,iv 1]],true⟩ K:=by
  have hk1:100≤k:=by omega
  have hk2:100≤k - 1:=by omega
  refine YC_go (by simp -implicitDefEqProofs only [sw0,sw1,sw2,sw3,sw4,sw5,reduceCtorEq,Nat.reduceEqDiff,Nat.reduceAdd,Nat.reduceDiv,Nat.reduceLeDiff,dw0,Int.reduceAdd,Int.reduceSub,Int.reduceMul,Int.reduceLT,Int.reduceLE,Int.reduceNeg,Int.reduceEq,Int.reduceToNat,Nat.reduceLT,Nat.reduceMul,Nat.reduceSub,Nat.reduceBEq,Nat.reduceLeDiff,xw0,eApp,rowOf,appRow,lkL,lkN,eMupd,vLook,mapSh,findE,putE,keqL,hasSh,fits,shb,Int.reduceBEq,eMksl,vSlc,boundsOf,boundOf,cleanL,Nat.reduceGT,Int.reduceGT,Int.reduceGE,Int.reduceDiv,Int.reduceTDiv,vAidx,rdc]; rfl) rfl ?_
  simp -implicitDefEqProofs only [sw0,sw1,sw2,sw3,sw4,sw5,reduceCtorEq,Nat.reduceEqDiff,Nat.reduceAdd,Nat.reduceDiv,Nat.reduceLeDiff,dw0,Int.reduceAdd,Int.reduceSub,Int.reduceMul,Int.reduceLT,Int.reduceLE,Int.reduceNeg,Int.reduceEq,Int.reduceToNat,Nat.reduceLT,Nat.reduceMul,Nat.reduceSub,Nat.reduceBEq,Nat.reduceLeDiff,xw0,eApp,rowOf,appRow,lkL,lkN,eMupd,vLook,mapSh,findE,putE,keqL,hasSh,fits,shb,Int.reduceBEq,eMksl,vSlc,boundsOf,boundOf,cleanL,Nat.reduceGT,Int.reduceGT,Int.reduceGE,Int.reduceDiv,Int.reduceTDiv,vAidx,rdc,q17.n4_w,q17.n5_w,YK,Plan_u6]
  refine ⟨⟨_,_,_,_,rfl⟩,?_⟩
  rw [wl_1 (by omega)]
  simp -implicitDefEqProofs only [q17.n7_w,sw0,sw1,sw2,sw3,sw4,sw5,reduceCtorEq,Nat.reduceEqDiff,Nat.reduceAdd,Nat.reduceDiv,Nat.reduceLeDiff,dw0,Int.reduceAdd,Int.reduceSub,Int.reduceMul,Int.reduceLT,Int.reduceLE,Int.reduceNeg,Int.reduceEq,Int.reduceToNat,Nat.reduceLT,Nat.reduceMul,Nat.reduceSub,Nat.reduceBEq,Nat.reduceLeDiff,xw0,eApp,rowOf,appRow,lkL,lkN,eMupd,vLook,mapSh,findE,putE,keqL,hasSh,fits,shb,Int.reduceBEq,eMksl,vSlc,boundsOf,boundOf,cleanL,Nat.reduceGT,Int.reduceGT,Int.reduceGE,Int.reduceDiv,Int.reduceTDiv,vAidx,rdc,q17.n10_w,Plan_u11]
  rw [wl_1 (by omega)]
  simp -implicitDefEqProofs only [q17.n12_w,sw0,sw1,sw2,sw3,sw4,sw5,reduceCtorEq,Nat.reduceEqDiff,Nat.reduceAdd,Nat.reduceDiv,Nat.reduceLeDiff,dw0,Int.reduceAdd,Int.reduceSub,Int.reduceMul,Int.reduceLT,Int.reduceLE,Int.reduceNeg,Int.reduceEq,Int.reduceToNat,Nat.reduceLT,Nat.reduceMul,Nat.reduceSub,Nat.reduceBEq,Nat.reduceLeDiff,xw0,eApp,rowOf,appRow,lkL,lkN,eMupd,vLook,mapSh,findE,putE,keqL,hasSh,fits,shb,Int.reduceBEq,eMksl,vSlc,boundsOf,boundOf,cleanL,Nat.reduceGT,Int.reduceGT,Int.reduceGE,Int.reduceDiv,Int.reduceTDiv,vAidx,rdc,q17.n14_w]
  have h:=fun (K:AV→St→Prop) X (hK)=>take1 (k:=k - 1) (b:=none) (K:=K) (ver:=2) (R:=[iv 1]) (n:=1) (f:=.fn F_q18 [.ptr H.length 0 1]) hk2 rfl (H:=H ++ [.cells [vB],.cells [iv 1],.cells [.slice true 0 []],.cells [iv 0],.cells [iv 0,iv 0],.cells [.sref (H.length + 4) 0 2 2 1]]) (L:=[m0,m1,x1,.cells [iv 0,iv 1],x2,X]) hK
  rw [show k - 1 + 1=k by omega] at h
  simp -implicitDefEqProofs only [sw0,sw1,sw2,sw3,sw4,sw5,reduceCtorEq,Nat.reduceEqDiff,Nat.reduceAdd,Nat.reduceDiv,Nat.reduceLeDiff,dw0,Int.reduceAdd,Int.reduceSub,Int.reduceMul,Int.reduceLT,Int.reduceLE,Int.reduceNeg,Int.reduceEq,Int.reduceToNat,Nat.reduceLT,Nat.reduceMul,Nat.reduceSub,Nat.reduceBEq,Nat.reduceLeDiff,xw0,eApp,rowOf,appRow,lkL,lkN,eMupd,vLook,mapSh,findE,putE,keqL,hasSh,fits,shb,Int.reduceBEq,eMksl,vSlc,boundsOf,boundOf,cleanL,Nat.reduceGT,Int.reduceGT,Int.reduceGE,Int.reduceDiv,Int.reduceTDiv,vAidx,rdc,Nat.add_assoc] at h
  refine h _ _ ?_
  clear h
  simp -implicitDefEqProofs only [sw0,sw1,sw2,sw3,sw4,sw5,reduceCtorEq,Nat.reduceEqDiff,Nat.reduceAdd,Nat.reduceDiv,Nat.reduceLeDiff,dw0,Int.reduceAdd,Int.reduceSub,Int.reduceMul,Int.reduceLT,Int.reduceLE,Int.reduceNeg,Int.reduceEq,Int.reduceToNat,Nat.reduceLT,Nat.reduceMul,Nat.reduceSub,Nat.reduceBEq,Nat.reduceLeDiff,xw0,eApp,rowOf,appRow,lkL,lkN,eMupd,vLook,mapSh,findE,putE,keqL,hasSh,fits,shb,Int.reduceBEq,eMksl,vSlc,boundsOf,boundOf,cleanL,Nat.reduceGT,Int.reduceGT,Int.reduceGE,Int.reduceDiv,Int.reduceTDiv,vAidx,rdc,q17.n15_w,YK]
  exact hK
theorem runB (hk:1000≤k) {r0 r1 r6 r9 r10 r11 r12 r13 r14 r15 r16 r17 r18 r19 r20 r21 r22 r23 r24 r25 r26 r27 r28 r29 r30 r31 r32 r33 r34 r35 r36 r37 r38 r39 r40 r41 r42 r43 r44 r45 r46 r47 r48 r49 r50 r51 r52 r53 r54 r55 r56 r57 r58 r59 r60 r61 r62 r63 r64 r65 r66:AV} {x1 x2:AObj} (hK:K (.tup []) ⟨H ++ [.cells [vB],.cells [iv 1],.cells [.slice true 0 []],.cells [iv 7],.cells [iv 0,iv 0],.cells [.sref (H.length + 4) 0 2 2 1],.cells [.slice false 1 [],.fn F_q18 [.ptr H.length 0 1]],.map shI 2 [(iv 0,.sref (H.length + 10) 0 2 2 1)],.cells [.map (H.length + 7)],x1,.cells [iv 0,iv 1],x2,.loop [r0,r1,.ptr H.length 0 1,.ptr (H.length + 1) 0 1,.ptr (H.length + 2) 0 1,.ptr (H.length + 3) 0 1,r6,.ptr (H.length + 5) 0 1,.ptr (H.length + 6) 0 2,r9,r10,r11,r12,r13,r14,r15,r16,r17,r18,r19,r20,r21,r22,r23,r24,r25,r26,r27,r28,r29,r30,r31,r32,r33,r34,r35,r36,r37,r38,r39,r40,r41,r42,r43,r44,r45,r46,r47,r48,r49,r50,r51,r52,r53,r54,r55,r56,r57,r58,r59,r60,r61,r62,r63,r64,r65,r66] [28,29] q17.n4 q17.n5 false (some .ret),.cells [iv 1,iv 1]],true⟩):VC ⟨prog,k + 2,b⟩ F_q42 [.yield (H.length + 12),.ptr (H.length + 8) 0 1] ⟨H ++ [.cells [vB],.cells [iv 1],.cells [.slice true 0 []],.cells [iv 0],.cells [iv 0,iv 0],.cells [.sref (H.length + 4) 0 2 2 1],.cells [.slice true 0 [],.fn F_q18 [.ptr H.length 0 1]],.map shI 2 [(iv 0,.sref (H.length + 10) 0 2 2 1)],.cells [.map (H.length + 7)],x1,.cells [iv 0,iv 1],x2,.loop [r0,r1,.ptr H.length 0 1,.ptr (H.length + 1) 0 1,.ptr (H.length + 2) 0 1,.ptr (H.length + 3) 0 1,r6,.ptr (H.length + 5) 0 1,.ptr (H.length + 6) 0 2,r9,r10,r11,r12,r13,r14,r15,r16,r17,r18,r19,r20,r21,r22,r23,r24,r25,r26,r27,r28,r29,r30,r31,r32,r33,r34,r35,r36,r37,r38,r39,r40,r41,r42,r43,r44,r45,r46,r47,r48,r49,r50,r51,r52,r53,r54,r55,r56,r57,r58,r59,r60,r61,r62,r63,r64,r65,r66] [28,29] q17.n4 q17.n5 true none],lk⟩ K:=by
  refine slots_1_s (k:=k + 1) (J:=fun t s=>(t=0∧∃ lk,s=⟨H ++ [.cells [vB],.cells [iv 1],.cells [.slice true 0 []],.cells [iv 0],.cells [iv 0,iv 0],.cells [.sref (H.length + 4) 0 2 2 1],.cells [.slice true 0 [],.fn F_q18 [.ptr H.length 0 1]],.map shI 2 [(iv 0,.sref (H.length + 10) 0 2 2 1)],.cells [.map (H.length + 7)],x1,.cells [iv 0,iv 1],x2,.loop [r0,r1,.ptr H.length 0 1,.ptr (H.length + 1) 0 1,.ptr (H.length + 2) 0 1,.ptr (H.length + 3) 0 1,r6,.ptr (H.length + 5) 0 1,.ptr (H.length + 6) 0 2,r9,r10,r11,r12,r13,r14,r15,r16,r17,r18,r19,r20,r21,r22,r23,r24,r25,r26,r27,r28,r29,r30,r31,r32,r33,r34,r35,r36,r37,r38,r39,r40,r41,r42,r43,r44,r45,r46,r47,r48,r49,r50,r51,r52,r53,r54,r55,r56,r57,r58,r59,r60,r61,r62,r63,r64,r65,r66] [28,29] q17.n4 q17.n5 true none],lk⟩)∨(t=1∧s=⟨H ++ [.cells [vB],.cells [iv 1],.cells [.slice true 0 []],.cells [iv 0],.cells [iv 0,iv 0],.cells [.sref (H.length + 4) 0 2 2 1],.cells [.sref (H.length + 13) 0 1 2 1,.fn F_q18 [.ptr H.length 0 1]],.map shI 2 [(iv 0,.sref (H.length + 10) 0 2 2 1)],.cells [.map (H.length + 7)],x1,.cells [iv 0,iv 1],x2,.loop [r0,r1,.ptr H.length 0 1,.ptr (H.length + 1) 0 1,.ptr (H.length + 2) 0 1,.ptr (H.length + 3) 0 1,r6,.ptr (H.length + 5) 0 1,.ptr (H.length + 6) 0 2,r9,r10,r11,r12,r13,r14,r15,r16,r17,r18,r19,r20,r21,r22,r23,r24,r25,r26,r27,r28,r29,r30,r31,r32,r33,r34,r35,r36,r37,r38,r39,r40,r41,r42,r43,r44,r45,r46,r47,r48,r49,r50,r51,r52,r53,r54,r55,r56,r57,r58,r59,r60,r61,r62,r63,r64,r65,r66] [28,29] q17.n4 q17.n5 true none,.cells [iv 1,iv 1]],true⟩)) (R:=fun s=>s=⟨H ++ [.cells [vB],.cells [iv 1],.cells [.slice true 0 []],.cells [iv 7],.cells [iv 0,iv 0],.cells [.sref (H.length + 4) 0 2 2 1],.cells [.slice false 1 [],.fn F_q18 [.ptr H.length 0 1]],.map shI 2 [(iv 0,.sref (H.length + 10) 0 2 2 1)],.cells [.map (H.length + 7)],x1,.cells [iv 0,iv 1],x2,.loop [r0,r1,.ptr H.length 0 1,.ptr (H.length + 1) 0 1,.ptr (H.length + 2) 0 1,.ptr (H.length + 3) 0 1,r6,.ptr (H.length + 5) 0 1,.ptr (H.length + 6) 0 2,r9,r10,r11,r12,r13,r14,r15,r16,r17,r18,r19,r20,r21,r22,r23,r24,r25,r26,r27,r28,r29,r30,r31,r32,r33,r34,r35,r36,r37,r38,r39,r40,r41,r42,r43,r44,r45,r46,r47,r48,r49,r50,r51,r52,r53,r54,r55,r56,r57,r58,r59,r60,r61,r62,r63,r64,r65,r66] [28,29] q17.n4 q17.n5 false (some .ret),.cells [iv 1,iv 1]],true⟩) (by omega) ?_ (.inl ⟨rfl,_,rfl⟩) (fun s h=>by rcases h with ⟨h,_⟩ | ⟨h,_⟩ <;> omega) (fun s h=>by subst h; exact ⟨rfl,hK⟩)
  rintro t s ht (⟨rfl,lk',rfl⟩ | ⟨rfl,rfl⟩)
  · refine ⟨.map (H.length + 7),.sref (H.length + 10) 0 2 2 1,by simp -implicitDefEqProofs only [sw0,sw1,sw2,sw3,sw4,sw5,reduceCtorEq,Nat.reduceEqDiff,Nat.reduceAdd,Nat.reduceDiv,Nat.reduceLeDiff,dw0,Int.reduceAdd,Int.reduceSub,Int.reduceMul,Int.reduceLT,Int.reduceLE,Int.reduceNeg,Int.reduceEq,Int.reduceToNat,Nat.reduceLT,Nat.reduceMul,Nat.reduceSub,Nat.reduceBEq,Nat.reduceLeDiff,xw0,eApp,rowOf,appRow,lkL,lkN,eMupd,vLook,mapSh,findE,putE,keqL,hasSh,fits,shb,Int.reduceBEq,eMksl,vSlc,boundsOf,boundOf,cleanL,Nat.reduceGT,Int.reduceGT,Int.reduceGE,Int.reduceDiv,Int.reduceTDiv,vAidx,rdc],by simp -implicitDefEqProofs only [sw0,sw1,sw2,sw3,sw4,sw5,reduceCtorEq,Nat.reduceEqDiff,Nat.reduceAdd,Nat.reduceDiv,Nat.reduceLeDiff,dw0,Int.reduceAdd,Int.reduceSub,Int.reduceMul,Int.reduceLT,Int.reduceLE,Int.reduceNeg,Int.reduceEq,Int.reduceToNat,Nat.reduceLT,Nat.reduceMul,Nat.reduceSub,Nat.reduceBEq,Nat.reduceLeDiff,xw0,eApp,rowOf,appRow,lkL,lkN,eMupd,vLook,mapSh,findE,putE,keqL,hasSh,fits,shb,Int.reduceBEq,eMksl,vSlc,boundsOf,boundOf,cleanL,Nat.reduceGT,Int.reduceGT,Int.reduceGE,Int.reduceDiv,Int.reduceTDiv,vAidx,rdc],fun b=>yB0 hk ?_⟩
    exact .inl ⟨rfl,.inr ⟨rfl,rfl⟩⟩
  · refine ⟨.map (H.length + 7),.slice true 0 [],by simp -implicitDefEqProofs only [sw0,sw1,sw2,sw3,sw4,sw5,reduceCtorEq,Nat.reduceEqDiff,Nat.reduceAdd,Nat.reduceDiv,Nat.reduceLeDiff,dw0,Int.reduceAdd,Int.reduceSub,Int.reduceMul,Int.reduceLT,Int.reduceLE,Int.reduceNeg,Int.reduceEq,Int.reduceToNat,Nat.reduceLT,Nat.reduceMul,Nat.reduceSub,Nat.reduceBEq,Nat.reduceLeDiff,xw0,eApp,rowOf,appRow,lkL,lkN,eMupd,vLook,mapSh,findE,putE,keqL,hasSh,fits,shb,Int.reduceBEq,eMksl,vSlc,boundsOf,boundOf,cleanL,Nat.reduceGT,Int.reduceGT,Int.reduceGE,Int.reduceDiv,Int.reduceTDiv,vAidx,rdc],by simp -implicitDefEqProofs only [sw0,sw1,sw2,sw3,sw4,sw5,reduceCtorEq,Nat.reduceEqDiff,Nat.reduceAdd,Nat.reduceDiv,Nat.reduceLeDiff,dw0,Int.reduceAdd,Int.reduceSub,Int.reduceMul,Int.reduceLT,Int.reduceLE,Int.reduceNeg,Int.reduceEq,Int.reduceToNat,Nat.reduceLT,Nat.reduceMul,Nat.reduceSub,Nat.reduceBEq,Nat.reduceLeDiff,xw0,eApp,rowOf,appRow,lkL,lkN,eMupd,vLook,mapSh,findE,putE,keqL,hasSh,fits,shb,Int.reduceBEq,eMksl,vSlc,boundsOf,boundOf,cleanL,Nat.reduceGT,Int.reduceGT,Int.reduceGE,Int.reduceDiv,Int.reduceTDiv,vAidx,rdc],fun b=>yB1 hk ?_⟩
    exact .inr ⟨rfl,rfl⟩
theorem PlanB (hk:3000≤k) (hK:∀ L,K (.tup [.slice true 0 [],iv 7]) ⟨H ++ L,true⟩):VC ⟨prog,k,b⟩ F_q17 [vB,iv 1] ⟨H,lk⟩ K:=by
  obtain ⟨k,rfl⟩:∃ j,k=j + 1:=⟨k - 1,by omega⟩
  apply q17.enter
  have hjb:(decide (jB.length≤200) && jB.all jobOk)=true:=by decide
  have h11:((1:Int)≤1∧(1:Int)≤8)=True:=by simp
  have hask:=fun (H':List AObj) (K:AV→St→Prop)=>asked_s (K:=K) (k:=k) (b:=some H.length) (lk:=false) (by omega) (H:=H') vB_sl (c:=1) (by decide)
  simp -implicitDefEqProofs only [hjb,if_true,h11] at hask
  have hmk:∀ (H':List AObj),eMksl ⟨H',false⟩ 1 8 [iv 0] (iv 2) (iv 2)=some (.sref H'.length 0 2 (2 * 1) 1,⟨H' ++ [.cells [iv 0,iv 0]],false⟩):=fun H'=>by simp [eMksl,push]
  simp -implicitDefEqProofs only [q17.n0_w,sw0,sw1,sw2,sw3,sw4,sw5,reduceCtorEq,Nat.reduceEqDiff,Nat.reduceAdd,Nat.reduceDiv,Nat.reduceLeDiff,dw0,Int.reduceAdd,Int.reduceSub,Int.reduceMul,Int.reduceLT,Int.reduceLE,Int.reduceNeg,Int.reduceEq,Int.reduceToNat,Nat.reduceLT,Nat.reduceMul,Nat.reduceSub,Nat.reduceBEq,Nat.reduceLeDiff,hask,q17.n2_w,hmk]
  refine slotsB (by omega) ?_
  simp -implicitDefEqProofs only [sw0,sw1,sw2,sw3,sw4,sw5,reduceCtorEq,Nat.reduceEqDiff,Nat.reduceAdd,Nat.reduceDiv,Nat.reduceLeDiff,dw0,Int.reduceAdd,Int.reduceSub,Int.reduceMul,Int.reduceLT,Int.reduceLE,Int.reduceNeg,Int.reduceEq,Int.reduceToNat,Nat.reduceLT,Nat.reduceMul,Nat.reduceSub,Nat.reduceBEq,Nat.reduceLeDiff,xw0,eApp,rowOf,appRow,lkL,lkN,eMupd,vLook,mapSh,findE,putE,keqL,hasSh,fits,shb,Int.reduceBEq,eMksl,vSlc,boundsOf,boundOf,cleanL,Nat.reduceGT,Int.reduceGT,Int.reduceGE,Int.reduceDiv,Int.reduceTDiv,vAidx,rdc]
  refine WC_rf (f:=F_q42) (caps:=[.ptr (H.length + 8) 0 1]) rfl ?_
  obtain ⟨k',hk'⟩:∃ j,k=j + 2:=⟨k - 2,by omega⟩
  simp -implicitDefEqProofs only [sw0,sw1,sw2,sw3,sw4,sw5,reduceCtorEq,Nat.reduceEqDiff,Nat.reduceAdd,Nat.reduceDiv,Nat.reduceLeDiff,dw0,Int.reduceAdd,Int.reduceSub,Int.reduceMul,Int.reduceLT,Int.reduceLE,Int.reduceNeg,Int.reduceEq,Int.reduceToNat,Nat.reduceLT,Nat.reduceMul,Nat.reduceSub,Nat.reduceBEq,Nat.reduceLeDiff,xw0,eApp,rowOf,appRow,lkL,lkN,eMupd,vLook,mapSh,findE,putE,keqL,hasSh,fits,shb,Int.reduceBEq,eMksl,vSlc,boundsOf,boundOf,cleanL,Nat.reduceGT,Int.reduceGT,Int.reduceGE,Int.reduceDiv,Int.reduceTDiv,vAidx,rdc]
  have hrun:=fun (K:AV→St→Prop) (b:Option Nat)=>@runB k' b H false K (by omega)
  rw [← hk'] at hrun
  refine hrun _ _ ?_
  simp -implicitDefEqProofs only [RF,sw0,sw1,sw2,sw3,sw4,sw5,reduceCtorEq,Nat.reduceEqDiff,Nat.reduceAdd,Nat.reduceDiv,Nat.reduceLeDiff,dw0,Int.reduceAdd,Int.reduceSub,Int.reduceMul,Int.reduceLT,Int.reduceLE,Int.reduceNeg,Int.reduceEq,Int.reduceToNat,Nat.reduceLT,Nat.reduceMul,Nat.reduceSub,Nat.reduceBEq,Nat.reduceLeDiff,xw0,eApp,rowOf,appRow,lkL,lkN,eMupd,vLook,mapSh,findE,putE,keqL,hasSh,fits,shb,Int.reduceBEq,eMksl,vSlc,boundsOf,boundOf,cleanL,Nat.reduceGT,Int.reduceGT,Int.reduceGE,Int.reduceDiv,Int.reduceTDiv,vAidx,rdc,q17.res]
  simp -implicitDefEqProofs only [RK_r,resultsOf,resultOf,sw0,sw1,sw2,sw3,sw4,sw5,reduceCtorEq,Nat.reduceEqDiff,Nat.reduceAdd,Nat.reduceDiv,Nat.reduceLeDiff,dw0,Int.reduceAdd,Int.reduceSub,Int.reduceMul,Int.reduceLT,Int.reduceLE,Int.reduceNeg,Int.reduceEq,Int.reduceToNat,Nat.reduceLT,Nat.reduceMul,Nat.reduceSub,Nat.reduceBEq,Nat.reduceLeDiff,xw0,eApp,rowOf,appRow,lkL,lkN,eMupd,vLook,mapSh,findE,putE,keqL,hasSh,fits,shb,Int.reduceBEq,eMksl,vSlc,boundsOf,boundOf,cleanL,Nat.reduceGT,Int.reduceGT,Int.reduceGE,Int.reduceDiv,Int.reduceTDiv,vAidx,rdc]
  exact hK _
end Go.Proofs.YtcebebhaahpoiaaDoor
end
section
namespace Go.Proofs.YtcebebhaahpoiaaDoor
open Go Go.Ai Go.W
attribute [local irreducible] VC YC WC
set_option linter.unusedSimpArgs false
set_option linter.unusedVariables false
set_option maxRecDepth 10000
variable {k:Nat} {b:Option Nat} {H:List AObj} {lk:Bool} {K:AV→St→Prop}
def jA:List (Int × Int × Int):=[(0,0,3),(1,0,2),(2,1,2)]
abbrev vA:AV:=.slice true 3 [[iv 0,iv 0,iv 3],[iv 1,iv 0,iv 2],[iv 2,iv 1,iv 2]]
theorem vA_sl:Sl H 3 jc vA jA:=Sl.lit (by omega) jc_len rfl
theorem yA0 (hk:1000≤k) {r0 r1 r6 r9 r10 r11 r12 r13 r14 r15 r16 r17 r18 r19 r20 r21 r22 r23 r24 r25 r26 r27 r28 r29 r30 r31 r32 r33 r34 r35 r36 r37 r38 r39 r40 r41 r42 r43 r44 r45 r46 r47 r48 r49 r50 r51 r52 r53 r54 r55 r56 r57 r58 r59 r60 r61 r62 r63 r64 r65 r66:AV} {x1 x2 x3:AObj} (hK:K (.bool true) ⟨H ++ [.cells [vA],.cells [iv 1],.cells [.slice true 0 []],.cells [iv 0],.cells [iv 0,iv 0,iv 0],.cells [.sref (H.length + 4) 0 3 3 1],.cells [.sref (H.length + 15) 0 1 2 1,.fn F_q18 [.ptr H.length 0 1]],.map shI 3 [(iv 0,.sref (H.length + 10) 0 2 2 1),(iv 1,.sref (H.length + 13) 0 1 1 1)],.cells [.map (H.length + 7)],x1,.cells [iv 0,iv 1],x2,x3,.cells [iv 2],.loop [r0,r1,.ptr H.length 0 1,.ptr (H.length + 1) 0 1,.ptr (H.length + 2) 0 1,.ptr (H.length + 3) 0 1,r6,.ptr (H.length + 5) 0 1,.ptr (H.length + 6) 0 2,r9,r10,r11,r12,r13,r14,r15,r16,r17,r18,r19,r20,r21,r22,r23,r24,r25,r26,r27,r28,r29,r30,r31,r32,r33,r34,r35,r36,r37,r38,r39,r40,r41,r42,r43,r44,r45,r46,r47,r48,r49,r50,r51,r52,r53,r54,r55,r56,r57,r58,r59,r60,r61,r62,r63,r64,r65,r66] [28,29] q17.n4 q17.n5 true none,.cells [iv 0,iv 0]],true⟩):YC ⟨prog,k + 1,b⟩ (H.length + 14) [iv 0,.sref (H.length + 10) 0 2 2 1] ⟨H ++ [.cells [vA],.cells [iv 1],.cells [.slice true 0 []],.cells [iv 0],.cells [iv 0,iv 0,iv 0],.cells [.sref (H.length + 4) 0 3 3 1],.cells [.slice true 0 [],.fn F_q18 [.ptr H.length 0 1]],.map shI 3 [(iv 0,.sref (H.length + 10) 0 2 2 1),(iv 1,.sref (H.length + 13) 0 1 1 1)],.cells [.map (H.length + 7)],x1,.cells [iv 0,iv 1],x2,x3,.cells [iv 2],.loop [r0,r1,.ptr H.length 0 1,.ptr (H.length + 1) 0 1,.ptr (H.length + 2) 0 1,.ptr (H.length + 3) 0 1,r6,.ptr (H.length + 5) 0 1,.ptr (H.length + 6) 0 2,r9,r10,r11,r12,r13,r14,r15,r16,r17,r18,r19,r20,r21,r22,r23,r24,r25,r26,r27,r28,r29,r30,r31,r32,r33,r34,r35,r36,r37,r38,r39,r40,r41,r42,r43,r44,r45,r46,r47,r48,r49,r50,r51,r52,r53,r54,r55,r56,r57,r58,r59,r60,r61,r62,r63,r64,r65,r66] [28,29] q17.n4 q17.n5 true none],lk⟩ K:=by
  have hk1:100≤k:=by omega
  have hk2:100≤k - 1:=by omega
  refine YC_go (by simp -implicitDefEqProofs only [sw0,sw1,sw2,sw3,sw4,sw5,reduceCtorEq,Nat.reduceEqDiff,Nat.reduceAdd,Nat.reduceDiv,Nat.reduceLeDiff,dw0,Int.reduceAdd,Int.reduceSub,Int.reduceMul,Int.reduceLT,Int.reduceLE,Int.reduceNeg,Int.reduceEq,Int.reduceToNat,Nat.reduceLT,Nat.reduceMul,Nat.reduceSub,Nat.reduceBEq,Nat.reduceLeDiff,xw0,eApp,rowOf,appRow,lkL,lkN,eMupd,vLook,mapSh,findE,putE,keqL,hasSh,fits,shb,Int.reduceBEq,eMksl,vSlc,boundsOf,boundOf,cleanL,Nat.reduceGT,Int.reduceGT,Int.reduceGE,Int.reduceDiv,Int.reduceTDiv,vAidx,rdc]; rfl) rfl ?_
  simp -implicitDefEqProofs only [sw0,sw1,sw2,sw3,sw4,sw5,reduceCtorEq,Nat.reduceEqDiff,Nat.reduceAdd,Nat.reduceDiv,Nat.reduceLeDiff,dw0,Int.reduceAdd,Int.reduceSub,Int.reduceMul,Int.reduceLT,Int.reduceLE,Int.reduceNeg,Int.reduceEq,Int.reduceToNat,Nat.reduceLT,Nat.reduceMul,Nat.reduceSub,Nat.reduceBEq,Nat.reduceLeDiff,xw0,eApp,rowOf,appRow,lkL,lkN,eMupd,vLook,mapSh,findE,putE,keqL,hasSh,fits,shb,Int.reduceBEq,eMksl,vSlc,boundsOf,boundOf,cleanL,Nat.reduceGT,Int.reduceGT,Int.reduceGE,Int.reduceDiv,Int.reduceTDiv,vAidx,rdc,q17.n4_w,q17.n5_w,YK,Plan_u6]
  refine ⟨⟨_,_,_,_,rfl⟩,?_⟩
  rw [wl_1 (by omega)]
  simp -implicitDefEqProofs only [q17.n7_w,sw0,sw1,sw2,sw3,sw4,sw5,reduceCtorEq,Nat.reduceEqDiff,Nat.reduceAdd,Nat.reduceDiv,Nat.reduceLeDiff,dw0,Int.reduceAdd,Int.reduceSub,Int.reduceMul,Int.reduceLT,Int.reduceLE,Int.reduceNeg,Int.reduceEq,Int.reduceToNat,Nat.reduceLT,Nat.reduceMul,Nat.reduceSub,Nat.reduceBEq,Nat.reduceLeDiff,xw0,eApp,rowOf,appRow,lkL,lkN,eMupd,vLook,mapSh,findE,putE,keqL,hasSh,fits,shb,Int.reduceBEq,eMksl,vSlc,boundsOf,boundOf,cleanL,Nat.reduceGT,Int.reduceGT,Int.reduceGE,Int.reduceDiv,Int.reduceTDiv,vAidx,rdc,q17.n9_w]
  have h:=fun (K:AV→St→Prop) X (hK)=>put0' (k:=k) (b:=none) (lk:=lk) (K:=K) (n:=0) (f:=.fn F_q18 [.ptr H.length 0 1]) hk1 (H:=H ++ [.cells [vA],.cells [iv 1],.cells [.slice true 0 []],.cells [iv 0],.cells [iv 0,iv 0,iv 0],.cells [.sref (H.length + 4) 0 3 3 1]]) (L:=[.map shI 3 [(iv 0,.sref (H.length + 10) 0 2 2 1),(iv 1,.sref (H.length + 13) 0 1 1 1)],.cells [.map (H.length + 7)],x1,.cells [iv 0,iv 1],x2,x3,.cells [iv 2],X]) hK
  simp -implicitDefEqProofs only [sw0,sw1,sw2,sw3,sw4,sw5,reduceCtorEq,Nat.reduceEqDiff,Nat.reduceAdd,Nat.reduceDiv,Nat.reduceLeDiff,Nat.add_assoc] at h
  refine h _ _ ?_
  clear h
  rw [wl_1 (by omega)]
  simp -implicitDefEqProofs only [q17.n7_w,sw0,sw1,sw2,sw3,sw4,sw5,reduceCtorEq,Nat.reduceEqDiff,Nat.reduceAdd,Nat.reduceDiv,Nat.reduceLeDiff,dw0,Int.reduceAdd,Int.reduceSub,Int.reduceMul,Int.reduceLT,Int.reduceLE,Int.reduceNeg,Int.reduceEq,Int.reduceToNat,Nat.reduceLT,Nat.reduceMul,Nat.reduceSub,Nat.reduceBEq,Nat.reduceLeDiff,xw0,eApp,rowOf,appRow,lkL,lkN,eMupd,vLook,mapSh,findE,putE,keqL,hasSh,fits,shb,Int.reduceBEq,eMksl,vSlc,boundsOf,boundOf,cleanL,Nat.reduceGT,Int.reduceGT,Int.reduceGE,Int.reduceDiv,Int.reduceTDiv,vAidx,rdc,q17.n9_w]
  have h:=fun (K:AV→St→Prop) X (hK)=>put1'_1 (k:=k) (b:=none) (lk:=true) (K:=K) (n:=1) (m:=0) (z:=.undef) (qs:=jA) (cl:=H.length) (v:=vA) hk1 (H:=H ++ [.cells [vA],.cells [iv 1],.cells [.slice true 0 []],.cells [iv 0],.cells [iv 0,iv 0,iv 0],.cells [.sref (H.length + 4) 0 3 3 1]]) (L:=[.map shI 3 [(iv 0,.sref (H.length + 10) 0 2 2 1),(iv 1,.sref (H.length + 13) 0 1 1 1)],.cells [.map (H.length + 7)],x1,.cells [iv 0,iv 1],x2,x3,.cells [iv 2],X]) vA_sl (by simp -implicitDefEqProofs only [sw0,sw1,sw2,sw3,sw4,sw5,reduceCtorEq,Nat.reduceEqDiff,Nat.reduceAdd,Nat.reduceDiv,Nat.reduceLeDiff,dw0,Int.reduceAdd,Int.reduceSub,Int.reduceMul,Int.reduceLT,Int.reduceLE,Int.reduceNeg,Int.reduceEq,Int.reduceToNat,Nat.reduceLT,Nat.reduceMul,Nat.reduceSub,Nat.reduceBEq,Nat.reduceLeDiff,xw0,eApp,rowOf,appRow,lkL,lkN,eMupd,vLook,mapSh,findE,putE,keqL,hasSh,fits,shb,Int.reduceBEq,eMksl,vSlc,boundsOf,boundOf,cleanL,Nat.reduceGT,Int.reduceGT,Int.reduceGE,Int.reduceDiv,Int.reduceTDiv,vAidx,rdc]) (by decide) (by decide) hK
  simp -implicitDefEqProofs only [sw0,sw1,sw2,sw3,sw4,sw5,reduceCtorEq,Nat.reduceEqDiff,Nat.reduceAdd,Nat.reduceDiv,Nat.reduceLeDiff,dw0,Int.reduceAdd,Int.reduceSub,Int.reduceMul,Int.reduceLT,Int.reduceLE,Int.reduceNeg,Int.reduceEq,Int.reduceToNat,Nat.reduceLT,Nat.reduceMul,Nat.reduceSub,Nat.reduceBEq,Nat.reduceLeDiff,xw0,eApp,rowOf,appRow,lkL,lkN,eMupd,vLook,mapSh,findE,putE,keqL,hasSh,fits,shb,Int.reduceBEq,eMksl,vSlc,boundsOf,boundOf,cleanL,Nat.reduceGT,Int.reduceGT,Int.reduceGE,Int.reduceDiv,Int.reduceTDiv,vAidx,rdc,jA,Nat.add_assoc] at h
  refine h _ _ ?_
  clear h
  rw [wl_1 (by omega)]
  simp -implicitDefEqProofs only [q17.n7_w,sw0,sw1,sw2,sw3,sw4,sw5,reduceCtorEq,Nat.reduceEqDiff,Nat.reduceAdd,Nat.reduceDiv,Nat.reduceLeDiff,dw0,Int.reduceAdd,Int.reduceSub,Int.reduceMul,Int.reduceLT,Int.reduceLE,Int.reduceNeg,Int.reduceEq,Int.reduceToNat,Nat.reduceLT,Nat.reduceMul,Nat.reduceSub,Nat.reduceBEq,Nat.reduceLeDiff,xw0,eApp,rowOf,appRow,lkL,lkN,eMupd,vLook,mapSh,findE,putE,keqL,hasSh,fits,shb,Int.reduceBEq,eMksl,vSlc,boundsOf,boundOf,cleanL,Nat.reduceGT,Int.reduceGT,Int.reduceGE,Int.reduceDiv,Int.reduceTDiv,vAidx,rdc,q17.n10_w,Plan_u11]
  rw [wl_1 (by omega)]
  simp -implicitDefEqProofs only [q17.n12_w,sw0,sw1,sw2,sw3,sw4,sw5,reduceCtorEq,Nat.reduceEqDiff,Nat.reduceAdd,Nat.reduceDiv,Nat.reduceLeDiff,dw0,Int.reduceAdd,Int.reduceSub,Int.reduceMul,Int.reduceLT,Int.reduceLE,Int.reduceNeg,Int.reduceEq,Int.reduceToNat,Nat.reduceLT,Nat.reduceMul,Nat.reduceSub,Nat.reduceBEq,Nat.reduceLeDiff,xw0,eApp,rowOf,appRow,lkL,lkN,eMupd,vLook,mapSh,findE,putE,keqL,hasSh,fits,shb,Int.reduceBEq,eMksl,vSlc,boundsOf,boundOf,cleanL,Nat.reduceGT,Int.reduceGT,Int.reduceGE,Int.reduceDiv,Int.reduceTDiv,vAidx,rdc,q17.n14_w]
  have h:=fun (K:AV→St→Prop) X (hK)=>take2 (k:=k - 1) (b:=none) (K:=K) (n:=1) (m:=0) (f:=.fn F_q18 [.ptr H.length 0 1]) hk2 (H:=H ++ [.cells [vA],.cells [iv 1],.cells [.slice true 0 []],.cells [iv 0],.cells [iv 0,iv 0,iv 0],.cells [.sref (H.length + 4) 0 3 3 1]]) (L:=[.map shI 3 [(iv 0,.sref (H.length + 10) 0 2 2 1),(iv 1,.sref (H.length + 13) 0 1 1 1)],.cells [.map (H.length + 7)],x1,.cells [iv 0,iv 1],x2,x3,.cells [iv 2],X]) hK
  rw [show k - 1 + 1=k by omega] at h
  simp -implicitDefEqProofs only [sw0,sw1,sw2,sw3,sw4,sw5,reduceCtorEq,Nat.reduceEqDiff,Nat.reduceAdd,Nat.reduceDiv,Nat.reduceLeDiff,dw0,Int.reduceAdd,Int.reduceSub,Int.reduceMul,Int.reduceLT,Int.reduceLE,Int.reduceNeg,Int.reduceEq,Int.reduceToNat,Nat.reduceLT,Nat.reduceMul,Nat.reduceSub,Nat.reduceBEq,Nat.reduceLeDiff,xw0,eApp,rowOf,appRow,lkL,lkN,eMupd,vLook,mapSh,findE,putE,keqL,hasSh,fits,shb,Int.reduceBEq,eMksl,vSlc,boundsOf,boundOf,cleanL,Nat.reduceGT,Int.reduceGT,Int.reduceGE,Int.reduceDiv,Int.reduceTDiv,vAidx,rdc,Nat.add_assoc] at h
  refine h _ _ ?_
  clear h
  simp -implicitDefEqProofs only [sw0,sw1,sw2,sw3,sw4,sw5,reduceCtorEq,Nat.reduceEqDiff,Nat.reduceAdd,Nat.reduceDiv,Nat.reduceLeDiff,dw0,Int.reduceAdd,Int.reduceSub,Int.reduceMul,Int.reduceLT,Int.reduceLE,Int.reduceNeg,Int.reduceEq,Int.reduceToNat,Nat.reduceLT,Nat.reduceMul,Nat.reduceSub,Nat.reduceBEq,Nat.reduceLeDiff,xw0,eApp,rowOf,appRow,lkL,lkN,eMupd,vLook,mapSh,findE,putE,keqL,hasSh,fits,shb,Int.reduceBEq,eMksl,vSlc,boundsOf,boundOf,cleanL,Nat.reduceGT,Int.reduceGT,Int.reduceGE,Int.reduceDiv,Int.reduceTDiv,vAidx,rdc,q17.n16_w,q17.n17_w]
  rw [wl_1 (by omega)]
  simp -implicitDefEqProofs only [q17.n12_w,sw0,sw1,sw2,sw3,sw4,sw5,reduceCtorEq,Nat.reduceEqDiff,Nat.reduceAdd,Nat.reduceDiv,Nat.reduceLeDiff,dw0,Int.reduceAdd,Int.reduceSub,Int.reduceMul,Int.reduceLT,Int.reduceLE,Int.reduceNeg,Int.reduceEq,Int.reduceToNat,Nat.reduceLT,Nat.reduceMul,Nat.reduceSub,Nat.reduceBEq,Nat.reduceLeDiff,xw0,eApp,rowOf,appRow,lkL,lkN,eMupd,vLook,mapSh,findE,putE,keqL,hasSh,fits,shb,Int.reduceBEq,eMksl,vSlc,boundsOf,boundOf,cleanL,Nat.reduceGT,Int.reduceGT,Int.reduceGE,Int.reduceDiv,Int.reduceTDiv,vAidx,rdc,YK]
  exact hK
theorem yA1 (hk:1000≤k) {r0 r1 r6 r9 r10 r11 r12 r13 r14 r15 r16 r17 r18 r19 r20 r21 r22 r23 r24 r25 r26 r27 r28 r29 r30 r31 r32 r33 r34 r35 r36 r37 r38 r39 r40 r41 r42 r43 r44 r45 r46 r47 r48 r49 r50 r51 r52 r53 r54 r55 r56 r57 r58 r59 r60 r61 r62 r63 r64 r65 r66:AV} {x1 x2 x3:AObj} (hK:K (.bool true) ⟨H ++ [.cells [vA],.cells [iv 1],.cells [.slice true 0 []],.cells [iv 0],.cells [iv 0,iv 0,iv 1],.cells [.sref (H.length + 4) 0 3 3 1],.cells [.sref (H.length + 15) 0 1 2 1,.fn F_q18 [.ptr H.length 0 1]],.map shI 3 [(iv 0,.sref (H.length + 10) 0 2 2 1),(iv 1,.sref (H.length + 13) 0 1 1 1)],.cells [.map (H.length + 7)],x1,.cells [iv 0,iv 1],x2,x3,.cells [iv 2],.loop [r0,r1,.ptr H.length 0 1,.ptr (H.length + 1) 0 1,.ptr (H.length + 2) 0 1,.ptr (H.length + 3) 0 1,r6,.ptr (H.length + 5) 0 1,.ptr (H.length + 6) 0 2,r9,r10,r11,r12,r13,r14,r15,r16,r17,r18,r19,r20,r21,r22,r23,r24,r25,r26,r27,r28,r29,r30,r31,r32,r33,r34,r35,r36,r37,r38,r39,r40,r41,r42,r43,r44,r45,r46,r47,r48,r49,r50,r51,r52,r53,r54,r55,r56,r57,r58,r59,r60,r61,r62,r63,r64,r65,r66] [28,29] q17.n4 q17.n5 true none,.cells [iv 0,iv 0]],true⟩):YC ⟨prog,k + 1,b⟩ (H.length + 14) [iv 1,.sref (H.length + 13) 0 1 1 1] ⟨H ++ [.cells [vA],.cells [iv 1],.cells [.slice true 0 []],.cells [iv 0],.cells [iv 0,iv 0,iv 0],.cells [.sref (H.length + 4) 0 3 3 1],.cells [.sref (H.length + 15) 0 1 2 1,.fn F_q18 [.ptr H.length 0 1]],.map shI 3 [(iv 0,.sref (H.length + 10) 0 2 2 1),(iv 1,.sref (H.length + 13) 0 1 1 1)],.cells [.map (H.length + 7)],x1,.cells [iv 0,iv 1],x2,x3,.cells [iv 2],.loop [r0,r1,.ptr H.length 0 1,.ptr (H.length + 1) 0 1,.ptr (H.length + 2) 0 1,.ptr (H.length + 3) 0 1,r6,.ptr (H.length + 5) 0 1,.ptr (H.length + 6) 0 2,r9,r10,r11,r12,r13,r14,r15,r16,r17,r18,r19,r20,r21,r22,r23,r24,r25,r26,r27,r28,r29,r30,r31,r32,r33,r34,r35,r36,r37,r38,r39,r40,r41,r42,r43,r44,r45,r46,r47,r48,r49,r50,r51,r52,r53,r54,r55,r56,r57,r58,r59,r60,r61,r62,r63,r64,r65,r66] [28,29] q17.n4 q17.n5 true none,.cells [iv 0,iv 0]],true⟩ K:=by
  have hk1:100≤k:=by omega
  have hk2:100≤k - 1:=by omega
  refine YC_go (by simp -implicitDefEqProofs only [sw0,sw1,sw2,sw3,sw4,sw5,reduceCtorEq,Nat.reduceEqDiff,Nat.reduceAdd,Nat.reduceDiv,Nat.reduceLeDiff,dw0,Int.reduceAdd,Int.reduceSub,Int.reduceMul,Int.reduceLT,Int.reduceLE,Int.reduceNeg,Int.reduceEq,Int.reduceToNat,Nat.reduceLT,Nat.reduceMul,Nat.reduceSub,Nat.reduceBEq,Nat.reduceLeDiff,xw0,eApp,rowOf,appRow,lkL,lkN,eMupd,vLook,mapSh,findE,putE,keqL,hasSh,fits,shb,Int.reduceBEq,eMksl,vSlc,boundsOf,boundOf,cleanL,Nat.reduceGT,Int.reduceGT,Int.reduceGE,Int.reduceDiv,Int.reduceTDiv,vAidx,rdc]; rfl) rfl ?_
  simp -implicitDefEqProofs only [sw0,sw1,sw2,sw3,sw4,sw5,reduceCtorEq,Nat.reduceEqDiff,Nat.reduceAdd,Nat.reduceDiv,Nat.reduceLeDiff,dw0,Int.reduceAdd,Int.reduceSub,Int.reduceMul,Int.reduceLT,Int.reduceLE,Int.reduceNeg,Int.reduceEq,Int.reduceToNat,Nat.reduceLT,Nat.reduceMul,Nat.reduceSub,Nat.reduceBEq,Nat.reduceLeDiff,xw0,eApp,rowOf,appRow,lkL,lkN,eMupd,vLook,mapSh,findE,putE,keqL,hasSh,fits,shb,Int.reduceBEq,eMksl,vSlc,boundsOf,boundOf,cleanL,Nat.reduceGT,Int.reduceGT,Int.reduceGE,Int.reduceDiv,Int.reduceTDiv,vAidx,rdc,q17.n4_w,q17.n5_w,YK,Plan_u6]
  refine ⟨⟨_,_,_,_,rfl⟩,?_⟩
  rw [wl_1 (by omega)]
  simp -implicitDefEqProofs only [q17.n7_w,sw0,sw1,sw2,sw3,sw4,sw5,reduceCtorEq,Nat.reduceEqDiff,Nat.reduceAdd,Nat.reduceDiv,Nat.reduceLeDiff,dw0,Int.reduceAdd,Int.reduceSub,Int.reduceMul,Int.reduceLT,Int.reduceLE,Int.reduceNeg,Int.reduceEq,Int.reduceToNat,Nat.reduceLT,Nat.reduceMul,Nat.reduceSub,Nat.reduceBEq,Nat.reduceLeDiff,xw0,eApp,rowOf,appRow,lkL,lkN,eMupd,vLook,mapSh,findE,putE,keqL,hasSh,fits,shb,Int.reduceBEq,eMksl,vSlc,boundsOf,boundOf,cleanL,Nat.reduceGT,Int.reduceGT,Int.reduceGE,Int.reduceDiv,Int.reduceTDiv,vAidx,rdc,q17.n9_w]
  have h:=fun (K:AV→St→Prop) X (hK)=>put1'_2 (k:=k) (b:=none) (lk:=true) (K:=K) (n:=2) (m:=0) (z:=iv 0) (qs:=jA) (cl:=H.length) (v:=vA) hk1 (H:=H ++ [.cells [vA],.cells [iv 1],.cells [.slice true 0 []],.cells [iv 0],.cells [iv 0,iv 0,iv 0],.cells [.sref (H.length + 4) 0 3 3 1]]) (L:=[.map shI 3 [(iv 0,.sref (H.length + 10) 0 2 2 1),(iv 1,.sref (H.length + 13) 0 1 1 1)],.cells [.map (H.length + 7)],x1,.cells [iv 0,iv 1],x2,x3,.cells [iv 2],X]) vA_sl (by simp -implicitDefEqProofs only [sw0,sw1,sw2,sw3,sw4,sw5,reduceCtorEq,Nat.reduceEqDiff,Nat.reduceAdd,Nat.reduceDiv,Nat.reduceLeDiff,dw0,Int.reduceAdd,Int.reduceSub,Int.reduceMul,Int.reduceLT,Int.reduceLE,Int.reduceNeg,Int.reduceEq,Int.reduceToNat,Nat.reduceLT,Nat.reduceMul,Nat.reduceSub,Nat.reduceBEq,Nat.reduceLeDiff,xw0,eApp,rowOf,appRow,lkL,lkN,eMupd,vLook,mapSh,findE,putE,keqL,hasSh,fits,shb,Int.reduceBEq,eMksl,vSlc,boundsOf,boundOf,cleanL,Nat.reduceGT,Int.reduceGT,Int.reduceGE,Int.reduceDiv,Int.reduceTDiv,vAidx,rdc]) (by decide) (by decide) hK
  simp -implicitDefEqProofs only [sw0,sw1,sw2,sw3,sw4,sw5,reduceCtorEq,Nat.reduceEqDiff,Nat.reduceAdd,Nat.reduceDiv,Nat.reduceLeDiff,dw0,Int.reduceAdd,Int.reduceSub,Int.reduceMul,Int.reduceLT,Int.reduceLE,Int.reduceNeg,Int.reduceEq,Int.reduceToNat,Nat.reduceLT,Nat.reduceMul,Nat.reduceSub,Nat.reduceBEq,Nat.reduceLeDiff,xw0,eApp,rowOf,appRow,lkL,lkN,eMupd,vLook,mapSh,findE,putE,keqL,hasSh,fits,shb,Int.reduceBEq,eMksl,vSlc,boundsOf,boundOf,cleanL,Nat.reduceGT,Int.reduceGT,Int.reduceGE,Int.reduceDiv,Int.reduceTDiv,vAidx,rdc,jA,Nat.add_assoc] at h
  refine h _ _ ?_
  clear h
  rw [wl_1 (by omega)]
  simp -implicitDefEqProofs only [q17.n7_w,sw0,sw1,sw2,sw3,sw4,sw5,reduceCtorEq,Nat.reduceEqDiff,Nat.reduceAdd,Nat.reduceDiv,Nat.reduceLeDiff,dw0,Int.reduceAdd,Int.reduceSub,Int.reduceMul,Int.reduceLT,Int.reduceLE,Int.reduceNeg,Int.reduceEq,Int.reduceToNat,Nat.reduceLT,Nat.reduceMul,Nat.reduceSub,Nat.reduceBEq,Nat.reduceLeDiff,xw0,eApp,rowOf,appRow,lkL,lkN,eMupd,vLook,mapSh,findE,putE,keqL,hasSh,fits,shb,Int.reduceBEq,eMksl,vSlc,boundsOf,boundOf,cleanL,Nat.reduceGT,Int.reduceGT,Int.reduceGE,Int.reduceDiv,Int.reduceTDiv,vAidx,rdc,q17.n10_w,Plan_u11]
  rw [wl_1 (by omega)]
  simp -implicitDefEqProofs only [q17.n12_w,sw0,sw1,sw2,sw3,sw4,sw5,reduceCtorEq,Nat.reduceEqDiff,Nat.reduceAdd,Nat.reduceDiv,Nat.reduceLeDiff,dw0,Int.reduceAdd,Int.reduceSub,Int.reduceMul,Int.reduceLT,Int.reduceLE,Int.reduceNeg,Int.reduceEq,Int.reduceToNat,Nat.reduceLT,Nat.reduceMul,Nat.reduceSub,Nat.reduceBEq,Nat.reduceLeDiff,xw0,eApp,rowOf,appRow,lkL,lkN,eMupd,vLook,mapSh,findE,putE,keqL,hasSh,fits,shb,Int.reduceBEq,eMksl,vSlc,boundsOf,boundOf,cleanL,Nat.reduceGT,Int.reduceGT,Int.reduceGE,Int.reduceDiv,Int.reduceTDiv,vAidx,rdc,q17.n14_w]
  have h:=fun (K:AV→St→Prop) X (hK)=>take2 (k:=k - 1) (b:=none) (K:=K) (n:=2) (m:=0) (f:=.fn F_q18 [.ptr H.length 0 1]) hk2 (H:=H ++ [.cells [vA],.cells [iv 1],.cells [.slice true 0 []],.cells [iv 0],.cells [iv 0,iv 0,iv 0],.cells [.sref (H.length + 4) 0 3 3 1]]) (L:=[.map shI 3 [(iv 0,.sref (H.length + 10) 0 2 2 1),(iv 1,.sref (H.length + 13) 0 1 1 1)],.cells [.map (H.length + 7)],x1,.cells [iv 0,iv 1],x2,x3,.cells [iv 2],X]) hK
  rw [show k - 1 + 1=k by omega] at h
  simp -implicitDefEqProofs only [sw0,sw1,sw2,sw3,sw4,sw5,reduceCtorEq,Nat.reduceEqDiff,Nat.reduceAdd,Nat.reduceDiv,Nat.reduceLeDiff,dw0,Int.reduceAdd,Int.reduceSub,Int.reduceMul,Int.reduceLT,Int.reduceLE,Int.reduceNeg,Int.reduceEq,Int.reduceToNat,Nat.reduceLT,Nat.reduceMul,Nat.reduceSub,Nat.reduceBEq,Nat.reduceLeDiff,xw0,eApp,rowOf,appRow,lkL,lkN,eMupd,vLook,mapSh,findE,putE,keqL,hasSh,fits,shb,Int.reduceBEq,eMksl,vSlc,boundsOf,boundOf,cleanL,Nat.reduceGT,Int.reduceGT,Int.reduceGE,Int.reduceDiv,Int.reduceTDiv,vAidx,rdc,Nat.add_assoc] at h
  refine h _ _ ?_
  clear h
  simp -implicitDefEqProofs only [sw0,sw1,sw2,sw3,sw4,sw5,reduceCtorEq,Nat.reduceEqDiff,Nat.reduceAdd,Nat.reduceDiv,Nat.reduceLeDiff,dw0,Int.reduceAdd,Int.reduceSub,Int.reduceMul,Int.reduceLT,Int.reduceLE,Int.reduceNeg,Int.reduceEq,Int.reduceToNat,Nat.reduceLT,Nat.reduceMul,Nat.reduceSub,Nat.reduceBEq,Nat.reduceLeDiff,xw0,eApp,rowOf,appRow,lkL,lkN,eMupd,vLook,mapSh,findE,putE,keqL,hasSh,fits,shb,Int.reduceBEq,eMksl,vSlc,boundsOf,boundOf,cleanL,Nat.reduceGT,Int.reduceGT,Int.reduceGE,Int.reduceDiv,Int.reduceTDiv,vAidx,rdc,q17.n16_w,q17.n17_w]
  rw [wl_1 (by omega)]
  simp -implicitDefEqProofs only [q17.n12_w,sw0,sw1,sw2,sw3,sw4,sw5,reduceCtorEq,Nat.reduceEqDiff,Nat.reduceAdd,Nat.reduceDiv,Nat.reduceLeDiff,dw0,Int.reduceAdd,Int.reduceSub,Int.reduceMul,Int.reduceLT,Int.reduceLE,Int.reduceNeg,Int.reduceEq,Int.reduceToNat,Nat.reduceLT,Nat.reduceMul,Nat.reduceSub,Nat.reduceBEq,Nat.reduceLeDiff,xw0,eApp,rowOf,appRow,lkL,lkN,eMupd,vLook,mapSh,findE,putE,keqL,hasSh,fits,shb,Int.reduceBEq,eMksl,vSlc,boundsOf,boundOf,cleanL,Nat.reduceGT,Int.reduceGT,Int.reduceGE,Int.reduceDiv,Int.reduceTDiv,vAidx,rdc,YK]
  exact hK
theorem yA2 (hk:1000≤k) {r0 r1 r6 r9 r10 r11 r12 r13 r14 r15 r16 r17 r18 r19 r20 r21 r22 r23 r24 r25 r26 r27 r28 r29 r30 r31 r32 r33 r34 r35 r36 r37 r38 r39 r40 r41 r42 r43 r44 r45 r46 r47 r48 r49 r50 r51 r52 r53 r54 r55 r56 r57 r58 r59 r60 r61 r62 r63 r64 r65 r66:AV} {x1 x2 x3:AObj} (hK:K (.bool true) ⟨H ++ [.cells [vA],.cells [iv 1],.cells [.slice true 0 []],.cells [iv 0],.cells [iv 2,iv 0,iv 1],.cells [.sref (H.length + 4) 0 3 3 1],.cells [.slice false 1 [],.fn F_q18 [.ptr H.length 0 1]],.map shI 3 [(iv 0,.sref (H.length + 10) 0 2 2 1),(iv 1,.sref (H.length + 13) 0 1 1 1)],.cells [.map (H.length + 7)],x1,.cells [iv 0,iv 1],x2,x3,.cells [iv 2],.loop [r0,r1,.ptr H.length 0 1,.ptr (H.length + 1) 0 1,.ptr (H.length + 2) 0 1,.ptr (H.length + 3) 0 1,r6,.ptr (H.length + 5) 0 1,.ptr (H.length + 6) 0 2,r9,r10,r11,r12,r13,r14,r15,r16,r17,r18,r19,r20,r21,r22,r23,r24,r25,r26,r27,r28,r29,r30,r31,r32,r33,r34,r35,r36,r37,r38,r39,r40,r41,r42,r43,r44,r45,r46,r47,r48,r49,r50,r51,r52,r53,r54,r55,r56,r57,r58,r59,r60,r61,r62,r63,r64,r65,r66] [28,29] q17.n4 q17.n5 true none,.cells [iv 0,iv 0]],true⟩):YC ⟨prog,k + 1,b⟩ (H.length + 14) [iv 2,.slice true 0 []] ⟨H ++ [.cells [vA],.cells [iv 1],.cells [.slice true 0 []],.cells [iv 0],.cells [iv 0,iv 0,iv 1],.cells [.sref (H.length + 4) 0 3 3 1],.cells [.sref (H.length + 15) 0 1 2 1,.fn F_q18 [.ptr H.length 0 1]],.map shI 3 [(iv 0,.sref (H.length + 10) 0 2 2 1),(iv 1,.sref (H.length + 13) 0 1 1 1)],.cells [.map (H.length + 7)],x1,.cells [iv 0,iv 1],x2,x3,.cells [iv 2],.loop [r0,r1,.ptr H.length 0 1,.ptr (H.length + 1) 0 1,.ptr (H.length + 2) 0 1,.ptr (H.length + 3) 0 1,r6,.ptr (H.length + 5) 0 1,.ptr (H.length + 6) 0 2,r9,r10,r11,r12,r13,r14,r15,r16,r17,r18,r19,r20,r21,r22,r23,r24,r25,r26,r27,r28,r29,r30,r31,r32,r33,r34,r35,r36,r37,r38,r39,r40,r41,r42,r43,r44,r45,r46,r47,r48,r49,r50,r51,r52,r53,r54,r55,r56,r57,r58,r59,r60,r61,r62,r63,r64,r65,r66] [28,29] q17.n4 q17.n5 true none,.cells [iv 0,iv 0]],true⟩ K:=by
  have hk1:100≤k:=by omega
  have hk2:100≤k - 1:=by omega
  refine YC_go (by simp -implicitDefEqProofs only [sw0,sw1,sw2,sw3,sw4,sw5,reduceCtorEq,Nat.reduceEqDiff,Nat.reduceAdd,Nat.reduceDiv,Nat.reduceLeDiff,dw0,Int.reduceAdd,Int.reduceSub,Int.reduceMul,Int.reduceLT,Int.reduceLE,Int.reduceNeg,Int.reduceEq,Int.reduceToNat,Nat.reduceLT,Nat.reduceMul,Nat.reduceSub,Nat.reduceBEq,Nat.reduceLeDiff,xw0,eApp,rowOf,appRow,lkL,lkN,eMupd,vLook,mapSh,findE,putE,keqL,hasSh,fits,shb,Int.reduceBEq,eMksl,vSlc,boundsOf,boundOf,cleanL,Nat.reduceGT,Int.reduceGT,Int.reduceGE,Int.reduceDiv,Int.reduceTDiv,vAidx,rdc]; rfl) rfl ?_
  simp -implicitDefEqProofs only [sw0,sw1,sw2,sw3,sw4,sw5,reduceCtorEq,Nat.reduceEqDiff,Nat.reduceAdd,Nat.reduceDiv,Nat.reduceLeDiff,dw0,Int.reduceAdd,Int.reduceSub,Int.reduceMul,Int.reduceLT,Int.reduceLE,Int.reduceNeg,Int.reduceEq,Int.reduceToNat,Nat.reduceLT,Nat.reduceMul,Nat.reduceSub,Nat.reduceBEq,Nat.reduceLeDiff,xw0,eApp,rowOf,appRow,lkL,lkN,eMupd,vLook,mapSh,findE,putE,keqL,hasSh,fits,shb,Int.reduceBEq,eMksl,vSlc,boundsOf,boundOf,cleanL,Nat.reduceGT,Int.reduceGT,Int.reduceGE,Int.reduceDiv,Int.reduceTDiv,vAidx,rdc,q17.n4_w,q17.n5_w,YK,Plan_u6]
  refine ⟨⟨_,_,_,_,rfl⟩,?_⟩
  rw [wl_1 (by omega)]
  simp -implicitDefEqProofs only [q17.n7_w,sw0,sw1,sw2,sw3,sw4,sw5,reduceCtorEq,Nat.reduceEqDiff,Nat.reduceAdd,Nat.reduceDiv,Nat.reduceLeDiff,dw0,Int.reduceAdd,Int.reduceSub,Int.reduceMul,Int.reduceLT,Int.reduceLE,Int.reduceNeg,Int.reduceEq,Int.reduceToNat,Nat.reduceLT,Nat.reduceMul,Nat.reduceSub,Nat.reduceBEq,Nat.reduceLeDiff,xw0,eApp,rowOf,appRow,lkL,lkN,eMupd,vLook,mapSh,findE,putE,keqL,hasSh,fits,shb,Int.reduceBEq,eMksl,vSlc,boundsOf,boundOf,cleanL,Nat.reduceGT,Int.reduceGT,Int.reduceGE,Int.reduceDiv,Int.reduceTDiv,vAidx,rdc,q17.n10_w,Plan_u11]
  rw [wl_1 (by omega)]
  simp -implicitDefEqProofs only [q17.n12_w,sw0,sw1,sw2,sw3,sw4,sw5,reduceCtorEq,Nat.reduceEqDiff,Nat.reduceAdd,Nat.reduceDiv,Nat.reduceLeDiff,dw0,Int.reduceAdd,Int.reduceSub,Int.reduceMul,Int.reduceLT,Int.reduceLE,Int.reduceNeg,Int.reduceEq,Int.reduceToNat,Nat.reduceLT,Nat.reduceMul,Nat.reduceSub,Nat.reduceBEq,Nat.reduceLeDiff,xw0,eApp,rowOf,appRow,lkL,lkN,eMupd,vLook,mapSh,findE,putE,keqL,hasSh,fits,shb,Int.reduceBEq,eMksl,vSlc,boundsOf,boundOf,cleanL,Nat.reduceGT,Int.reduceGT,Int.reduceGE,Int.reduceDiv,Int.reduceTDiv,vAidx,rdc,q17.n14_w]
  have h:=fun (K:AV→St→Prop) X (hK)=>take1 (k:=k - 1) (b:=none) (K:=K) (ver:=2) (R:=[iv 0]) (n:=0) (f:=.fn F_q18 [.ptr H.length 0 1]) hk2 rfl (H:=H ++ [.cells [vA],.cells [iv 1],.cells [.slice true 0 []],.cells [iv 0],.cells [iv 0,iv 0,iv 1],.cells [.sref (H.length + 4) 0 3 3 1]]) (L:=[.map shI 3 [(iv 0,.sref (H.length + 10) 0 2 2 1),(iv 1,.sref (H.length + 13) 0 1 1 1)],.cells [.map (H.length + 7)],x1,.cells [iv 0,iv 1],x2,x3,.cells [iv 2],X]) hK
  rw [show k - 1 + 1=k by omega] at h
  simp -implicitDefEqProofs only [sw0,sw1,sw2,sw3,sw4,sw5,reduceCtorEq,Nat.reduceEqDiff,Nat.reduceAdd,Nat.reduceDiv,Nat.reduceLeDiff,dw0,Int.reduceAdd,Int.reduceSub,Int.reduceMul,Int.reduceLT,Int.reduceLE,Int.reduceNeg,Int.reduceEq,Int.reduceToNat,Nat.reduceLT,Nat.reduceMul,Nat.reduceSub,Nat.reduceBEq,Nat.reduceLeDiff,xw0,eApp,rowOf,appRow,lkL,lkN,eMupd,vLook,mapSh,findE,putE,keqL,hasSh,fits,shb,Int.reduceBEq,eMksl,vSlc,boundsOf,boundOf,cleanL,Nat.reduceGT,Int.reduceGT,Int.reduceGE,Int.reduceDiv,Int.reduceTDiv,vAidx,rdc,Nat.add_assoc] at h
  refine h _ _ ?_
  clear h
  simp -implicitDefEqProofs only [sw0,sw1,sw2,sw3,sw4,sw5,reduceCtorEq,Nat.reduceEqDiff,Nat.reduceAdd,Nat.reduceDiv,Nat.reduceLeDiff,dw0,Int.reduceAdd,Int.reduceSub,Int.reduceMul,Int.reduceLT,Int.reduceLE,Int.reduceNeg,Int.reduceEq,Int.reduceToNat,Nat.reduceLT,Nat.reduceMul,Nat.reduceSub,Nat.reduceBEq,Nat.reduceLeDiff,xw0,eApp,rowOf,appRow,lkL,lkN,eMupd,vLook,mapSh,findE,putE,keqL,hasSh,fits,shb,Int.reduceBEq,eMksl,vSlc,boundsOf,boundOf,cleanL,Nat.reduceGT,Int.reduceGT,Int.reduceGE,Int.reduceDiv,Int.reduceTDiv,vAidx,rdc,q17.n16_w,q17.n17_w]
  rw [wl_1 (by omega)]
  simp -implicitDefEqProofs only [q17.n12_w,sw0,sw1,sw2,sw3,sw4,sw5,reduceCtorEq,Nat.reduceEqDiff,Nat.reduceAdd,Nat.reduceDiv,Nat.reduceLeDiff,dw0,Int.reduceAdd,Int.reduceSub,Int.reduceMul,Int.reduceLT,Int.reduceLE,Int.reduceNeg,Int.reduceEq,Int.reduceToNat,Nat.reduceLT,Nat.reduceMul,Nat.reduceSub,Nat.reduceBEq,Nat.reduceLeDiff,xw0,eApp,rowOf,appRow,lkL,lkN,eMupd,vLook,mapSh,findE,putE,keqL,hasSh,fits,shb,Int.reduceBEq,eMksl,vSlc,boundsOf,boundOf,cleanL,Nat.reduceGT,Int.reduceGT,Int.reduceGE,Int.reduceDiv,Int.reduceTDiv,vAidx,rdc,YK]
  exact hK
theorem yA3 (hk:1000≤k) {r0 r1 r6 r9 r10 r11 r12 r13 r14 r15 r16 r17 r18 r19 r20 r21 r22 r23 r24 r25 r26 r27 r28 r29 r30 r31 r32 r33 r34 r35 r36 r37 r38 r39 r40 r41 r42 r43 r44 r45 r46 r47 r48 r49 r50 r51 r52 r53 r54 r55 r56 r57 r58 r59 r60 r61 r62 r63 r64 r65 r66:AV} {x1 x2 x3:AObj} {t:Nat} (hK:K (.bool true) ⟨H ++ [.cells [vA],.cells [iv 1],.cells [.slice true 0 []],.cells [iv 0],.cells [iv 2,iv 0,iv 1],.cells [.sref (H.length + 4) 0 3 3 1],.cells [.slice false 1 [],.fn F_q18 [.ptr H.length 0 1]],.map shI 3 [(iv 0,.sref (H.length + 10) 0 2 2 1),(iv 1,.sref (H.length + 13) 0 1 1 1)],.cells [.map (H.length + 7)],x1,.cells [iv 0,iv 1],x2,x3,.cells [iv 2],.loop [r0,r1,.ptr H.length 0 1,.ptr (H.length + 1) 0 1,.ptr (H.length + 2) 0 1,.ptr (H.length + 3) 0 1,r6,.ptr (H.length + 5) 0 1,.ptr (H.length + 6) 0 2,r9,r10,r11,r12,r13,r14,r15,r16,r17,r18,r19,r20,r21,r22,r23,r24,r25,r26,r27,r28,r29,r30,r31,r32,r33,r34,r35,r36,r37,r38,r39,r40,r41,r42,r43,r44,r45,r46,r47,r48,r49,r50,r51,r52,r53,r54,r55,r56,r57,r58,r59,r60,r61,r62,r63,r64,r65,r66] [28,29] q17.n4 q17.n5 true none,.cells [iv 0,iv 0]],true⟩):YC ⟨prog,k + 1,b⟩ (H.length + 14) [iv t,.slice true 0 []] ⟨H ++ [.cells [vA],.cells [iv 1],.cells [.slice true 0 []],.cells [iv 0],.cells [iv 2,iv 0,iv 1],.cells [.sref (H.length + 4) 0 3 3 1],.cells [.slice false 1 [],.fn F_q18 [.ptr H.length 0 1]],.map shI 3 [(iv 0,.sref (H.length + 10) 0 2 2 1),(iv 1,.sref (H.length + 13) 0 1 1 1)],.cells [.map (H.length + 7)],x1,.cells [iv 0,iv 1],x2,x3,.cells [iv 2],.loop [r0,r1,.ptr H.length 0 1,.ptr (H.length + 1) 0 1,.ptr (H.length + 2) 0 1,.ptr (H.length + 3) 0 1,r6,.ptr (H.length + 5) 0 1,.ptr (H.length + 6) 0 2,r9,r10,r11,r12,r13,r14,r15,r16,r17,r18,r19,r20,r21,r22,r23,r24,r25,r26,r27,r28,r29,r30,r31,r32,r33,r34,r35,r36,r37,r38,r39,r40,r41,r42,r43,r44,r45,r46,r47,r48,r49,r50,r51,r52,r53,r54,r55,r56,r57,r58,r59,r60,r61,r62,r63,r64,r65,r66] [28,29] q17.n4 q17.n5 true none,.cells [iv 0,iv 0]],true⟩ K:=by
  have hk1:100≤k:=by omega
  have hk2:100≤k - 1:=by omega
  refine YC_go (by simp -implicitDefEqProofs only [sw0,sw1,sw2,sw3,sw4,sw5,reduceCtorEq,Nat.reduceEqDiff,Nat.reduceAdd,Nat.reduceDiv,Nat.reduceLeDiff,dw0,Int.reduceAdd,Int.reduceSub,Int.reduceMul,Int.reduceLT,Int.reduceLE,Int.reduceNeg,Int.reduceEq,Int.reduceToNat,Nat.reduceLT,Nat.reduceMul,Nat.reduceSub,Nat.reduceBEq,Nat.reduceLeDiff,xw0,eApp,rowOf,appRow,lkL,lkN,eMupd,vLook,mapSh,findE,putE,keqL,hasSh,fits,shb,Int.reduceBEq,eMksl,vSlc,boundsOf,boundOf,cleanL,Nat.reduceGT,Int.reduceGT,Int.reduceGE,Int.reduceDiv,Int.reduceTDiv,vAidx,rdc]; rfl) rfl ?_
  simp -implicitDefEqProofs only [sw0,sw1,sw2,sw3,sw4,sw5,reduceCtorEq,Nat.reduceEqDiff,Nat.reduceAdd,Nat.reduceDiv,Nat.reduceLeDiff,dw0,Int.reduceAdd,Int.reduceSub,Int.reduceMul,Int.reduceLT,Int.reduceLE,Int.reduceNeg,Int.reduceEq,Int.reduceToNat,Nat.reduceLT,Nat.reduceMul,Nat.reduceSub,Nat.reduceBEq,Nat.reduceLeDiff,xw0,eApp,rowOf,appRow,lkL,lkN,eMupd,vLook,mapSh,findE,putE,keqL,hasSh,fits,shb,Int.reduceBEq,eMksl,vSlc,boundsOf,boundOf,cleanL,Nat.reduceGT,Int.reduceGT,Int.reduceGE,Int.reduceDiv,Int.reduceTDiv,vAidx,rdc,q17.n4_w,q17.n5_w,YK,Plan_u6]
  refine ⟨⟨_,_,_,_,rfl⟩,?_⟩
  rw [wl_1 (by omega)]
  simp -implicitDefEqProofs only [q17.n7_w,sw0,sw1,sw2,sw3,sw4,sw5,reduceCtorEq,Nat.reduceEqDiff,Nat.reduceAdd,Nat.reduceDiv,Nat.reduceLeDiff,dw0,Int.reduceAdd,Int.reduceSub,Int.reduceMul,Int.reduceLT,Int.reduceLE,Int.reduceNeg,Int.reduceEq,Int.reduceToNat,Nat.reduceLT,Nat.reduceMul,Nat.reduceSub,Nat.reduceBEq,Nat.reduceLeDiff,xw0,eApp,rowOf,appRow,lkL,lkN,eMupd,vLook,mapSh,findE,putE,keqL,hasSh,fits,shb,Int.reduceBEq,eMksl,vSlc,boundsOf,boundOf,cleanL,Nat.reduceGT,Int.reduceGT,Int.reduceGE,Int.reduceDiv,Int.reduceTDiv,vAidx,rdc,q17.n10_w,Plan_u11]
  rw [wl_1 (by omega)]
  simp -implicitDefEqProofs only [q17.n12_w,sw0,sw1,sw2,sw3,sw4,sw5,reduceCtorEq,Nat.reduceEqDiff,Nat.reduceAdd,Nat.reduceDiv,Nat.reduceLeDiff,dw0,Int.reduceAdd,Int.reduceSub,Int.reduceMul,Int.reduceLT,Int.reduceLE,Int.reduceNeg,Int.reduceEq,Int.reduceToNat,Nat.reduceLT,Nat.reduceMul,Nat.reduceSub,Nat.reduceBEq,Nat.reduceLeDiff,xw0,eApp,rowOf,appRow,lkL,lkN,eMupd,vLook,mapSh,findE,putE,keqL,hasSh,fits,shb,Int.reduceBEq,eMksl,vSlc,boundsOf,boundOf,cleanL,Nat.reduceGT,Int.reduceGT,Int.reduceGE,Int.reduceDiv,Int.reduceTDiv,vAidx,rdc,YK]
  exact hK
theorem runA (hk:1000≤k) {r0 r1 r6 r9 r10 r11 r12 r13 r14 r15 r16 r17 r18 r19 r20 r21 r22 r23 r24 r25 r26 r27 r28 r29 r30 r31 r32 r33 r34 r35 r36 r37 r38 r39 r40 r41 r42 r43 r44 r45 r46 r47 r48 r49 r50 r51 r52 r53 r54 r55 r56 r57 r58 r59 r60 r61 r62 r63 r64 r65 r66:AV} {x1 x2 x3:AObj} (hK:K (.tup []) ⟨H ++ [.cells [vA],.cells [iv 1],.cells [.slice true 0 []],.cells [iv 0],.cells [iv 2,iv 0,iv 1],.cells [.sref (H.length + 4) 0 3 3 1],.cells [.slice false 1 [],.fn F_q18 [.ptr H.length 0 1]],.map shI 3 [(iv 0,.sref (H.length + 10) 0 2 2 1),(iv 1,.sref (H.length + 13) 0 1 1 1)],.cells [.map (H.length + 7)],x1,.cells [iv 0,iv 1],x2,x3,.cells [iv 2],.loop [r0,r1,.ptr H.length 0 1,.ptr (H.length + 1) 0 1,.ptr (H.length + 2) 0 1,.ptr (H.length + 3) 0 1,r6,.ptr (H.length + 5) 0 1,.ptr (H.length + 6) 0 2,r9,r10,r11,r12,r13,r14,r15,r16,r17,r18,r19,r20,r21,r22,r23,r24,r25,r26,r27,r28,r29,r30,r31,r32,r33,r34,r35,r36,r37,r38,r39,r40,r41,r42,r43,r44,r45,r46,r47,r48,r49,r50,r51,r52,r53,r54,r55,r56,r57,r58,r59,r60,r61,r62,r63,r64,r65,r66] [28,29] q17.n4 q17.n5 true none,.cells [iv 0,iv 0]],true⟩):VC ⟨prog,k + 2,b⟩ F_q42 [.yield (H.length + 14),.ptr (H.length + 8) 0 1] ⟨H ++ [.cells [vA],.cells [iv 1],.cells [.slice true 0 []],.cells [iv 0],.cells [iv 0,iv 0,iv 0],.cells [.sref (H.length + 4) 0 3 3 1],.cells [.slice true 0 [],.fn F_q18 [.ptr H.length 0 1]],.map shI 3 [(iv 0,.sref (H.length + 10) 0 2 2 1),(iv 1,.sref (H.length + 13) 0 1 1 1)],.cells [.map (H.length + 7)],x1,.cells [iv 0,iv 1],x2,x3,.cells [iv 2],.loop [r0,r1,.ptr H.length 0 1,.ptr (H.length + 1) 0 1,.ptr (H.length + 2) 0 1,.ptr (H.length + 3) 0 1,r6,.ptr (H.length + 5) 0 1,.ptr (H.length + 6) 0 2,r9,r10,r11,r12,r13,r14,r15,r16,r17,r18,r19,r20,r21,r22,r23,r24,r25,r26,r27,r28,r29,r30,r31,r32,r33,r34,r35,r36,r37,r38,r39,r40,r41,r42,r43,r44,r45,r46,r47,r48,r49,r50,r51,r52,r53,r54,r55,r56,r57,r58,r59,r60,r61,r62,r63,r64,r65,r66] [28,29] q17.n4 q17.n5 true none],lk⟩ K:=by
  refine slots_1_s (k:=k + 1) (J:=fun t s=>(t=0∧∃ lk,s=⟨H ++ [.cells [vA],.cells [iv 1],.cells [.slice true 0 []],.cells [iv 0],.cells [iv 0,iv 0,iv 0],.cells [.sref (H.length + 4) 0 3 3 1],.cells [.slice true 0 [],.fn F_q18 [.ptr H.length 0 1]],.map shI 3 [(iv 0,.sref (H.length + 10) 0 2 2 1),(iv 1,.sref (H.length + 13) 0 1 1 1)],.cells [.map (H.length + 7)],x1,.cells [iv 0,iv 1],x2,x3,.cells [iv 2],.loop [r0,r1,.ptr H.length 0 1,.ptr (H.length + 1) 0 1,.ptr (H.length + 2) 0 1,.ptr (H.length + 3) 0 1,r6,.ptr (H.length + 5) 0 1,.ptr (H.length + 6) 0 2,r9,r10,r11,r12,r13,r14,r15,r16,r17,r18,r19,r20,r21,r22,r23,r24,r25,r26,r27,r28,r29,r30,r31,r32,r33,r34,r35,r36,r37,r38,r39,r40,r41,r42,r43,r44,r45,r46,r47,r48,r49,r50,r51,r52,r53,r54,r55,r56,r57,r58,r59,r60,r61,r62,r63,r64,r65,r66] [28,29] q17.n4 q17.n5 true none],lk⟩)∨(t=1∧s=⟨H ++ [.cells [vA],.cells [iv 1],.cells [.slice true 0 []],.cells [iv 0],.cells [iv 0,iv 0,iv 0],.cells [.sref (H.length + 4) 0 3 3 1],.cells [.sref (H.length + 15) 0 1 2 1,.fn F_q18 [.ptr H.length 0 1]],.map shI 3 [(iv 0,.sref (H.length + 10) 0 2 2 1),(iv 1,.sref (H.length + 13) 0 1 1 1)],.cells [.map (H.length + 7)],x1,.cells [iv 0,iv 1],x2,x3,.cells [iv 2],.loop [r0,r1,.ptr H.length 0 1,.ptr (H.length + 1) 0 1,.ptr (H.length + 2) 0 1,.ptr (H.length + 3) 0 1,r6,.ptr (H.length + 5) 0 1,.ptr (H.length + 6) 0 2,r9,r10,r11,r12,r13,r14,r15,r16,r17,r18,r19,r20,r21,r22,r23,r24,r25,r26,r27,r28,r29,r30,r31,r32,r33,r34,r35,r36,r37,r38,r39,r40,r41,r42,r43,r44,r45,r46,r47,r48,r49,r50,r51,r52,r53,r54,r55,r56,r57,r58,r59,r60,r61,r62,r63,r64,r65,r66] [28,29] q17.n4 q17.n5 true none,.cells [iv 0,iv 0]],true⟩)∨(t=2∧s=⟨H ++ [.cells [vA],.cells [iv 1],.cells [.slice true 0 []],.cells [iv 0],.cells [iv 0,iv 0,iv 1],.cells [.sref (H.length + 4) 0 3 3 1],.cells [.sref (H.length + 15) 0 1 2 1,.fn F_q18 [.ptr H.length 0 1]],.map shI 3 [(iv 0,.sref (H.length + 10) 0 2 2 1),(iv 1,.sref (H.length + 13) 0 1 1 1)],.cells [.map (H.length + 7)],x1,.cells [iv 0,iv 1],x2,x3,.cells [iv 2],.loop [r0,r1,.ptr H.length 0 1,.ptr (H.length + 1) 0 1,.ptr (H.length + 2) 0 1,.ptr (H.length + 3) 0 1,r6,.ptr (H.length + 5) 0 1,.ptr (H.length + 6) 0 2,r9,r10,r11,r12,r13,r14,r15,r16,r17,r18,r19,r20,r21,r22,r23,r24,r25,r26,r27,r28,r29,r30,r31,r32,r33,r34,r35,r36,r37,r38,r39,r40,r41,r42,r43,r44,r45,r46,r47,r48,r49,r50,r51,r52,r53,r54,r55,r56,r57,r58,r59,r60,r61,r62,r63,r64,r65,r66] [28,29] q17.n4 q17.n5 true none,.cells [iv 0,iv 0]],true⟩)∨(3≤t∧s=⟨H ++ [.cells [vA],.cells [iv 1],.cells [.slice true 0 []],.cells [iv 0],.cells [iv 2,iv 0,iv 1],.cells [.sref (H.length + 4) 0 3 3 1],.cells [.slice false 1 [],.fn F_q18 [.ptr H.length 0 1]],.map shI 3 [(iv 0,.sref (H.length + 10) 0 2 2 1),(iv 1,.sref (H.length + 13) 0 1 1 1)],.cells [.map (H.length + 7)],x1,.cells [iv 0,iv 1],x2,x3,.cells [iv 2],.loop [r0,r1,.ptr H.length 0 1,.ptr (H.length + 1) 0 1,.ptr (H.length + 2) 0 1,.ptr (H.length + 3) 0 1,r6,.ptr (H.length + 5) 0 1,.ptr (H.length + 6) 0 2,r9,r10,r11,r12,r13,r14,r15,r16,r17,r18,r19,r20,r21,r22,r23,r24,r25,r26,r27,r28,r29,r30,r31,r32,r33,r34,r35,r36,r37,r38,r39,r40,r41,r42,r43,r44,r45,r46,r47,r48,r49,r50,r51,r52,r53,r54,r55,r56,r57,r58,r59,r60,r61,r62,r63,r64,r65,r66] [28,29] q17.n4 q17.n5 true none,.cells [iv 0,iv 0]],true⟩)) (R:=fun s=>s=⟨H ++ [.cells [vA],.cells [iv 1],.cells [.slice true 0 []],.cells [iv 0],.cells [iv 2,iv 0,iv 1],.cells [.sref (H.length + 4) 0 3 3 1],.cells [.slice false 1 [],.fn F_q18 [.ptr H.length 0 1]],.map shI 3 [(iv 0,.sref (H.length + 10) 0 2 2 1),(iv 1,.sref (H.length + 13) 0 1 1 1)],.cells [.map (H.length + 7)],x1,.cells [iv 0,iv 1],x2,x3,.cells [iv 2],.loop [r0,r1,.ptr H.length 0 1,.ptr (H.length + 1) 0 1,.ptr (H.length + 2) 0 1,.ptr (H.length + 3) 0 1,r6,.ptr (H.length + 5) 0 1,.ptr (H.length + 6) 0 2,r9,r10,r11,r12,r13,r14,r15,r16,r17,r18,r19,r20,r21,r22,r23,r24,r25,r26,r27,r28,r29,r30,r31,r32,r33,r34,r35,r36,r37,r38,r39,r40,r41,r42,r43,r44,r45,r46,r47,r48,r49,r50,r51,r52,r53,r54,r55,r56,r57,r58,r59,r60,r61,r62,r63,r64,r65,r66] [28,29] q17.n4 q17.n5 true none,.cells [iv 0,iv 0]],true⟩) (by omega) ?_ (.inl ⟨rfl,_,rfl⟩) (fun s h=>by rcases h with ⟨h,_⟩ | ⟨h,_⟩ | ⟨h,_⟩ | ⟨_,h⟩ <;> first | omega | exact h) (fun s h=>by subst h; exact ⟨rfl,hK⟩)
  rintro t s ht (⟨rfl,lk',rfl⟩ | ⟨rfl,rfl⟩ | ⟨rfl,rfl⟩ | ⟨h3,rfl⟩)
  · refine ⟨.map (H.length + 7),.sref (H.length + 10) 0 2 2 1,by simp -implicitDefEqProofs only [sw0,sw1,sw2,sw3,sw4,sw5,reduceCtorEq,Nat.reduceEqDiff,Nat.reduceAdd,Nat.reduceDiv,Nat.reduceLeDiff,dw0,Int.reduceAdd,Int.reduceSub,Int.reduceMul,Int.reduceLT,Int.reduceLE,Int.reduceNeg,Int.reduceEq,Int.reduceToNat,Nat.reduceLT,Nat.reduceMul,Nat.reduceSub,Nat.reduceBEq,Nat.reduceLeDiff,xw0,eApp,rowOf,appRow,lkL,lkN,eMupd,vLook,mapSh,findE,putE,keqL,hasSh,fits,shb,Int.reduceBEq,eMksl,vSlc,boundsOf,boundOf,cleanL,Nat.reduceGT,Int.reduceGT,Int.reduceGE,Int.reduceDiv,Int.reduceTDiv,vAidx,rdc],by simp -implicitDefEqProofs only [sw0,sw1,sw2,sw3,sw4,sw5,reduceCtorEq,Nat.reduceEqDiff,Nat.reduceAdd,Nat.reduceDiv,Nat.reduceLeDiff,dw0,Int.reduceAdd,Int.reduceSub,Int.reduceMul,Int.reduceLT,Int.reduceLE,Int.reduceNeg,Int.reduceEq,Int.reduceToNat,Nat.reduceLT,Nat.reduceMul,Nat.reduceSub,Nat.reduceBEq,Nat.reduceLeDiff,xw0,eApp,rowOf,appRow,lkL,lkN,eMupd,vLook,mapSh,findE,putE,keqL,hasSh,fits,shb,Int.reduceBEq,eMksl,vSlc,boundsOf,boundOf,cleanL,Nat.reduceGT,Int.reduceGT,Int.reduceGE,Int.reduceDiv,Int.reduceTDiv,vAidx,rdc],fun b=>yA0 hk ?_⟩
    exact .inl ⟨rfl,.inr (.inl ⟨rfl,rfl⟩)⟩
  · refine ⟨.map (H.length + 7),.sref (H.length + 13) 0 1 1 1,by simp -implicitDefEqProofs only [sw0,sw1,sw2,sw3,sw4,sw5,reduceCtorEq,Nat.reduceEqDiff,Nat.reduceAdd,Nat.reduceDiv,Nat.reduceLeDiff,dw0,Int.reduceAdd,Int.reduceSub,Int.reduceMul,Int.reduceLT,Int.reduceLE,Int.reduceNeg,Int.reduceEq,Int.reduceToNat,Nat.reduceLT,Nat.reduceMul,Nat.reduceSub,Nat.reduceBEq,Nat.reduceLeDiff,xw0,eApp,rowOf,appRow,lkL,lkN,eMupd,vLook,mapSh,findE,putE,keqL,hasSh,fits,shb,Int.reduceBEq,eMksl,vSlc,boundsOf,boundOf,cleanL,Nat.reduceGT,Int.reduceGT,Int.reduceGE,Int.reduceDiv,Int.reduceTDiv,vAidx,rdc],by simp -implicitDefEqProofs only [sw0,sw1,sw2,sw3,sw4,sw5,reduceCtorEq,Nat.reduceEqDiff,Nat.reduceAdd,Nat.reduceDiv,Nat.reduceLeDiff,dw0,Int.reduceAdd,Int.reduceSub,Int.reduceMul,Int.reduceLT,Int.reduceLE,Int.reduceNeg,Int.reduceEq,Int.reduceToNat,Nat.reduceLT,Nat.reduceMul,Nat.reduceSub,Nat.reduceBEq,Nat.reduceLeDiff,xw0,eApp,rowOf,appRow,lkL,lkN,eMupd,vLook,mapSh,findE,putE,keqL,hasSh,fits,shb,Int.reduceBEq,eMksl,vSlc,boundsOf,boundOf,cleanL,Nat.reduceGT,Int.reduceGT,Int.reduceGE,Int.reduceDiv,Int.reduceTDiv,vAidx,rdc],fun b=>yA1 hk ?_⟩
    exact .inl ⟨rfl,.inr (.inr (.inl ⟨rfl,rfl⟩))⟩
  · refine ⟨.map (H.length + 7),.slice true 0 [],by simp -implicitDefEqProofs only [sw0,sw1,sw2,sw3,sw4,sw5,reduceCtorEq,Nat.reduceEqDiff,Nat.reduceAdd,Nat.reduceDiv,Nat.reduceLeDiff,dw0,Int.reduceAdd,Int.reduceSub,Int.reduceMul,Int.reduceLT,Int.reduceLE,Int.reduceNeg,Int.reduceEq,Int.reduceToNat,Nat.reduceLT,Nat.reduceMul,Nat.reduceSub,Nat.reduceBEq,Nat.reduceLeDiff,xw0,eApp,rowOf,appRow,lkL,lkN,eMupd,vLook,mapSh,findE,putE,keqL,hasSh,fits,shb,Int.reduceBEq,eMksl,vSlc,boundsOf,boundOf,cleanL,Nat.reduceGT,Int.reduceGT,Int.reduceGE,Int.reduceDiv,Int.reduceTDiv,vAidx,rdc],by simp -implicitDefEqProofs only [sw0,sw1,sw2,sw3,sw4,sw5,reduceCtorEq,Nat.reduceEqDiff,Nat.reduceAdd,Nat.reduceDiv,Nat.reduceLeDiff,dw0,Int.reduceAdd,Int.reduceSub,Int.reduceMul,Int.reduceLT,Int.reduceLE,Int.reduceNeg,Int.reduceEq,Int.reduceToNat,Nat.reduceLT,Nat.reduceMul,Nat.reduceSub,Nat.reduceBEq,Nat.reduceLeDiff,xw0,eApp,rowOf,appRow,lkL,lkN,eMupd,vLook,mapSh,findE,putE,keqL,hasSh,fits,shb,Int.reduceBEq,eMksl,vSlc,boundsOf,boundOf,cleanL,Nat.reduceGT,Int.reduceGT,Int.reduceGE,Int.reduceDiv,Int.reduceTDiv,vAidx,rdc],fun b=>yA2 hk ?_⟩
    exact .inl ⟨rfl,.inr (.inr (.inr ⟨by omega,rfl⟩))⟩
  · have e0:((t:Int) == 0)=false:=by simp; omega
    have e1:((t:Int) == 1)=false:=by simp; omega
    refine ⟨.map (H.length + 7),.slice true 0 [],by simp -implicitDefEqProofs only [sw0,sw1,sw2,sw3,sw4,sw5,reduceCtorEq,Nat.reduceEqDiff,Nat.reduceAdd,Nat.reduceDiv,Nat.reduceLeDiff,dw0,Int.reduceAdd,Int.reduceSub,Int.reduceMul,Int.reduceLT,Int.reduceLE,Int.reduceNeg,Int.reduceEq,Int.reduceToNat,Nat.reduceLT,Nat.reduceMul,Nat.reduceSub,Nat.reduceBEq,Nat.reduceLeDiff,xw0,eApp,rowOf,appRow,lkL,lkN,eMupd,vLook,mapSh,findE,putE,keqL,hasSh,fits,shb,Int.reduceBEq,eMksl,vSlc,boundsOf,boundOf,cleanL,Nat.reduceGT,Int.reduceGT,Int.reduceGE,Int.reduceDiv,Int.reduceTDiv,vAidx,rdc],by simp -implicitDefEqProofs only [sw0,sw1,sw2,sw3,sw4,sw5,reduceCtorEq,Nat.reduceEqDiff,Nat.reduceAdd,Nat.reduceDiv,Nat.reduceLeDiff,dw0,Int.reduceAdd,Int.reduceSub,Int.reduceMul,Int.reduceLT,Int.reduceLE,Int.reduceNeg,Int.reduceEq,Int.reduceToNat,Nat.reduceLT,Nat.reduceMul,Nat.reduceSub,Nat.reduceBEq,Nat.reduceLeDiff,xw0,eApp,rowOf,appRow,lkL,lkN,eMupd,vLook,mapSh,findE,putE,keqL,hasSh,fits,shb,Int.reduceBEq,eMksl,vSlc,boundsOf,boundOf,cleanL,Nat.reduceGT,Int.reduceGT,Int.reduceGE,Int.reduceDiv,Int.reduceTDiv,vAidx,rdc,e0,e1],fun b=>yA3 hk ?_⟩
    exact .inl ⟨rfl,.inr (.inr (.inr ⟨by omega,rfl⟩))⟩
theorem slotsA (hk:200≤k) (hK:K (.fn F_q42 [.ptr (H.length + 1) 0 1]) ⟨H ++ [.map shI 3 [(iv 0,.sref (H.length + 3) 0 2 2 1),(iv 1,.sref (H.length + 6) 0 1 1 1)],.cells [.map H.length],.cells [iv 0,iv 0,iv 3],.cells [iv 0,iv 1],.cells [iv 1,iv 0,iv 2],.cells [iv 2,iv 1,iv 2],.cells [iv 2]],false⟩):VC ⟨prog,k + 1,b⟩ F_q41 [vA] ⟨H,false⟩ K:=by
  apply q41.enter
  have hu:AV.under H.length (AV.fn F_q42 [AV.ptr (H.length + 1) 0 1])=false:=by simp [AV.under,underL]
  simp -implicitDefEqProofs only [q41.n0_w,sw0,sw1,sw2,sw3,sw4,sw5,reduceCtorEq,Nat.reduceEqDiff,Nat.reduceAdd,Nat.reduceDiv,Nat.reduceLeDiff,dw0,Int.reduceAdd,Int.reduceSub,Int.reduceMul,Int.reduceLT,Int.reduceLE,Int.reduceNeg,Int.reduceEq,Int.reduceToNat,Nat.reduceLT,Nat.reduceMul,Nat.reduceSub,Nat.reduceBEq,Nat.reduceLeDiff,xw0,eApp,rowOf,appRow,lkL,lkN,eMupd,vLook,mapSh,findE,putE,keqL,hasSh,fits,shb,Int.reduceBEq,eMksl,vSlc,boundsOf,boundOf,cleanL,Nat.reduceGT,Int.reduceGT,Int.reduceGE,Int.reduceDiv,Int.reduceTDiv,vAidx,rdc,slots_u1]
  rw [wl_1 (by omega)]
  simp -implicitDefEqProofs only [q41.n2_w,sw0,sw1,sw2,sw3,sw4,sw5,reduceCtorEq,Nat.reduceEqDiff,Nat.reduceAdd,Nat.reduceDiv,Nat.reduceLeDiff,dw0,Int.reduceAdd,Int.reduceSub,Int.reduceMul,Int.reduceLT,Int.reduceLE,Int.reduceNeg,Int.reduceEq,Int.reduceToNat,Nat.reduceLT,Nat.reduceMul,Nat.reduceSub,Nat.reduceBEq,Nat.reduceLeDiff,xw0,eApp,rowOf,appRow,lkL,lkN,eMupd,vLook,mapSh,findE,putE,keqL,hasSh,fits,shb,Int.reduceBEq,eMksl,vSlc,boundsOf,boundOf,cleanL,Nat.reduceGT,Int.reduceGT,Int.reduceGE,Int.reduceDiv,Int.reduceTDiv,vAidx,rdc,q41.n4_w]
  rw [wl_1 (by omega)]
  simp -implicitDefEqProofs only [q41.n2_w,sw0,sw1,sw2,sw3,sw4,sw5,reduceCtorEq,Nat.reduceEqDiff,Nat.reduceAdd,Nat.reduceDiv,Nat.reduceLeDiff,dw0,Int.reduceAdd,Int.reduceSub,Int.reduceMul,Int.reduceLT,Int.reduceLE,Int.reduceNeg,Int.reduceEq,Int.reduceToNat,Nat.reduceLT,Nat.reduceMul,Nat.reduceSub,Nat.reduceBEq,Nat.reduceLeDiff,xw0,eApp,rowOf,appRow,lkL,lkN,eMupd,vLook,mapSh,findE,putE,keqL,hasSh,fits,shb,Int.reduceBEq,eMksl,vSlc,boundsOf,boundOf,cleanL,Nat.reduceGT,Int.reduceGT,Int.reduceGE,Int.reduceDiv,Int.reduceTDiv,vAidx,rdc,q41.n4_w]
  rw [wl_1 (by omega)]
  simp -implicitDefEqProofs only [q41.n2_w,sw0,sw1,sw2,sw3,sw4,sw5,reduceCtorEq,Nat.reduceEqDiff,Nat.reduceAdd,Nat.reduceDiv,Nat.reduceLeDiff,dw0,Int.reduceAdd,Int.reduceSub,Int.reduceMul,Int.reduceLT,Int.reduceLE,Int.reduceNeg,Int.reduceEq,Int.reduceToNat,Nat.reduceLT,Nat.reduceMul,Nat.reduceSub,Nat.reduceBEq,Nat.reduceLeDiff,xw0,eApp,rowOf,appRow,lkL,lkN,eMupd,vLook,mapSh,findE,putE,keqL,hasSh,fits,shb,Int.reduceBEq,eMksl,vSlc,boundsOf,boundOf,cleanL,Nat.reduceGT,Int.reduceGT,Int.reduceGE,Int.reduceDiv,Int.reduceTDiv,vAidx,rdc,q41.n4_w]
  rw [wl_1 (by omega)]
  simp -implicitDefEqProofs only [q41.n2_w,sw0,sw1,sw2,sw3,sw4,sw5,reduceCtorEq,Nat.reduceEqDiff,Nat.reduceAdd,Nat.reduceDiv,Nat.reduceLeDiff,dw0,Int.reduceAdd,Int.reduceSub,Int.reduceMul,Int.reduceLT,Int.reduceLE,Int.reduceNeg,Int.reduceEq,Int.reduceToNat,Nat.reduceLT,Nat.reduceMul,Nat.reduceSub,Nat.reduceBEq,Nat.reduceLeDiff,xw0,eApp,rowOf,appRow,lkL,lkN,eMupd,vLook,mapSh,findE,putE,keqL,hasSh,fits,shb,Int.reduceBEq,eMksl,vSlc,boundsOf,boundOf,cleanL,Nat.reduceGT,Int.reduceGT,Int.reduceGE,Int.reduceDiv,Int.reduceTDiv,vAidx,rdc,q41.n5_w,q41.ret,hu]
  exact hK
theorem PlanA (hk:3000≤k) (hK:∀ L n,SI (H ++ L) n [2,0,1]→K (.tup [n,iv 0]) ⟨H ++ L,true⟩):VC ⟨prog,k,b⟩ F_q17 [vA,iv 1] ⟨H,lk⟩ K:=by
  obtain ⟨k,rfl⟩:∃ j,k=j + 1:=⟨k - 1,by omega⟩
  apply q17.enter
  have hjb:(decide (jA.length≤200) && jA.all jobOk)=true:=by decide
  have h11:((1:Int)≤1∧(1:Int)≤8)=True:=by simp
  have hask:=fun (H':List AObj) (K:AV→St→Prop)=>asked_s (K:=K) (k:=k) (b:=some H.length) (lk:=false) (by omega) (H:=H') vA_sl (c:=1) (by decide)
  simp -implicitDefEqProofs only [hjb,if_true,h11] at hask
  have hmk:∀ (H':List AObj),eMksl ⟨H',false⟩ 1 8 [iv 0] (iv 3) (iv 3)=some (.sref H'.length 0 3 (3 * 1) 1,⟨H' ++ [.cells [iv 0,iv 0,iv 0]],false⟩):=fun H'=>by simp [eMksl,push]
  simp -implicitDefEqProofs only [q17.n0_w,sw0,sw1,sw2,sw3,sw4,sw5,reduceCtorEq,Nat.reduceEqDiff,Nat.reduceAdd,Nat.reduceDiv,Nat.reduceLeDiff,dw0,Int.reduceAdd,Int.reduceSub,Int.reduceMul,Int.reduceLT,Int.reduceLE,Int.reduceNeg,Int.reduceEq,Int.reduceToNat,Nat.reduceLT,Nat.reduceMul,Nat.reduceSub,Nat.reduceBEq,Nat.reduceLeDiff,hask,q17.n2_w,hmk]
  obtain ⟨k1,hk1⟩:∃ j,k=j + 1:=⟨k - 1,by omega⟩
  have hsl:=fun (H':List AObj) (K:AV→St→Prop) (b:Option Nat) (hK)=>@slotsA k1 b H' K (by omega) hK
  rw [← hk1] at hsl
  refine hsl _ _ _ ?_
  simp -implicitDefEqProofs only [sw0,sw1,sw2,sw3,sw4,sw5,reduceCtorEq,Nat.reduceEqDiff,Nat.reduceAdd,Nat.reduceDiv,Nat.reduceLeDiff,dw0,Int.reduceAdd,Int.reduceSub,Int.reduceMul,Int.reduceLT,Int.reduceLE,Int.reduceNeg,Int.reduceEq,Int.reduceToNat,Nat.reduceLT,Nat.reduceMul,Nat.reduceSub,Nat.reduceBEq,Nat.reduceLeDiff,xw0,eApp,rowOf,appRow,lkL,lkN,eMupd,vLook,mapSh,findE,putE,keqL,hasSh,fits,shb,Int.reduceBEq,eMksl,vSlc,boundsOf,boundOf,cleanL,Nat.reduceGT,Int.reduceGT,Int.reduceGE,Int.reduceDiv,Int.reduceTDiv,vAidx,rdc]
  refine WC_rf (f:=F_q42) (caps:=[.ptr (H.length + 8) 0 1]) rfl ?_
  obtain ⟨k',hk'⟩:∃ j,k=j + 2:=⟨k - 2,by omega⟩
  simp -implicitDefEqProofs only [sw0,sw1,sw2,sw3,sw4,sw5,reduceCtorEq,Nat.reduceEqDiff,Nat.reduceAdd,Nat.reduceDiv,Nat.reduceLeDiff,dw0,Int.reduceAdd,Int.reduceSub,Int.reduceMul,Int.reduceLT,Int.reduceLE,Int.reduceNeg,Int.reduceEq,Int.reduceToNat,Nat.reduceLT,Nat.reduceMul,Nat.reduceSub,Nat.reduceBEq,Nat.reduceLeDiff,xw0,eApp,rowOf,appRow,lkL,lkN,eMupd,vLook,mapSh,findE,putE,keqL,hasSh,fits,shb,Int.reduceBEq,eMksl,vSlc,boundsOf,boundOf,cleanL,Nat.reduceGT,Int.reduceGT,Int.reduceGE,Int.reduceDiv,Int.reduceTDiv,vAidx,rdc]
  have hrun:=fun (K:AV→St→Prop) (b:Option Nat)=>@runA k' b H false K (by omega)
  rw [← hk'] at hrun
  refine hrun _ _ ?_
  simp -implicitDefEqProofs only [RF,sw0,sw1,sw2,sw3,sw4,sw5,reduceCtorEq,Nat.reduceEqDiff,Nat.reduceAdd,Nat.reduceDiv,Nat.reduceLeDiff,dw0,Int.reduceAdd,Int.reduceSub,Int.reduceMul,Int.reduceLT,Int.reduceLE,Int.reduceNeg,Int.reduceEq,Int.reduceToNat,Nat.reduceLT,Nat.reduceMul,Nat.reduceSub,Nat.reduceBEq,Nat.reduceLeDiff,xw0,eApp,rowOf,appRow,lkL,lkN,eMupd,vLook,mapSh,findE,putE,keqL,hasSh,fits,shb,Int.reduceBEq,eMksl,vSlc,boundsOf,boundOf,cleanL,Nat.reduceGT,Int.reduceGT,Int.reduceGE,Int.reduceDiv,Int.reduceTDiv,vAidx,rdc,q17.n18_w,q17.n20_w]
  simp -implicitDefEqProofs only [RK_r,q17.res,resultsOf,resultOf,sw0,sw1,sw2,sw3,sw4,sw5,reduceCtorEq,Nat.reduceEqDiff,Nat.reduceAdd,Nat.reduceDiv,Nat.reduceLeDiff,dw0,Int.reduceAdd,Int.reduceSub,Int.reduceMul,Int.reduceLT,Int.reduceLE,Int.reduceNeg,Int.reduceEq,Int.reduceToNat,Nat.reduceLT,Nat.reduceMul,Nat.reduceSub,Nat.reduceBEq,Nat.reduceLeDiff,xw0,eApp,rowOf,appRow,lkL,lkN,eMupd,vLook,mapSh,findE,putE,keqL,hasSh,fits,shb,Int.reduceBEq,eMksl,vSlc,boundsOf,boundOf,cleanL,Nat.reduceGT,Int.reduceGT,Int.reduceGE,Int.reduceDiv,Int.reduceTDiv,vAidx,rdc]
  refine hK _ _ ⟨Nat.one_pos,ic_len,.inr ⟨H.length + 4,0,3,[iv 2,iv 0,iv 1],rfl,by simp -implicitDefEqProofs only [sw0,sw1,sw2,sw3,sw4,sw5,reduceCtorEq,Nat.reduceEqDiff,Nat.reduceAdd,Nat.reduceDiv,Nat.reduceLeDiff,dw0,Int.reduceAdd,Int.reduceSub,Int.reduceMul,Int.reduceLT,Int.reduceLE,Int.reduceNeg,Int.reduceEq,Int.reduceToNat,Nat.reduceLT,Nat.reduceMul,Nat.reduceSub,Nat.reduceBEq,Nat.reduceLeDiff,xw0,eApp,rowOf,appRow,lkL,lkN,eMupd,vLook,mapSh,findE,putE,keqL,hasSh,fits,shb,Int.reduceBEq,eMksl,vSlc,boundsOf,boundOf,cleanL,Nat.reduceGT,Int.reduceGT,Int.reduceGE,Int.reduceDiv,Int.reduceTDiv,vAidx,rdc],rfl⟩⟩
end Go.Proofs.YtcebebhaahpoiaaDoor
end
section
namespace Go.Proofs.YtcebebhaahpoiaaDoor
open Go Go.Ai Go.W
attribute [local irreducible] VC YC WC
set_option linter.unusedSimpArgs false
set_option linter.unusedVariables false
set_option maxRecDepth 10000
variable {k:Nat} {b:Option Nat} {H:List AObj} {lk:Bool} {K:AV→St→Prop}
theorem eqs_kc {p q:Int × Int}:vEqs true (.sh (.mk true [.int .i64,.int .i64])) (.agg (kc p)) (.agg (kc q))=some (.bool (!decide (p=q))):=by
  show vEqs true (.sh (.mk true [.int .i64,.int .i64])) (ev2 p) (ev2 q)=_
  simp -implicitDefEqProofs only [vEqs,evEq,key_iv2.sh,key_iv2.keq,Bool.and_self,if_true,Option.bind_some]
theorem SamePairs_s (hk:1005≤k) {v w:AV} {xs ys:List (Int × Int)} (hs:Sl H 2 kc v xs) (ht:Sl H 2 kc w ys) (hl:xs.length≤1000):VC ⟨prog,k,b⟩ F_q49 [v,w] ⟨H,lk⟩ K=K (.bool (decide (xs=ys))) ⟨H,lk⟩:=by
  obtain ⟨k,rfl⟩:∃ j,k=j + 1:=⟨k - 1,by omega⟩
  apply VC_iff
  apply q49.enter
  simp -implicitDefEqProofs only [q49.n0_w,sw0,sw1,sw2,sw3,sw4,sw5,reduceCtorEq,Nat.reduceEqDiff,Nat.reduceAdd,Nat.reduceDiv,Nat.reduceLeDiff,hs.len,ht.len]
  split
  · rename_i hne
    have:xs ≠ ys:=fun e=>hne (by rw [e])
    simp -implicitDefEqProofs only [q49.n1_w,sw0,sw1,sw2,sw3,sw4,sw5,reduceCtorEq,Nat.reduceEqDiff,Nat.reduceAdd,Nat.reduceDiv,Nat.reduceLeDiff,q49.ret,decide_eq_false this]
  · rename_i heq
    have hlen:xs.length=ys.length:=by omega
    simp -implicitDefEqProofs only [q49.n2_w,sw0,sw1,sw2,sw3,sw4,sw5,reduceCtorEq,Nat.reduceEqDiff,Nat.reduceAdd,Nat.reduceDiv,Nat.reduceLeDiff]
    refine q49.n3_l (fun m r3 s=>∃ i:Nat,r3=iv i∧s=⟨H,false⟩∧m=xs.length - i∧i≤xs.length∧∀ j (h:j < xs.length) (h':j < ys.length),j < i→xs[j]=ys[j]) xs.length (by simp -implicitDefEqProofs only []; omega) ⟨0,rfl,rfl,by omega,by omega,fun j _ _ h=>by omega⟩ ?_
    rintro m r2 r3 r4 r5 s ⟨i,rfl,rfl,rfl,hi,hno⟩
    simp -implicitDefEqProofs only [q49.n4_w,sw0,sw1,sw2,sw3,sw4,sw5,reduceCtorEq,Nat.reduceEqDiff,Nat.reduceAdd,Nat.reduceDiv,Nat.reduceLeDiff,hs.len]
    split
    · rename_i hlt
      have hlt:i < xs.length:=by omega
      have hlt':i < ys.length:=by omega
      simp -implicitDefEqProofs only [q49.n6_w,sw0,sw1,sw2,sw3,sw4,sw5,reduceCtorEq,Nat.reduceEqDiff,Nat.reduceAdd,Nat.reduceDiv,Nat.reduceLeDiff,hs.at,ht.at,hlt,hlt',hs.lda hlt,ht.lda hlt',eqs_kc]
      split
      · rename_i hne
        have:xs ≠ ys:=fun e=>hne (by subst e; rfl)
        simp -implicitDefEqProofs only [q49.n7_w,sw0,sw1,sw2,sw3,sw4,sw5,reduceCtorEq,Nat.reduceEqDiff,Nat.reduceAdd,Nat.reduceDiv,Nat.reduceLeDiff,q49.ret,decide_eq_false this]
      · rename_i he
        simp -implicitDefEqProofs only [q49.n8_w,sw0,sw1,sw2,sw3,sw4,sw5,reduceCtorEq,Nat.reduceEqDiff,Nat.reduceAdd,Nat.reduceDiv,Nat.reduceLeDiff]
        refine q49.n3_go (m':=xs.length - (i + 1)) (by omega) ⟨i + 1,by rw [wrap64 (by omega)]; rfl,rfl,rfl,by omega,?_⟩
        intro j h h' hj
        by_cases hji:j=i
        · subst hji; simpa using he
        · exact hno j h h' (by omega)
    · rename_i hge
      have:xs=ys:=List.ext_getElem hlen fun j h h'=>hno j h h' (by omega)
      simp -implicitDefEqProofs only [q49.n9_w,sw0,sw1,sw2,sw3,sw4,sw5,reduceCtorEq,Nat.reduceEqDiff,Nat.reduceAdd,Nat.reduceDiv,Nat.reduceLeDiff,q49.ret,decide_eq_true this]
def plA:Plt:={ heat:=5,low:=0,high:=10,loads:=[4,4,4],prices:=[1,3,1],machs:=[⟨6,2,1⟩] }
abbrev csA:List AV:=[iv 5,iv 0,iv 10,.slice true 1 [[iv 4],[iv 4],[iv 4]],.slice true 1 [[iv 1],[iv 3],[iv 1]],.slice true 3 [[iv 6,iv 2,iv 1]]]
theorem plA_pv:PV H csA plA:=⟨_,_,_,rfl,Sl.lit Nat.one_pos ic_len rfl,Sl.lit Nat.one_pos ic_len rfl,Sl.lit (by omega) (fun _=>rfl) rfl⟩
theorem plA_cool:plA.cool=[.slice false 1 [[iv 1],[iv 0],[iv 1]],iv 6,iv 0]:=by rfl
theorem plA_sched:plA.sched [1,0,1]=true:=by rfl
def msA:List (Int × Int):=[(0,0),(10,0),(11,0),(1,0)]
theorem msA_ans:matchAns msA=[.slice false 2 [[iv 0,iv 3],[iv 1,iv 2]],iv 2,iv 0]:=by rfl
theorem nxA:nextAns 2 [(.slice true 1 [[iv 0],[iv 1]],[0,1])]=[.slice false 1 [[iv 1],[iv 0]],iv 0]:=by rfl
theorem awake_s (hk:16 ^ 53≤k) (hK:∀ s,K (.bool true) s):VC ⟨prog,k,b⟩ F_q2 [] ⟨H,lk⟩ K:=by
  have e53:(16:Nat) ^ 53=6582018229284824168619876730229402019930943462534319453394436096:=by decide
  have e52:(16:Nat) ^ 52=411376139330301510538742295639337626245683966408394965837152256:=by decide
  obtain ⟨k,rfl⟩:∃ j,k=j + 1:=⟨k - 1,by omega⟩
  apply q2.enter
  have hp:PV (H ++ [.cells csA]) csA plA:=plA_pv
  have hcool:=fun (K:AV→St→Prop)=>Cool_s (K:=K) (k:=k) (b:=some H.length) (lk:=false) (by omega) hp (by decide)
  rw [plA_cool] at hcool
  have hS:SI (H ++ [.cells csA]) (.slice true 1 [[iv 1],[iv 0],[iv 1]]) [1,0,1]:=Sl.lit Nat.one_pos ic_len rfl
  have hheats:=fun (K:AV→St→Prop)=>Heats_s (K:=K) (k:=k) (b:=some H.length) (lk:=false) (by omega) hp hS (by decide) (by decide)
  have e1:heatsFrom plA 0 plA.heat [1,0,1]=[3,7,5]:=by rfl
  rw [if_pos plA_sched,e1] at hheats
  simp -implicitDefEqProofs only [List.map_cons,List.map_nil,ic] at hheats
  simp -implicitDefEqProofs only [q2.n0_w,sw0,sw1,sw2,sw3,sw4,sw5,reduceCtorEq,Nat.reduceEqDiff,Nat.reduceAdd,Nat.reduceDiv,Nat.reduceLeDiff,hcool,hheats]
  refine PlanA (by omega) ?_
  intro L n hn
  simp -implicitDefEqProofs only [sw0,sw1,sw2,sw3,sw4,sw5,reduceCtorEq,Nat.reduceEqDiff,Nat.reduceAdd,Nat.reduceDiv,Nat.reduceLeDiff]
  refine PlanB (by omega) ?_
  intro L2
  simp -implicitDefEqProofs only [sw0,sw1,sw2,sw3,sw4,sw5,reduceCtorEq,Nat.reduceEqDiff,Nat.reduceAdd,Nat.reduceDiv,Nat.reduceLeDiff,CrowdB (k:=k) (by omega)]
  obtain ⟨G,hG⟩:∃ G,G=H ++ AObj.cells csA :: (L ++ L2):=⟨_,rfl⟩
  have hn':SI G n [2,0,1]:=by
    have:=hn.app (L:=L2)
    rw [hG]
    simpa using this
  rw [← hG]
  have hm:=fun (K:AV→St→Prop)=>Match_s (K:=K) (k:=k) (b:=some H.length) (lk:=true) (H:=G) (by omega) (show Sl G 2 kc (.slice true 2 [[iv 0,iv 0],[iv 10,iv 0],[iv 11,iv 0],[iv 1,iv 0]]) msA from Sl.lit (by omega) kc_len rfl) (by decide)
  rw [msA_ans] at hm
  have hx:=fun (K:AV→St→Prop)=>Next_s (K:=K) (k:=k) (b:=some H.length) (lk:=true) (H:=G) (n:=2) (by omega) (show RD G (.slice true 1 [[.slice true 1 [[iv 0],[iv 1]]]]) [(.slice true 1 [[iv 0],[iv 1]],[0,1])] from ⟨Sl.lit Nat.one_pos rc_len rfl,fun q hq=>by simp -implicitDefEqProofs only [List.mem_singleton] at hq; subst hq; exact Sl.lit Nat.one_pos ic_len rfl⟩) (by decide) (by decide)
  rw [nxA] at hx
  have hI:∀ {v w:AV} {xs:List Int},SI G v xs→SI G w xs→xs.length≤1000→∀ (K:AV→St→Prop),VC ⟨prog,k,some H.length⟩ F_q45 [v,w] ⟨G,true⟩ K=K (.bool true) ⟨G,true⟩:=fun h1 h2 h3 K=>by
    rw [r02_Ints_s (k:=k) (by omega) h1 h2 h3,decide_eq_true rfl]
  have hV:∀ (f:Bool) (xs:List Int),SI G (.slice f 1 (xs.map ic)) xs:=fun f xs=>Sl.val Nat.one_pos ic_len
  have i1:=hI (hV false [1,0,1]) (hV true [1,0,1]) (by decide)
  have i2:=hI (hV false [3,7,5]) (hV true [3,7,5]) (by decide)
  have i3:=hI hn' (hV true [2,0,1]) (by decide)
  have i4:=hI (hV false [1,0]) (hV true [1,0]) (by decide)
  have hsp:=fun (K:AV→St→Prop)=>SamePairs_s (K:=K) (k:=k) (b:=some H.length) (lk:=true) (H:=G) (v:=.slice false 2 [[iv 0,iv 3],[iv 1,iv 2]]) (w:=.slice true 2 [[iv 0,iv 3],[iv 1,iv 2]]) (xs:=[(0,3),(1,2)]) (ys:=[(0,3),(1,2)]) (by omega) (Sl.lit (by omega) kc_len rfl) (Sl.lit (by omega) kc_len rfl) (by decide)
  rw [decide_eq_true rfl] at hsp
  simp -implicitDefEqProofs only [List.map_cons,List.map_nil,ic] at i1 i2 i3 i4
  simp -implicitDefEqProofs only [sw0,sw1,sw2,sw3,sw4,sw5,reduceCtorEq,Nat.reduceEqDiff,Nat.reduceAdd,Nat.reduceDiv,Nat.reduceLeDiff,hm,hx,i1,i2,i3,i4,hsp,q2.ret,lv_t]
  exact hK _
end Go.Proofs.YtcebebhaahpoiaaDoor
end
section
namespace Go.Proofs.YtcebebhaahpoiaaDoor
open Go Go.Ai Go.W
attribute [local irreducible] VC YC WC
set_option linter.unusedSimpArgs false
set_option linter.unusedVariables false
set_option maxRecDepth 10000
variable {k:Nat} {b:Option Nat} {H:List AObj} {lk:Bool} {K:AV→St→Prop}
theorem Ints_u3 {k:Nat} {b:Option Nat} {ρ s Q}:WC ⟨prog,k,b⟩ q45.n3 ρ s Q=wLoop (WC ⟨prog,k,b⟩ q45.n4) k ρ s Q:=WC_lp
theorem Ints_nil (hk:10≤k) {f g:Bool} {y z:Nat}:VC ⟨prog,k,b⟩ F_q45 [.slice f y [],.slice g z []] ⟨H,lk⟩ K=K (.bool true) ⟨H,lk⟩:=by
  obtain ⟨k,rfl⟩:∃ j,k=j + 1:=⟨k - 1,by omega⟩
  apply VC_iff
  apply q45.enter
  simp -implicitDefEqProofs only [q45.n0_w,sw0,sw1,sw2,sw3,sw4,sw5,reduceCtorEq,Nat.reduceEqDiff,Nat.reduceAdd,Nat.reduceDiv,Nat.reduceLeDiff,dw0,Int.reduceAdd,Int.reduceSub,Int.reduceMul,Int.reduceLT,Int.reduceLE,Int.reduceNeg,Int.reduceEq,Int.reduceToNat,Nat.reduceLT,Nat.reduceMul,Nat.reduceSub,Nat.reduceBEq,Nat.reduceLeDiff,xw0,eApp,rowOf,appRow,lkL,lkN,eMupd,vLook,mapSh,findE,putE,keqL,hasSh,fits,shb,Int.reduceBEq,eMksl,vSlc,boundsOf,boundOf,cleanL,Nat.reduceGT,Int.reduceGT,Int.reduceGE,Int.reduceDiv,Int.reduceTDiv,vAidx,rdc,q45.n2_w,Ints_u3]
  rw [wl_1 (by omega)]
  simp -implicitDefEqProofs only [q45.n4_w,sw0,sw1,sw2,sw3,sw4,sw5,reduceCtorEq,Nat.reduceEqDiff,Nat.reduceAdd,Nat.reduceDiv,Nat.reduceLeDiff,dw0,Int.reduceAdd,Int.reduceSub,Int.reduceMul,Int.reduceLT,Int.reduceLE,Int.reduceNeg,Int.reduceEq,Int.reduceToNat,Nat.reduceLT,Nat.reduceMul,Nat.reduceSub,Nat.reduceBEq,Nat.reduceLeDiff,xw0,eApp,rowOf,appRow,lkL,lkN,eMupd,vLook,mapSh,findE,putE,keqL,hasSh,fits,shb,Int.reduceBEq,eMksl,vSlc,boundsOf,boundOf,cleanL,Nat.reduceGT,Int.reduceGT,Int.reduceGE,Int.reduceDiv,Int.reduceTDiv,vAidx,rdc,q45.n9_w,q45.ret]
end Go.Proofs.YtcebebhaahpoiaaDoor
end
section
namespace Go.Proofs.YtcebebhaahpoiaaDoor
open Go Go.Ai Go.W
attribute [local irreducible] VC YC WC
set_option linter.unusedVariables false
set_option maxRecDepth 100000
theorem c3:Tryd.prog.cellsOf 3=1:=by kernel_rfl
theorem wt_ints {d:Nat} {es:List (List AV)} (h:∀ l,l ∈ es→l.length=Tryd.prog.cellsOf 3∧Wt Tryd.prog (d + 1) 3 l):∃ xs:List Int,es=xs.map ic:=by
  induction es with
  | nil=>exact ⟨[],rfl⟩
  | cons e es ih =>
    obtain ⟨xs,rfl⟩:=ih fun l hl=>h l (by simp [hl])
    have h1:=(h e (by simp)).2
    unfold Wt at h1
    rw [Tryd.underlying3] at h1
    obtain ⟨n,rfl,_⟩:=h1
    exact ⟨n :: xs,rfl⟩
theorem wt_int {d:Nat} {xs:List AV} (h:Wt Tryd.prog (d + 1) 3 xs):∃ n,xs=[iv n]:=by
  unfold Wt at h
  rw [Tryd.underlying3] at h
  obtain ⟨n,rfl,_⟩:=h
  exact ⟨n,rfl⟩
theorem wt_22 {d:Nat} {xs:List AV} (h:Wt Tryd.prog (d + 2) 22 xs):∃ l:List Int,xs=[.slice false 1 (l.map ic)]:=by
  unfold Wt at h
  rw [Tryd.underlying22] at h
  obtain ⟨es,rfl,_,h2⟩:=h
  obtain ⟨l,rfl⟩:=wt_ints h2
  exact ⟨l,by rw [c3]⟩
theorem c35:Tryd.prog.cellsOf 35=3:=by kernel_rfl
theorem len3 {xs:List AV} (h:xs.length=3):∃ a b c,xs=[a,b,c]:=by
  match xs,h with
  | [a,b,c],_=>exact ⟨a,b,c,rfl⟩
theorem len6 {xs:List AV} (h:xs.length=6):∃ a b c d e f,xs=[a,b,c,d,e,f]:=by
  match xs,h with
  | [a,b,c,d,e,f],_=>exact ⟨a,b,c,d,e,f,rfl⟩
theorem wt_35 {d:Nat} {xs:List AV} (hl:xs.length=3) (h:Wt Tryd.prog (d + 2) 35 xs):∃ m:Mach,xs=mc m:=by
  unfold Wt at h
  rw [Tryd.underlying35] at h
  obtain ⟨a,b,c,rfl⟩:=len3 hl
  obtain ⟨_,hf⟩:=h
  have f0:=hf _ (.head _)
  have f1:=hf _ (.tail _ (.head _))
  have f2:=hf _ (.tail _ (.tail _ (.head _)))
  simp -implicitDefEqProofs only [c3,List.drop_zero,List.drop_succ_cons,List.take_succ_cons,List.take_zero] at f0 f1 f2
  obtain ⟨x,hx⟩:=wt_int f0
  obtain ⟨y,hy⟩:=wt_int f1
  obtain ⟨z,hz⟩:=wt_int f2
  simp -implicitDefEqProofs only [List.cons.injEq,and_true] at hx hy hz
  exact ⟨⟨x,y,z⟩,by rw [hx,hy,hz]⟩
theorem wt_machs {d:Nat} {es:List (List AV)} (h:∀ l,l ∈ es→l.length=Tryd.prog.cellsOf 35∧Wt Tryd.prog (d + 2) 35 l):∃ ms:List Mach,es=ms.map mc:=by
  induction es with
  | nil=>exact ⟨[],rfl⟩
  | cons e es ih =>
    obtain ⟨ms,rfl⟩:=ih fun l hl=>h l (by simp [hl])
    obtain ⟨h1,h2⟩:=h e (by simp)
    rw [c35] at h1
    obtain ⟨m,rfl⟩:=wt_35 h1 h2
    exact ⟨m :: ms,rfl⟩
theorem wt_23 {d:Nat} {xs:List AV} (h:Wt Tryd.prog (d + 3) 23 xs):∃ l:List Mach,xs=[.slice false 3 (l.map mc)]:=by
  unfold Wt at h
  rw [Tryd.underlying23] at h
  obtain ⟨es,rfl,_,h2⟩:=h
  obtain ⟨l,rfl⟩:=wt_machs h2
  exact ⟨l,by rw [c35]⟩
theorem c22:Tryd.prog.cellsOf 22=1:=by kernel_rfl
theorem c23:Tryd.prog.cellsOf 23=1:=by kernel_rfl
theorem c25:Tryd.prog.cellsOf 25=6:=by kernel_rfl
theorem wt_plant {d:Nat} {xs:List AV} (h:Wt Tryd.prog (d + 4) 25 xs):∃ p:Plt,∀ H,PV H xs p:=by
  unfold Wt at h
  rw [Tryd.underlying25] at h
  obtain ⟨hlen,hf⟩:=h
  rw [c25] at hlen
  obtain ⟨a,b,c,d,e,f,rfl⟩:=len6 hlen
  have f0:=hf _ (.head _)
  have f1:=hf _ (.tail _ (.head _))
  have f2:=hf _ (.tail _ (.tail _ (.head _)))
  have f3:=hf _ (.tail _ (.tail _ (.tail _ (.head _))))
  have f4:=hf _ (.tail _ (.tail _ (.tail _ (.tail _ (.head _)))))
  have f5:=hf _ (.tail _ (.tail _ (.tail _ (.tail _ (.tail _ (.head _))))))
  simp -implicitDefEqProofs only [c3,c22,c23,List.drop_zero,List.drop_succ_cons,List.take_succ_cons,List.take_zero] at f0 f1 f2 f3 f4 f5
  obtain ⟨x,hx⟩:=wt_int f0
  obtain ⟨y,hy⟩:=wt_int f1
  obtain ⟨z,hz⟩:=wt_int f2
  obtain ⟨l,hl⟩:=wt_22 f3
  obtain ⟨m,hm⟩:=wt_22 f4
  obtain ⟨n,hn⟩:=wt_23 f5
  simp -implicitDefEqProofs only [List.cons.injEq,and_true] at hx hy hz hl hm hn
  subst hx; subst hy; subst hz; subst hl; subst hm; subst hn
  exact ⟨⟨x,y,z,l,m,n⟩,fun H=>⟨_,_,_,rfl,Sl.val Nat.one_pos ic_len,Sl.val Nat.one_pos ic_len,Sl.val (by omega) (fun _=>rfl)⟩⟩
theorem agg25:isAggT Tryd.prog 25=some true:=by kernel_rfl
theorem arg_plant {x:AV} (h:Arg Tryd.prog 8 25 x):∃ cs,∃ p:Plt,x=.agg cs∧∀ H,PV H cs p:=by
  obtain ⟨h1,h2,_⟩:=h
  obtain ⟨cs,rfl⟩:=h2 agg25
  obtain ⟨p,hp⟩:=wt_plant (d:=4) h1
  exact ⟨cs,p,rfl,hp⟩
end Go.Proofs.YtcebebhaahpoiaaDoor
end
section
namespace Go.Proofs.YtcebebhaahpoiaaDoor
open Go Go.Ai Go.W
attribute [local irreducible] VC YC WC
set_option linter.unusedSimpArgs false
set_option linter.unusedVariables false
set_option maxRecDepth 10000
variable {k:Nat} {b:Option Nat} {H:List AObj} {lk:Bool} {K:AV→St→Prop}
abbrev sh3:Sh:=.mk true [.int .i64,.int .i64,.int .i64]
def optc:Option (Int × Nat)→Int
  | none=>-1
  | some q=>q.1
def lc (p:Plt) (r h:Nat) (t:Int) (o:Nat):Int:=optc (best p r h t o)
def GL (p:Plt) (l:List ((Int × Int × Int) × AV)):Prop:=∀ (r h:Nat) (t:Int) (o:Nat) v,h + r=p.loads.length→lkp l ((h:Int),t,(o:Int))=some v→v=iv (lc p r h t o)
theorem PV.set {H:List AObj} {cs:List AV} {p:Plt} (h:PV H cs p) {c:Nat} {o:AObj} (hc:∀ cs,H[c]? ≠ some (AObj.cells cs)):PV (H.set c o) cs p:=by
  obtain ⟨vl,vp,vm,e,h1,h2,h3⟩:=h.how
  exact ⟨vl,vp,vm,e,slset h1 hc,slset h2 hc,slset h3 hc⟩
theorem lc_le {p:Plt} (ho:p.Ok) {r h o:Nat} {t:Int} (hr:h + r≤p.loads.length):-1≤lc p r h t o∧lc p r h t o≤48 * 4000004000000:=by
  unfold lc
  have hh:=ho.hours
  cases hb:best p r h t o with
  | none=>simp [optc]
  | some q =>
    have:=best_le ho r h t o q.1 q.2 hr hb
    simp -implicitDefEqProofs only [optc]
    omega
theorem minF_val {val:Nat→Option Int} {n:Nat}:optc (minF val (n + 1))=match val n with
    | none=>optc (minF val n)
    | some d=>match minF val n with
      | none=>d
      | some q=>if d < q.1 then d else q.1:=by
  rw [minF]
  cases hv:val n with
  | none=>rfl
  | some d =>
    cases hm:minF val n with
    | none=>rfl
    | some q =>
      obtain ⟨c,m⟩:=q
      dsimp only
      split <;> rfl
theorem rleast_s {p:Plt} (ho:p.Ok) (hm4:p.machs.length≤4) {cm:Nat} {cs:List AV}:∀ (r:Nat) {k:Nat} {b:Option Nat} {H:List AObj} {lk:Bool} {K:AV→St→Prop} (hk:r + 2000≤k) {h o:Nat} {t:Int} {ver:Nat} {l:List ((Int × Int × Int) × AV)} (hr:h + r=p.loads.length) (hob:o < 2 ^ p.machs.length) (ht:p.low≤t∧t≤p.high)
    (hP:PV H cs p) (hM:H[cm]?=some (.map sh3 ver (encE ev3 l))) (hG:GL p l) (hK:∀ ver' l',GL p l'→K (iv (lc p r h t o)) ⟨H.set cm (.map sh3 ver' (encE ev3 l')),lk⟩),
    VC ⟨prog,k,b⟩ F_q55 [.agg cs,ev3 ((h:Int),t,(o:Int)),.map cm] ⟨H,lk⟩ K:=by
  intro r
  induction r with
  | zero=>?_
  | succ r ih=>?_
  all_goals
    intro k b H lk K hk h o t ver l hr hob ht hP hM hG hK
    obtain ⟨k,rfl⟩:∃ j,k=j + 1:=⟨k - 1,by omega⟩
    obtain ⟨vl,vp,vm,rfl,h1,h2,h3⟩:=hP.how
    apply q55.enter
    have hsame:H.set cm (.map sh3 ver (encE ev3 l))=H:=by
      obtain ⟨h1,h2⟩:=List.getElem?_eq_some_iff.1 hM
      rw [← h2,List.set_getElem_self]
  · have e:(h:Int)=p.loads.length:=by omega
    have:=hK ver l hG
    rw [hsame] at this
    simp -implicitDefEqProofs only [q55.n0_w,sw0,sw1,sw2,sw3,sw4,sw5,reduceCtorEq,Nat.reduceEqDiff,Nat.reduceAdd,Nat.reduceDiv,Nat.reduceLeDiff,h1.one,h2.one,h3.one,h1.len,eq_true e,q55.n1_w,q55.ret]
    exact this
  · have e : ¬ (h : Int)=p.loads.length:=by omega
    have hlook:=look_at key_iv3 (H:=H) (c:=cm) (l:=l) ⟨ver,hM⟩ (zero:=iv 0) (ok:=true) ((h:Int),t,(o:Int))
    have hlook2:=fun X=>look_at key_iv3 (H:=H ++ X) (c:=cm) (l:=l) ⟨ver,get_app hM⟩ (zero:=iv 0) (ok:=true) ((h:Int),t,(o:Int))
    simp -implicitDefEqProofs only [q55.n0_w,sw0,sw1,sw2,sw3,sw4,sw5,reduceCtorEq,Nat.reduceEqDiff,Nat.reduceAdd,Nat.reduceDiv,Nat.reduceLeDiff,h1.one,h2.one,h3.one,h1.len,eq_false e,q55.n2_w]
    cases hf:lkp l ((h:Int),t,(o:Int)) with
    | some v =>
      have hv:=hG (r + 1) h t o v hr hf
      subst hv
      have:=hK ver l hG
      rw [hsame] at this
      simp -implicitDefEqProofs only [hf,Option.getD_some,Option.isSome_some,if_true] at hlook2
      simp -implicitDefEqProofs only [hlook2,sw0,sw1,sw2,sw3,sw4,sw5,reduceCtorEq,Nat.reduceEqDiff,Nat.reduceAdd,Nat.reduceDiv,Nat.reduceLeDiff,q55.n3_w,q55.ret]
      exact this
    | none =>
      simp -implicitDefEqProofs only [hf,Option.getD_none,Option.isSome_none,if_true] at hlook2
      simp -implicitDefEqProofs only [hlook2,sw0,sw1,sw2,sw3,sw4,sw5,reduceCtorEq,Nat.reduceEqDiff,Nat.reduceAdd,Nat.reduceDiv,Nat.reduceLeDiff,q55.n4_w]
      obtain ⟨A,hA⟩:∃ A:List AV,A=[iv p.heat,iv p.low,iv p.high,vl,vp,vm]:=⟨_,rfl⟩
      obtain ⟨B,hB⟩:∃ B:List AV,B=[iv h,iv t,iv o]:=⟨_,rfl⟩
      have hnc:∀ cs,H[cm]? ≠ some (AObj.cells cs):=fun cs e=>by rw [hM] at e; cases e
      have hcm:cm < H.length:=(List.getElem?_eq_some_iff.1 hM).1
      have hsm:∀ o X o',(H.set cm o ++ X).set cm o'=H.set cm o' ++ X:=fun o X o'=>by
        rw [List.set_append_left _ _ (by simpa using hcm),List.set_set]
      have hgm:∀ o X,(H.set cm o ++ X)[cm]?=some o:=fun o X=>by
        rw [List.getElem?_append_left (by simpa using hcm),List.getElem?_set_self hcm]
      have hPs:∀ o X,PV (H.set cm o ++ X) [iv p.heat,iv p.low,iv p.high,vl,vp,vm] p:=fun o X=>(hP.set hnc).app
      have hrA:∀ o X,row (H.set cm o ++ .cells A :: X) H.length 6=some [iv p.heat,iv p.low,iv p.high,vl,vp,vm]:=fun o X=>by
        have:=@row_end0 (H.set cm o) (.cells A :: X) 6
        rw [List.length_set] at this
        rw [this,hA]; rfl
      have hrB:∀ u Z,row (H.set cm u ++ [.cells Z,.cells B]) (H.length + 1) 3=some [iv h,iv t,iv o]:=fun u Z=>by
        have:=@row_end (H.set cm u) [.cells Z,.cells B] 1 3
        rw [List.length_set] at this
        rw [this,hB]; rfl
      rw [← hA,← hB]
      have hpow:2 ^ p.machs.length≤16:=(Nat.pow_le_pow_right (by omega) hm4:2 ^ p.machs.length≤2 ^ 4)
      refine q55.n5_l (fun m r4 r5 s=>∃ (n:Nat) (l1:List ((Int × Int × Int) × AV)) (ver1:Nat),r4=iv (optc (minF (bval p r h t o) n))∧r5=iv n∧s=⟨H.set cm (.map sh3 ver1 (encE ev3 l1)) ++ [.cells A,.cells B],false⟩∧m=2 ^ p.machs.length - n∧n≤2 ^ p.machs.length∧GL p l1) (2 ^ p.machs.length) (by simp -implicitDefEqProofs only []; omega)
        ⟨0,l,ver,rfl,rfl,by rw [hsame],by omega,by omega,hG⟩ ?_
      rintro m r4 r5 r6 r7 r8 r9 s ⟨n,l1,ver1,rfl,rfl,rfl,rfl,hn,hG1⟩
      have hpow:2 ^ p.machs.length≤16:=(Nat.pow_le_pow_right (by omega) hm4:2 ^ p.machs.length≤2 ^ 4)
      have hll:=ho.hours
      have hlw:=ho.low
      have hhg:=ho.high
      have hall:=fun u X (K:AV→St→Prop)=>r12_all_s (K:=K) (k:=k) (b:=some H.length) (lk:=false) (by omega) (hPs u X) (by omega)
      simp -implicitDefEqProofs only [q55.n6_w,sw0,sw1,sw2,sw3,sw4,sw5,reduceCtorEq,Nat.reduceEqDiff,Nat.reduceAdd,Nat.reduceDiv,Nat.reduceLeDiff,hrA,hall]
      split
      · rename_i hlt
        have hlt:n < 2 ^ p.machs.length:=by omega
        have hlt62:n < 2 ^ 62:=by omega
        have hbeh:=fun u X (K:AV→St→Prop)=>r12_behind_s (K:=K) (k:=k) (b:=some H.length) (lk:=false) (by omega) (hPs u X) ho (show h < p.loads.length by omega) hlt62 (show -100000000≤t∧t≤100000000 by omega)
        simp -implicitDefEqProofs only [q55.n8_w,sw0,sw1,sw2,sw3,sw4,sw5,reduceCtorEq,Nat.reduceEqDiff,Nat.reduceAdd,Nat.reduceDiv,Nat.reduceLeDiff,hrA,hrB,hbeh]
        have hmv:=minF_val (val:=bval p r h t o) (n:=n)
        by_cases c1:p.high < p.heatBy h t n
        · have hbv:bval p r h t o n=none:=by unfold bval; rw [if_neg (by omega)]
          rw [hbv] at hmv
          simp -implicitDefEqProofs only [eq_true c1,sw0,sw1,sw2,sw3,sw4,sw5,reduceCtorEq,Nat.reduceEqDiff,Nat.reduceAdd,Nat.reduceDiv,Nat.reduceLeDiff,q55.n14_w]
          rw [wrap64 (by omega)]
          exact q55.n5_go (m':=2 ^ p.machs.length - (n + 1)) (by omega) ⟨n + 1,l1,ver1,by rw [hmv],rfl,rfl,rfl,by omega,hG1⟩
        · have hheat:p.low≤p.heatBy h t n∧p.heatBy h t n≤p.high:=⟨by unfold Plt.heatBy; omega,by omega⟩
          simp -implicitDefEqProofs only [eq_false c1,sw0,sw1,sw2,sw3,sw4,sw5,reduceCtorEq,Nat.reduceEqDiff,Nat.reduceAdd,Nat.reduceDiv,Nat.reduceLeDiff,q55.n10_w,hrA,hrB]
          rw [wrap64 (by omega),show (h:Int) + 1=((h + 1:Nat):Int) from rfl]
          refine ih (k:=k) (by omega) (h:=h + 1) (o:=n) (t:=p.heatBy h t n) (by omega) hlt hheat (hPs _ _) (hgm _ _) hG1 ?_
          intro ver2 l2 hG2
          rw [hsm]
          have hbv:bval p r h t o n=(best p r (h + 1) (p.heatBy h t n) n).map (fun q=>q.1 + p.costBy h o n):=by unfold bval; rw [if_pos hheat.2]
          have hlc:=lc_le ho (r:=r) (h:=h + 1) (o:=n) (t:=p.heatBy h t n) (by omega)
          by_cases c2:lc p r (h + 1) (p.heatBy h t n) n < 0
          · have hbn:best p r (h + 1) (p.heatBy h t n) n=none:=by
              cases hb:best p r (h + 1) (p.heatBy h t n) n with
              | none=>rfl
              | some q =>
                have:=best_le ho r (h + 1) (p.heatBy h t n) n q.1 q.2 (by omega) hb
                unfold lc at c2
                rw [hb] at c2
                simp -implicitDefEqProofs only [optc] at c2
                omega
            rw [hbv,hbn] at hmv
            simp -implicitDefEqProofs only [eq_true c2,sw0,sw1,sw2,sw3,sw4,sw5,reduceCtorEq,Nat.reduceEqDiff,Nat.reduceAdd,Nat.reduceDiv,Nat.reduceLeDiff,q55.n14_w]
            rw [wrap64 (by omega)]
            exact q55.n5_go (m':=2 ^ p.machs.length - (n + 1)) (by omega) ⟨n + 1,l2,ver2,by rw [hmv]; rfl,rfl,rfl,rfl,by omega,hG2⟩
          · obtain ⟨q,hbq⟩:∃ q,best p r (h + 1) (p.heatBy h t n) n=some q:=by
              cases hb:best p r (h + 1) (p.heatBy h t n) n with
              | none=>unfold lc at c2; rw [hb] at c2; simp -implicitDefEqProofs only [optc] at c2; omega
              | some q=>exact ⟨q,rfl⟩
            have hlq:lc p r (h + 1) (p.heatBy h t n) n=q.1:=by unfold lc; rw [hbq]; rfl
            rw [hbv,hbq] at hmv
            simp -implicitDefEqProofs only [Option.map_some] at hmv
            have hcst:=fun u X (K:AV→St→Prop)=>r12_costs_s (K:=K) (k:=k) (b:=some H.length) (lk:=false) (by omega) (hPs u X) ho (show h < p.loads.length by omega) hlt62 (show o < 2 ^ 62 by omega)
            have hcl:=costBy_le ho (show h < p.loads.length by omega) o n
            rw [hlq] at c2 hlc
            simp -implicitDefEqProofs only [hlq,eq_false c2,sw0,sw1,sw2,sw3,sw4,sw5,reduceCtorEq,Nat.reduceEqDiff,Nat.reduceAdd,Nat.reduceDiv,Nat.reduceLeDiff,q55.n12_w,hrA,hrB,hcst]
            rw [wrap64 (by omega)]
            have hob:optc (minF (bval p r h t o) n) < 0↔minF (bval p r h t o) n=none:=by
              cases hm:minF (bval p r h t o) n with
              | none=>simp [optc]
              | some z =>
                obtain ⟨_,hv,_,_⟩:=minF_some hm
                unfold bval at hv
                split at hv
                · obtain ⟨w,hw,hc⟩:=Option.map_eq_some_iff.1 hv
                  have h1:=best_le ho r (h + 1) _ _ w.1 w.2 (by omega) hw
                  have h2:=costBy_le ho (show h < p.loads.length by omega) o z.2
                  simp -implicitDefEqProofs only [optc]
                  constructor
                  · intro; omega
                  · intro e; cases e
                · cases hv
            cases hm:minF (bval p r h t o) n with
            | none =>
              have c3:(-1:Int) < 0:=by omega
              rw [hm] at hmv
              simp -implicitDefEqProofs only [optc,eq_true c3,sw0,sw1,sw2,sw3,sw4,sw5,reduceCtorEq,Nat.reduceEqDiff,Nat.reduceAdd,Nat.reduceDiv,Nat.reduceLeDiff,q55.n13_w,q55.n14_w]
              rw [wrap64 (by omega)]
              exact q55.n5_go (m':=2 ^ p.machs.length - (n + 1)) (by omega) ⟨n + 1,l2,ver2,congrArg iv hmv.symm,rfl,rfl,rfl,by omega,hG2⟩
            | some z =>
              have c3:¬ z.1 < 0:=by
                intro hz
                have:=hob.1 (by rw [hm]; exact hz)
                rw [hm] at this
                cases this
              rw [hm] at hmv
              by_cases c4:q.1 + p.costBy h o n < z.1
              · simp -implicitDefEqProofs only [if_pos c4] at hmv
                simp -implicitDefEqProofs only [optc,eq_false c3,eq_true c4,sw0,sw1,sw2,sw3,sw4,sw5,reduceCtorEq,Nat.reduceEqDiff,Nat.reduceAdd,Nat.reduceDiv,Nat.reduceLeDiff,q55.n13_w,q55.n14_w]
                rw [wrap64 (by omega)]
                exact q55.n5_go (m':=2 ^ p.machs.length - (n + 1)) (by omega) ⟨n + 1,l2,ver2,congrArg iv hmv.symm,rfl,rfl,rfl,by omega,hG2⟩
              · simp -implicitDefEqProofs only [if_neg c4] at hmv
                simp -implicitDefEqProofs only [optc,eq_false c3,eq_false c4,sw0,sw1,sw2,sw3,sw4,sw5,reduceCtorEq,Nat.reduceEqDiff,Nat.reduceAdd,Nat.reduceDiv,Nat.reduceLeDiff,q55.n13_w,q55.n14_w]
                rw [wrap64 (by omega)]
                exact q55.n5_go (m':=2 ^ p.machs.length - (n + 1)) (by omega) ⟨n + 1,l2,ver2,congrArg iv hmv.symm,rfl,rfl,rfl,by omega,hG2⟩
      · rename_i hge
        have hnN:n=2 ^ p.machs.length:=by omega
        have hval:optc (minF (bval p r h t o) n)=lc p (r + 1) h t o:=by rw [hnN,← best_succ]; rfl
        rw [hval]
        have hupd:=upd_at key_iv3 (H:=H.set cm (.map sh3 ver1 (encE ev3 l1)) ++ [.cells A,.cells B]) (c:=cm) (ver:=ver1) (l:=l1) (hgm _ _) (base:=some H.length) (lk:=false) ((h:Int),t,(o:Int)) (v:=iv (lc p (r + 1) h t o)) rfl
        rw [hsm] at hupd
        simp -implicitDefEqProofs only [q55.n15_w,sw0,sw1,sw2,sw3,sw4,sw5,reduceCtorEq,Nat.reduceEqDiff,Nat.reduceAdd,Nat.reduceDiv,Nat.reduceLeDiff,hrB,hupd,q55.ret]
        rw [List.take_left' (by simp)]
        refine hK (ver1 + 1) (ins l1 ((h:Int),t,(o:Int)) (iv (lc p (r + 1) h t o))) ?_
        intro r' h' t' o' v hr' hl'
        rw [lkp_ins] at hl'
        split at hl'
        · rename_i e
          simp -implicitDefEqProofs only [Prod.mk.injEq] at e
          obtain ⟨e1,e2,e3⟩:=e
          have e1':h'=h:=by omega
          have e3':o'=o:=by omega
          have e4:r'=r + 1:=by omega
          subst e1' e2 e3' e4
          simpa using hl'.symm
        · exact hG1 r' h' t' o' v hr' hl'
end Go.Proofs.YtcebebhaahpoiaaDoor
end
section
namespace Go.Proofs.YtcebebhaahpoiaaDoor
open Go Go.Ai Go.W
attribute [local irreducible] VC YC WC
set_option linter.unusedSimpArgs false
set_option linter.unusedVariables false
set_option maxRecDepth 10000
variable {k:Nat} {b:Option Nat} {H:List AObj} {lk:Bool} {K:AV→St→Prop}
def Plt.rcool (p:Plt):List AV :=
  if p.ok then match best p p.loads.length 0 p.heat 0 with
    | none=>[.slice true 0 [],iv 0,iv 7]
    | some (c,_)=>[.slice false 1 ((plan p p.loads.length 0 p.heat 0).map ic),iv c,iv 0]
  else [.slice true 0 [],iv 0,iv 2]
theorem r12_Cool_s (hk:5000≤k) {cs:List AV} {p:Plt} (hp:PV H cs p) (hl:p.loads.length≤1000∧p.prices.length≤1000∧p.machs.length≤60) :
    VC ⟨prog,k,b⟩ F_q47 [.agg cs] ⟨H,lk⟩ K=K (.tup p.rcool) ⟨H,lk⟩:=by
  obtain ⟨k,rfl⟩:∃ j,k=j + 1:=⟨k - 1,by omega⟩
  have hp':=hp
  obtain ⟨vl,vp,vm,rfl,h1,h2,h3⟩:=hp'.how
  apply VC_iff
  apply q47.enter
  obtain ⟨A,hA⟩:∃ A:List AV,A=[iv p.heat,iv p.low,iv p.high,vl,vp,vm]:=⟨_,rfl⟩
  have hPs:∀ X,PV (H ++ X) [iv p.heat,iv p.low,iv p.high,vl,vp,vm] p:=fun X=>hp.app
  simp -implicitDefEqProofs only [q47.n0_w,sw0,sw1,sw2,sw3,sw4,sw5,reduceCtorEq,Nat.reduceEqDiff,Nat.reduceAdd,Nat.reduceDiv,Nat.reduceLeDiff,h1.one,h2.one,h3.one,r12_CheckPlant_s (k:=k) (by omega) (hPs [.cells [iv p.heat,iv p.low,iv p.high,vl,vp,vm]]) (by omega)]
  cases hok:p.ok
  · simp -implicitDefEqProofs only [sw0,sw1,sw2,sw3,sw4,sw5,reduceCtorEq,Nat.reduceEqDiff,Nat.reduceAdd,Nat.reduceDiv,Nat.reduceLeDiff,q47.n1_w,q47.ret,Plt.rcool,hok]
  have ho:=Plt.ok_Ok hok
  have hhrs:=ho.hours
  have hlow:=ho.low
  have hheat:=ho.heat
  have hhigh:=ho.high
  have hm4:=ho.few
  have hpow:2 ^ p.machs.length≤16:=(Nat.pow_le_pow_right (by omega) hm4:2 ^ p.machs.length≤2 ^ 4)
  have hpos:0 < 2 ^ p.machs.length:=Nat.two_pow_pos _
  simp -implicitDefEqProofs only [sw0,sw1,sw2,sw3,sw4,sw5,reduceCtorEq,Nat.reduceEqDiff,Nat.reduceAdd,Nat.reduceDiv,Nat.reduceLeDiff,q47.n2_w]
  have hGL0:GL p []:=fun r h t o v _ hl=>by cases hl
  refine rleast_s ho hm4 p.loads.length (k:=k) (by omega) (h:=0) (o:=0) (t:=p.heat) (ver:=0) (l:=[]) (by omega) hpos (by omega) (hPs _) (by simp -implicitDefEqProofs only [sw0,sw1,sw2,sw3,sw4,sw5,reduceCtorEq,Nat.reduceEqDiff,Nat.reduceAdd,Nat.reduceDiv,Nat.reduceLeDiff]; rfl) hGL0 ?_
  intro ver l hG
  cases hb:best p p.loads.length 0 p.heat 0 with
  | none =>
    have c0:(-1:Int) < 0:=by omega
    have hlc:lc p p.loads.length 0 p.heat 0=-1:=by unfold lc; rw [hb]; rfl
    simp -implicitDefEqProofs only [hlc,sw0,sw1,sw2,sw3,sw4,sw5,reduceCtorEq,Nat.reduceEqDiff,Nat.reduceAdd,Nat.reduceDiv,Nat.reduceLeDiff,eq_true c0,q47.n3_w,q47.ret,Plt.rcool,hok,hb]
  | some q =>
    obtain ⟨cost,m0⟩:=q
    have hcb:=best_le ho _ _ _ _ _ _ (by omega) hb
    have c0:¬ cost < 0:=by omega
    have hlc:lc p p.loads.length 0 p.heat 0=cost:=by unfold lc; rw [hb]; rfl
    simp -implicitDefEqProofs only [hlc,sw0,sw1,sw2,sw3,sw4,sw5,reduceCtorEq,Nat.reduceEqDiff,Nat.reduceAdd,Nat.reduceDiv,Nat.reduceLeDiff,eq_false c0,q47.n4_w]
    refine q47.n5_l (fun m r4 r5 s=>∃ (h o:Nat) (t left:Int) (m1:Nat) (xs:List Int) (ver:Nat) (l:List ((Int × Int × Int) × AV)) (Z:List AObj),r4=.sref (H.length + 3) 0 xs.length (xs.length * 1) 1∧r5=iv left ∧
        s=⟨H ++ (.cells [iv p.heat,iv p.low,iv p.high,vl,vp,vm] :: .map sh3 ver (encE ev3 l) :: .cells [iv h,iv t,iv o] :: .cells (xs.map ic).flatten :: Z),false⟩∧m=p.loads.length - h∧h≤p.loads.length∧xs.length=h∧o < 2 ^ p.machs.length∧(p.low≤t∧t≤p.high)∧GL p l ∧
        best p (p.loads.length - h) h t o=some (left,m1)∧xs ++ plan p (p.loads.length - h) h t o=plan p p.loads.length 0 p.heat 0) p.loads.length (by simp -implicitDefEqProofs only []; omega)
      ⟨0,0,p.heat,cost,m0,[],ver,l,[],rfl,rfl,rfl,by omega,by omega,rfl,hpos,by omega,hG,hb,rfl⟩ ?_
    rintro m r4 r5 r6 r10 r11 r12 r13 r14 r15 r16 r17 r18 r19 r20 r21 r22 s ⟨h,o,t,left,m1,xs,ver,l,Z,rfl,rfl,rfl,rfl,hh,hxl,hob,ht,hG,hbest,hplan⟩
    simp -implicitDefEqProofs only [q47.n6_w,sw0,sw1,sw2,sw3,sw4,sw5,reduceCtorEq,Nat.reduceEqDiff,Nat.reduceAdd,Nat.reduceDiv,Nat.reduceLeDiff,h1.len]
    split
    · rename_i hlt
      have hlt:h < p.loads.length:=by omega
      obtain ⟨r,hr⟩:∃ r,p.loads.length - h=r + 1:=⟨p.loads.length - h - 1,by omega⟩
      have hr':p.loads.length - (h + 1)=r:=by omega
      rw [hr,best_succ] at hbest
      obtain ⟨hm1,hm2,hm3,hm5⟩:=minF_some hbest
      simp -implicitDefEqProofs only [q47.n8_w,sw0,sw1,sw2,sw3,sw4,sw5,reduceCtorEq,Nat.reduceEqDiff,Nat.reduceAdd,Nat.reduceDiv,Nat.reduceLeDiff]
      refine q47.n9_l (fun m r4 r5 r6 s=>∃ (n:Nat) (ver:Nat) (l:List ((Int × Int × Int) × AV)) (Z:List AObj),r4=.sref (H.length + 3) 0 xs.length (xs.length * 1) 1∧r5=iv left∧r6=iv n ∧
        s=⟨H ++ (.cells [iv p.heat,iv p.low,iv p.high,vl,vp,vm] :: .map sh3 ver (encE ev3 l) :: .cells [iv h,iv t,iv o] :: .cells (xs.map ic).flatten :: Z),false⟩∧m=2 ^ p.machs.length - n∧n≤m1∧GL p l) (2 ^ p.machs.length) (by simp -implicitDefEqProofs only []; omega)
        ⟨0,ver,l,Z,rfl,rfl,rfl,rfl,by omega,by omega,hG⟩ ?_
      clear hG
      rintro m r4 r5 r6 r10 r11 r12 r13 r14 r15 r16 r17 r18 r19 r20 r21 r22 s ⟨n,ver,l,Z,rfl,rfl,rfl,rfl,rfl,hn,hG⟩
      have hlt2:(n:Int) < (2 ^ p.machs.length:Nat):=by omega
      have hn62:n < 2 ^ 62:=by omega
      have hall:=fun X (K:AV→St→Prop)=>r12_all_s (K:=K) (k:=k) (b:=some H.length) (lk:=false) (by omega) (hPs X) (by omega)
      have hbeh:=fun X (K:AV→St→Prop)=>r12_behind_s (K:=K) (k:=k) (b:=some H.length) (lk:=false) (by omega) (hPs X) ho (show h < p.loads.length by omega) hn62 (show -100000000≤t∧t≤100000000 by omega)
      have hcst:=fun X (K:AV→St→Prop)=>r12_costs_s (K:=K) (k:=k) (b:=some H.length) (lk:=false) (by omega) (hPs X) ho (show h < p.loads.length by omega) hn62 (show o < 2 ^ 62 by omega)
      have hcl:=costBy_le ho (show h < p.loads.length by omega) o n
      simp -implicitDefEqProofs only [q47.n10_w,sw0,sw1,sw2,sw3,sw4,sw5,reduceCtorEq,Nat.reduceEqDiff,Nat.reduceAdd,Nat.reduceDiv,Nat.reduceLeDiff,hall,eq_true hlt2,q47.n12_w,hbeh]
      rw [wrap64 (n:=(h:Int) + 1) (by omega),show (h:Int) + 1=((h + 1:Nat):Int) from rfl]
      have hbv:bval p r h t o n=if p.heatBy h t n≤p.high then (best p r (h + 1) (p.heatBy h t n) n).map (fun q=>q.1 + p.costBy h o n) else none:=rfl
      have hne:∀ X:List AObj,∃ Y,Y=Z ++ X:=fun X=>⟨_,rfl⟩
      by_cases c1:p.high < p.heatBy h t n
      · have hnm:n ≠ m1:=by
          rintro rfl
          rw [hm2,if_neg (by omega)] at hbv
          cases hbv
        simp -implicitDefEqProofs only [eq_true c1,sw0,sw1,sw2,sw3,sw4,sw5,reduceCtorEq,Nat.reduceEqDiff,Nat.reduceAdd,Nat.reduceDiv,Nat.reduceLeDiff,q47.n16_w]
        rw [wrap64 (n:=(n:Int) + 1) (by omega)]
        exact q47.n9_go (m':=2 ^ p.machs.length - (n + 1)) (by omega) ⟨n + 1,ver,l,_,rfl,rfl,rfl,rfl,rfl,by omega,hG⟩
      · have hht : p.low≤p.heatBy h t n∧p.heatBy h t n≤p.high:=⟨by unfold Plt.heatBy; omega,by omega⟩
        rw [if_pos hht.2] at hbv
        have hlc:=lc_le ho (r:=r) (h:=h + 1) (o:=n) (t:=p.heatBy h t n) (by omega)
        simp -implicitDefEqProofs only [eq_false c1,sw0,sw1,sw2,sw3,sw4,sw5,reduceCtorEq,Nat.reduceEqDiff,Nat.reduceAdd,Nat.reduceDiv,Nat.reduceLeDiff,q47.n14_w]
        refine rleast_s ho hm4 r (k:=k) (by omega) (h:=h + 1) (o:=n) (t:=p.heatBy h t n) (ver:=ver) (l:=l) (by omega) (by omega) hht (hPs _) (by simp -implicitDefEqProofs only [sw0,sw1,sw2,sw3,sw4,sw5,reduceCtorEq,Nat.reduceEqDiff,Nat.reduceAdd,Nat.reduceDiv,Nat.reduceLeDiff]) hG ?_
        intro ver2 l2 hG2
        simp -implicitDefEqProofs only [sw0,sw1,sw2,sw3,sw4,sw5,reduceCtorEq,Nat.reduceEqDiff,Nat.reduceAdd,Nat.reduceDiv,Nat.reduceLeDiff,hcst]
        by_cases c2:lc p r (h + 1) (p.heatBy h t n) n < 0
        · have c2':¬ 0≤lc p r (h + 1) (p.heatBy h t n) n:=by omega
          have hnm:n ≠ m1:=by
            rintro rfl
            rw [hm2] at hbv
            cases hb2:best p r (h + 1) (p.heatBy h t n) n with
            | none=>rw [hb2] at hbv; cases hbv
            | some q =>
              have:=best_le ho r (h + 1) (p.heatBy h t n) n q.1 q.2 (by omega) hb2
              unfold lc at c2
              rw [hb2] at c2
              simp -implicitDefEqProofs only [optc] at c2
              omega
          simp -implicitDefEqProofs only [eq_false c2',sw0,sw1,sw2,sw3,sw4,sw5,reduceCtorEq,Nat.reduceEqDiff,Nat.reduceAdd,Nat.reduceDiv,Nat.reduceLeDiff,q47.n16_w]
          rw [wrap64 (n:=(n:Int) + 1) (by omega)]
          exact q47.n9_go (m':=2 ^ p.machs.length - (n + 1)) (by omega) ⟨n + 1,ver2,l2,_,rfl,rfl,rfl,rfl,rfl,by omega,hG2⟩
        · have c2':0≤lc p r (h + 1) (p.heatBy h t n) n:=by omega
          obtain ⟨q,hbq⟩:∃ q,best p r (h + 1) (p.heatBy h t n) n=some q:=by
            cases hb2:best p r (h + 1) (p.heatBy h t n) n with
            | none=>unfold lc at c2; rw [hb2] at c2; simp -implicitDefEqProofs only [optc] at c2; omega
            | some q=>exact ⟨q,rfl⟩
          have hlq:lc p r (h + 1) (p.heatBy h t n) n=q.1:=by unfold lc; rw [hbq]; rfl
          rw [hbq] at hbv
          simp -implicitDefEqProofs only [Option.map_some] at hbv
          rw [hlq] at c2' hlc
          rw [hlq]
          simp -implicitDefEqProofs only [eq_true c2',sw0,sw1,sw2,sw3,sw4,sw5,reduceCtorEq,Nat.reduceEqDiff,Nat.reduceAdd,Nat.reduceDiv,Nat.reduceLeDiff]
          rw [wrap64 (n:=q.1 + p.costBy h o n) (by omega)]
          by_cases c3:q.1 + p.costBy h o n=left
          · have hnm:n=m1:=by
              rcases Nat.lt_or_ge n m1 with h6 | h6
              · have:=hm5 n h6 _ hbv
                omega
              · omega
            subst hnm
            simp -implicitDefEqProofs only [eq_true c3,sw0,sw1,sw2,sw3,sw4,sw5,reduceCtorEq,Nat.reduceEqDiff,Nat.reduceAdd,Nat.reduceDiv,Nat.reduceLeDiff,q47.n15_w]
            have happ:=app_own (base:=some H.length) (lk:=false) (fl:=true) (bytes:=8) (xs:=xs) (x:=(n:Int)) (H:=H ++ (.cells [iv p.heat,iv p.low,iv p.high,vl,vp,vm] :: .map sh3 ver2 (encE ev3 l2) :: .cells [iv h,iv t,iv o] :: .cells (xs.map ic).flatten :: (Z ++ [.cells [iv ((h + 1:Nat):Int),iv (p.heatBy h t n),iv n]]))) (c:=H.length + 3) Nat.one_pos ic_len (ic_one _) (ic_clean _) rfl (by simp -implicitDefEqProofs only [sw0,sw1,sw2,sw3,sw4,sw5,reduceCtorEq,Nat.reduceEqDiff,Nat.reduceAdd,Nat.reduceDiv,Nat.reduceLeDiff,row_hd,ic_flat,Nat.mul_one]) (by omega)
            simp -implicitDefEqProofs only [ic] at happ
            simp -implicitDefEqProofs only [sw0,sw1,sw2,sw3,sw4,sw5,reduceCtorEq,Nat.reduceEqDiff,Nat.reduceAdd,Nat.reduceDiv,Nat.reduceLeDiff,happ]
            refine q47.n5_go (m':=p.loads.length - (h + 1)) (by omega) ⟨h + 1,n,p.heatBy h t n,q.1,q.2,xs ++ [(n:Int)],ver2,l2,_,by simp,rfl,rfl,rfl,by omega,by simp [hxl],by omega,hht,hG2,?_,?_⟩
            · rw [hr',hbq]
            · rw [← hplan,hr,hr',plan,best_succ,hbest]
              simp
          · have hnm:n ≠ m1:=by
              rintro rfl
              rw [hm2] at hbv
              simp -implicitDefEqProofs only [Option.some.injEq] at hbv
              omega
            simp -implicitDefEqProofs only [eq_false c3,sw0,sw1,sw2,sw3,sw4,sw5,reduceCtorEq,Nat.reduceEqDiff,Nat.reduceAdd,Nat.reduceDiv,Nat.reduceLeDiff,q47.n16_w]
            rw [wrap64 (n:=(n:Int) + 1) (by omega)]
            exact q47.n9_go (m':=2 ^ p.machs.length - (n + 1)) (by omega) ⟨n + 1,ver2,l2,_,rfl,rfl,rfl,rfl,rfl,by omega,hG2⟩
    · rename_i hge
      have hie:h=p.loads.length:=by omega
      subst hie
      rw [Nat.sub_self] at hplan
      simp -implicitDefEqProofs only [plan,List.append_nil] at hplan
      have hfz:=fz_own (m:=H.length) (f:=ic) (xs:=xs) (c:=H.length + 3) (H:=H ++ (.cells [iv p.heat,iv p.low,iv p.high,vl,vp,vm] :: .map sh3 ver (encE ev3 l) :: .cells [iv p.loads.length,iv t,iv o] :: .cells (xs.map ic).flatten :: Z)) Nat.one_pos ic_len ic_clean rfl (by simp -implicitDefEqProofs only [sw0,sw1,sw2,sw3,sw4,sw5,reduceCtorEq,Nat.reduceEqDiff,Nat.reduceAdd,Nat.reduceDiv,Nat.reduceLeDiff,row_hd,ic_flat,Nat.mul_one]) (by omega)
      simp -implicitDefEqProofs only [q47.n17_w,sw0,sw1,sw2,sw3,sw4,sw5,reduceCtorEq,Nat.reduceEqDiff,Nat.reduceAdd,Nat.reduceDiv,Nat.reduceLeDiff,q47.ret,Plt.rcool,hok,hb,hfz]
      rw [hplan]
end Go.Proofs.YtcebebhaahpoiaaDoor
end
section
namespace Go.Proofs.YtcebebhaahpoiaaDoor
open Go Go.Ai Go.W
attribute [local irreducible] VC YC WC
set_option linter.unusedSimpArgs false
set_option linter.unusedVariables false
set_option maxRecDepth 10000
variable {k:Nat} {b:Option Nat} {H:List AObj} {lk:Bool} {K:AV→St→Prop}
theorem great_s (hk:10≤k) {cs:List AV} {p:Plt} (hp:PV H cs p) (hK:∀ t,(t=false→p.loads.length≤1000∧p.prices.length≤1000∧p.machs.length≤60)→K (.bool t) ⟨H,lk⟩):VC ⟨prog,k,b⟩ F_q3 [.agg cs] ⟨H,lk⟩ K:=by
  obtain ⟨k,rfl⟩:∃ j,k=j + 1:=⟨k - 1,by omega⟩
  have hp':=hp
  obtain ⟨vl,vp,vm,rfl,h1,h2,h3⟩:=hp'.how
  apply q3.enter
  have d1:(¬ (12:Int) < p.loads.length∧(p.loads.length:Int)≤48∧¬ (60:Int) < p.loads.length)∨((12:Int) < p.loads.length∧(p.loads.length:Int)≤48∧¬ (60:Int) < p.loads.length)∨((12:Int) < p.loads.length∧¬ (p.loads.length:Int)≤48∧¬ (60:Int) < p.loads.length)∨((12:Int) < p.loads.length∧¬ (p.loads.length:Int)≤48∧(60:Int) < p.loads.length):=by omega
  have d2:(¬ (3:Int) < p.machs.length∧(p.machs.length:Int)≤4∧¬ (6:Int) < p.machs.length)∨((3:Int) < p.machs.length∧(p.machs.length:Int)≤4∧¬ (6:Int) < p.machs.length)∨((3:Int) < p.machs.length∧¬ (p.machs.length:Int)≤4∧¬ (6:Int) < p.machs.length)∨((3:Int) < p.machs.length∧¬ (p.machs.length:Int)≤4∧(6:Int) < p.machs.length):=by omega
  rcases d1 with ⟨c1,c2,c3⟩ | ⟨c1,c2,c3⟩ | ⟨c1,c2,c3⟩ | ⟨c1,c2,c3⟩ <;> rcases d2 with ⟨c5,c6,c7⟩ | ⟨c5,c6,c7⟩ | ⟨c5,c6,c7⟩ | ⟨c5,c6,c7⟩ <;> by_cases c4:(60:Int) < p.prices.length <;>
    simp -implicitDefEqProofs only [q3.n0_w,sw0,sw1,sw2,sw3,sw4,sw5,reduceCtorEq,Nat.reduceEqDiff,Nat.reduceAdd,Nat.reduceDiv,Nat.reduceLeDiff,h1.one,h2.one,h3.one,h1.len,h2.len,h3.len,c1,c2,c3,c4,c5,c6,c7,gO_u,q3.ret] <;> (refine hK _ ?_) <;> first | (intro; omega) | (intro h; cases h)
theorem PlantCools_s (hk:16 ^ 54≤k) {cs:List AV} {p:Plt} (hp:PV H cs p) (hK:∀ s,K (.bool true) s):VC ⟨prog,k,b⟩ F_q1 [.agg cs] ⟨H,lk⟩ K:=by
  have e54:(16:Nat) ^ 54=105312291668557186697918027683670432318895095400549111254310977536:=by decide
  have e53:(16:Nat) ^ 53=6582018229284824168619876730229402019930943462534319453394436096:=by decide
  have e52:(16:Nat) ^ 52=411376139330301510538742295639337626245683966408394965837152256:=by decide
  obtain ⟨k,rfl⟩:∃ j,k=j + 1:=⟨k - 1,by omega⟩
  have hp':=hp
  obtain ⟨vl,vp,vm,rfl,h1,h2,h3⟩:=hp'.how
  apply q1.enter
  have hpa:=hp.app (L:=[.cells [iv p.heat,iv p.low,iv p.high,vl,vp,vm]])
  simp -implicitDefEqProofs only [q1.n0_w,sw0,sw1,sw2,sw3,sw4,sw5,reduceCtorEq,Nat.reduceEqDiff,Nat.reduceAdd,Nat.reduceDiv,Nat.reduceLeDiff,h1.one,h2.one,h3.one]
  refine great_s (k:=k) (by omega) hpa fun t ht=>?_
  cases t
  · have hl := ht rfl
    have a1:=fun (K:AV→St→Prop)=>Cool_s (K:=K) (k:=k) (b:=some H.length) (lk:=false) (by omega) hpa hl
    have a2:=fun (K:AV→St→Prop)=>r12_Cool_s (K:=K) (k:=k) (b:=some H.length) (lk:=false) (by omega) hpa hl
    have i2:=fun (K:AV→St→Prop)=>Ints_nil (K:=K) (k:=k) (b:=some H.length) (H:=H ++ [.cells [iv p.heat,iv p.low,iv p.high,vl,vp,vm]]) (lk:=false) (by omega) (f:=false) (g:=true) (y:=1) (z:=0)
    unfold Plt.cool at a1
    unfold Plt.rcool at a2
    cases hok:p.ok
    · rw [hok] at a1 a2
      simp -implicitDefEqProofs only [Bool.false_eq_true,if_false] at a1 a2
      simp -implicitDefEqProofs only [q1.n2_w,sw0,sw1,sw2,sw3,sw4,sw5,reduceCtorEq,Nat.reduceEqDiff,Nat.reduceAdd,Nat.reduceDiv,Nat.reduceLeDiff,a1,a2,i2]
      refine awake_s (by omega) fun s=>?_
      obtain ⟨G,g⟩:=s
      cases g <;> simp -implicitDefEqProofs only [sw0,sw1,sw2,sw3,sw4,sw5,reduceCtorEq,Nat.reduceEqDiff,Nat.reduceAdd,Nat.reduceDiv,Nat.reduceLeDiff,q1.ret,lv_t,hK]
    · rw [hok] at a1 a2
      simp -implicitDefEqProofs only [if_true] at a1 a2
      cases hb:best p p.loads.length 0 p.heat 0 with
      | none =>
        rw [hb] at a1 a2
        simp -implicitDefEqProofs only [q1.n2_w,sw0,sw1,sw2,sw3,sw4,sw5,reduceCtorEq,Nat.reduceEqDiff,Nat.reduceAdd,Nat.reduceDiv,Nat.reduceLeDiff,a1,a2,i2]
        refine awake_s (by omega) fun s=>?_
        obtain ⟨G,g⟩:=s
        cases g <;> simp -implicitDefEqProofs only [sw0,sw1,sw2,sw3,sw4,sw5,reduceCtorEq,Nat.reduceEqDiff,Nat.reduceAdd,Nat.reduceDiv,Nat.reduceLeDiff,q1.ret,lv_t,hK]
      | some q =>
        obtain ⟨c,m⟩:=q
        rw [hb] at a1 a2
        dsimp only at a1 a2
        have hpl:∀ (r h:Nat) (t:Int) (o:Nat),(plan p r h t o).length≤r:=by
          intro r
          induction r with
          | zero=>intro h t o; exact Nat.le_refl _
          | succ r ih =>
            intro h t o
            rw [plan]
            cases hb2:best p (r + 1) h t o with
            | none=>simp
            | some q =>
              obtain ⟨c,n⟩:=q
              have:=ih (h + 1) (p.heatBy h t n) n
              simp -implicitDefEqProofs only [List.length_cons]
              omega
        have i1:=fun (K:AV→St→Prop)=>r02_Ints_s (K:=K) (k:=k) (b:=some H.length) (lk:=false) (H:=H ++ [.cells [iv p.heat,iv p.low,iv p.high,vl,vp,vm]]) (xs:=plan p p.loads.length 0 p.heat 0) (ys:=plan p p.loads.length 0 p.heat 0) (v:=.slice false 1 ((plan p p.loads.length 0 p.heat 0).map ic)) (w:=.slice false 1 ((plan p p.loads.length 0 p.heat 0).map ic)) (by omega) (Sl.val Nat.one_pos ic_len) (Sl.val Nat.one_pos ic_len) (by have:=hpl p.loads.length 0 p.heat 0; omega)
        simp -implicitDefEqProofs only [q1.n2_w,sw0,sw1,sw2,sw3,sw4,sw5,reduceCtorEq,Nat.reduceEqDiff,Nat.reduceAdd,Nat.reduceDiv,Nat.reduceLeDiff,a1,a2,i1]
        refine awake_s (by omega) fun s=>?_
        obtain ⟨G,g⟩:=s
        cases g <;> simp -implicitDefEqProofs only [sw0,sw1,sw2,sw3,sw4,sw5,reduceCtorEq,Nat.reduceEqDiff,Nat.reduceAdd,Nat.reduceDiv,Nat.reduceLeDiff,q1.ret,lv_t,hK]
  · simp -implicitDefEqProofs only [q1.n1_w,sw0,sw1,sw2,sw3,sw4,sw5,reduceCtorEq,Nat.reduceEqDiff,Nat.reduceAdd,Nat.reduceDiv,Nat.reduceLeDiff]
    refine awake_s (by omega) fun s=>?_
    obtain ⟨G,g⟩:=s
    cases g <;> simp -implicitDefEqProofs only [sw0,sw1,sw2,sw3,sw4,sw5,reduceCtorEq,Nat.reduceEqDiff,Nat.reduceAdd,Nat.reduceDiv,Nat.reduceLeDiff,q1.ret,lv_t,hK]
end Go.Proofs.YtcebebhaahpoiaaDoor
end
section
namespace Go.Proofs.YtcebebhaahpoiaaDoor
open Go Go.Ai Go.W Go.RowKit Go.ChangeShapes Go.WideShapes Go.ChangeAt Go.Lib
set_option maxRecDepth 100000
theorem plantcools_law (xs:List AV) (hl:xs.length=Tryd.f3.params.toList.length) (hx:∀ (j:Nat) t x,Tryd.f3.params.toList[j]?=some t→xs[j]?=some x→Arg Tryd.prog 8 t x) :
    ∃ k,(ev prog k (.fn 3) xs ⟨[],false⟩).All fun p=>p.1=.val (.bool true):=by
  have hl2:xs.length=1:=hl
  match xs,hl2 with
  | [a],_ =>
    obtain ⟨cs,p,rfl,hp⟩:=arg_plant (hx 0 25 a rfl rfl)
    refine ⟨16 ^ 54,?_⟩
    have h:=PlantCools_s (k:=16 ^ 54) (b:=none) (H:=[]) (lk:=false) (K:=fun v _=>v=.bool true) (Nat.le_refl _) (hp []) (fun _=>rfl)
    unfold VC at h
    refine Res.All.mono (fun r hr=>?_) h
    obtain ⟨v,s⟩:=r
    cases v with
    | val v=>exact congrArg _ hr
    | panic v=>exact hr.elim
theorem plantcools_lifted (os:Os) (started:os.Started) (X:Type) (enc:TypeId × Value→X) :
    ReturnsInHanded {} Tryd.checked os 3 .any (fun w args=>(Rows.plantCoolsSpec.pre enc Tryd.prog Tryd.f3 [] false w args∧laidMetH Tryd.prog laidL w)∧sizedMet enc Tryd.prog Tryd.f3 (OpenSpec.ofChange Rows.plantCoolsSpec) false w args)
      (Rows.plantCoolsSpec.post enc Tryd.prog Tryd.f3 false true false false):=by
  refine returnsInHanded_of_change_and (C:=Tryd.checked) (X:=fun w _=>laidMetH Tryd.prog laidL w) (fun _ _ _ hh h=>h.of_heap hh) own started (by kernel_rfl) Tryd.func3
    (ChangeSpec.witness_shaped (enc:=enc) (C:=Tryd.checked) (os:=os) (X:=fun w _=>laidMetH Tryd.prog laidL w) false (World.laidAll Tryd.prog os laidL) #[.agg #[.int .i64 0,.int .i64 0,.int .i64 0,.slice none 0 0,.slice none 0 0,.slice none 0 0]] 8 (World.laidAll_os _ _ _)
      (World.shaped_of_ZipB (by kernel_rfl) (by kernel_rfl)) (by kernel_rfl) (by kernel_rfl) (by kernel_rfl)
      (by rw [MakeChecks.laidMetH_plain _ _ _ (by kernel_rfl)]; exact laidMet_laidAll _ (by kernel_rfl) (by kernel_rfl))) ?_
  intro W base args ds gs before hval0 hW _ _ hL _
  have hval:∀ (j:Nat) t v,Tryd.f3.params.toList[j]?=some t→args.toList[j]?=some v→Value.okWide Tryd.prog W .any base t v:=fun j t v h1 h2=>hval0 j t v (by simpa using h1) (by simpa using h2)
  have hW':=hW
  obtain ⟨p,q,hA0,hV,rfl,_,_⟩:=hW
  have hA:DataW.TrodAll enc Tryd.prog W 0 (fun _=>true) true Tryd.f3.params.toList args.toList ds p:=hA0
  obtain ⟨rfl,rfl⟩:=trodVars_none hV
  rw [MakeChecks.laidMetH_plain _ _ _ (by kernel_rfl)] at hL
  obtain ⟨o,ho,hTab⟩:=tab_of_laid hL
  have hpl:(Tryd.f3.params.toList.all fun t=>plainT Tryd.prog 8 t)=true:=by kernel_rfl
  obtain ⟨xs,hLR,hxl,hxa⟩:=read_args (d:=8) hA hval (fun t ht=>List.all_eq_true.1 hpl t ht)
  obtain ⟨k,hk⟩:=plantcools_law xs hxl hxa
  have hrd:(Tryd.f3.params.toList.all fun t=>Tryd.prog.readableRec t && decide (t < Tryd.prog.types.size))=true:=by kernel_rfl
  have hlen:ds.length=1:=(trodAll_len hA).trans (by kernel_rfl)
  have hcall:=law_call (progOK hTab) mixedP k 3 W args.toList xs hLR (fun p hp=>by simp -implicitDefEqProofs only [List.mem_singleton] at hp; subst hp; exact ho) hk
  refine hcall.mono fun e W' ⟨he,hb⟩=>⟨_,he,?_⟩
  refine post_of_law laidOutP (fun t ht=>by have:=List.all_eq_true.1 hrd t ht; simp -implicitDefEqProofs only [Bool.and_eq_true,decide_eq_true_eq] at this; exact this) (tb:=4) (by kernel_rfl) Tryd.underlying4 rfl hW' ?_ hb
  match ds,hlen with
  | [d1],_=>exact ⟨rfl,rfl,rfl⟩
theorem plantcools_holds:Rows.PlantCoolsSaid :=
  OpenClaim.holds_of_wide 3 Tryd.f3 rfl rfl rfl rfl rfl rfl rfl ⟨rfl,rfl,rfl,rfl,rfl⟩ rfl rfl rfl rfl rfl (by kernel_rfl) Tryd.func3 (by kernel_rfl)
    (of_decide_eq_true (by kernel_rfl)) (by unfold Func.isWrapper; first | (rw [if_pos (by decide +kernel)]; kernel_rfl) | (rw [if_neg (by decide +kernel)]; exact ⟨rfl,rfl⟩))
    (fun os started H enc _=>plantcools_lifted os started H enc)
theorem plantcools_card:Rows.PlantCoolsCardSaid :=
  Claim7.holds_tied_plain_at .later [] [.data, .data] true (true, "98e795a669b5da70fd090277ed8c58b8aa4305f620608e823b1754817605947f") false plantcools_holds (fun _ h => by cases h) (by kernel_rfl) (fun _ h => by cases h) plantCools_row_tie rfl ⟨rfl, rfl⟩ (by kernel_rfl) rfl
    (fun f fn hf hfn=>by
      obtain rfl : f = 3 := Option.some.inj ((show Tryd.prog.funcNamed "besom/besomlaw12.PlantCools" = some 3 by kernel_rfl).symm.trans hf) |>.symm
      obtain rfl:fn=Tryd.f3:=(Option.some.inj (Tryd.func3.symm.trans hfn)).symm
      exact ⟨by kernel_rfl,fun j t ht=>by
        have hall:(Tryd.f3.params.toList.all fun u=>!Tryd.prog.wantsStandIn u)=true:=by kernel_rfl
        have hm:t ∈ Tryd.f3.params.toList:=by simpa using Array.mem_of_getElem? ht
        exact (show Tryd.prog.wantsStandIn t=false by simpa using List.all_eq_true.1 hall t hm)⟩)
    (by kernel_rfl)
end Go.Proofs.YtcebebhaahpoiaaDoor
end
#print axioms Go.Proofs.YtcebebhaahpoiaaDoor.plantcools_card
