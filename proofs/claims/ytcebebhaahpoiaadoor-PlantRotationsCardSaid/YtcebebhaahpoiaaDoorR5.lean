/- PlantRotations: for every number of sets and all rounds the law answers true and turns nothing, with no condition. Part 5 of 5. -/
import Derived.Test.YtcebebhaahpoiaaDoorR4
set_option maxHeartbeats 2000000
set_option linter.unusedSimpArgs false
set_option linter.unusedVariables false
set_option linter.deprecated false
set_option linter.all false
section
namespace Go.Proofs.YtcebebhaahpoiaaDoor
open Go Go.Ai Go.W
attribute [local irreducible] VC YC WC
set_option linter.unusedSimpArgs false
set_option linter.unusedVariables false
set_option maxRecDepth 10000
variable {k:Nat} {b:Option Nat} {H:List AObj} {lk:Bool} {K:AV→St→Prop}
def jA:List (Int × Int × Int):=[(0,0,3),(1,0,2),(2,1,2)]
abbrev vA:AV:=.slice true 3 [[iv 0,iv 0,iv 3],[iv 1,iv 0,iv 2],[iv 2,iv 1,iv 2]]
theorem vA_sl:Sl H 3 jc vA jA:=Sl.lit (by omega) jc_len rfl
theorem yA0 (hk:1000≤k) {r0 r1 r6 r9 r10 r11 r12 r13 r14 r15 r16 r17 r18 r19 r20 r21 r22 r23 r24 r25 r26 r27 r28 r29 r30 r31 r32 r33 r34 r35 r36 r37 r38 r39 r40 r41 r42 r43 r44 r45 r46 r47 r48 r49 r50 r51 r52 r53 r54 r55 r56 r57 r58 r59 r60 r61 r62 r63 r64 r65 r66:AV} {x1 x2 x3:AObj} (hK:K (.bool true) ⟨H ++ [.cells [vA],.cells [iv 1],.cells [.slice true 0 []],.cells [iv 0],.cells [iv 0,iv 0,iv 0],.cells [.sref (H.length + 4) 0 3 3 1],.cells [.sref (H.length + 15) 0 1 2 1,.fn F_q18 [.ptr H.length 0 1]],.map shI 3 [(iv 0,.sref (H.length + 10) 0 2 2 1),(iv 1,.sref (H.length + 13) 0 1 1 1)],.cells [.map (H.length + 7)],x1,.cells [iv 0,iv 1],x2,x3,.cells [iv 2],.loop [r0,r1,.ptr H.length 0 1,.ptr (H.length + 1) 0 1,.ptr (H.length + 2) 0 1,.ptr (H.length + 3) 0 1,r6,.ptr (H.length + 5) 0 1,.ptr (H.length + 6) 0 2,r9,r10,r11,r12,r13,r14,r15,r16,r17,r18,r19,r20,r21,r22,r23,r24,r25,r26,r27,r28,r29,r30,r31,r32,r33,r34,r35,r36,r37,r38,r39,r40,r41,r42,r43,r44,r45,r46,r47,r48,r49,r50,r51,r52,r53,r54,r55,r56,r57,r58,r59,r60,r61,r62,r63,r64,r65,r66] [28,29] q17.n4 q17.n5 true none,.cells [iv 0,iv 0]],true⟩):YC ⟨prog,k + 1,b⟩ (H.length + 14) [iv 0,.sref (H.length + 10) 0 2 2 1] ⟨H ++ [.cells [vA],.cells [iv 1],.cells [.slice true 0 []],.cells [iv 0],.cells [iv 0,iv 0,iv 0],.cells [.sref (H.length + 4) 0 3 3 1],.cells [.slice true 0 [],.fn F_q18 [.ptr H.length 0 1]],.map shI 3 [(iv 0,.sref (H.length + 10) 0 2 2 1),(iv 1,.sref (H.length + 13) 0 1 1 1)],.cells [.map (H.length + 7)],x1,.cells [iv 0,iv 1],x2,x3,.cells [iv 2],.loop [r0,r1,.ptr H.length 0 1,.ptr (H.length + 1) 0 1,.ptr (H.length + 2) 0 1,.ptr (H.length + 3) 0 1,r6,.ptr (H.length + 5) 0 1,.ptr (H.length + 6) 0 2,r9,r10,r11,r12,r13,r14,r15,r16,r17,r18,r19,r20,r21,r22,r23,r24,r25,r26,r27,r28,r29,r30,r31,r32,r33,r34,r35,r36,r37,r38,r39,r40,r41,r42,r43,r44,r45,r46,r47,r48,r49,r50,r51,r52,r53,r54,r55,r56,r57,r58,r59,r60,r61,r62,r63,r64,r65,r66] [28,29] q17.n4 q17.n5 true none],lk⟩ K:=by
  have hk1:100≤k:=by omega
  have hk2:100≤k - 1:=by omega
  refine YC_go (by simp -implicitDefEqProofs only [sw0,sw1,sw2,sw3,sw4,sw5,reduceCtorEq,Nat.reduceEqDiff,Nat.reduceAdd,Nat.reduceDiv,Nat.reduceLeDiff,dw0,Int.reduceAdd,Int.reduceSub,Int.reduceMul,Int.reduceLT,Int.reduceLE,Int.reduceNeg,Int.reduceEq,Int.reduceToNat,Nat.reduceLT,Nat.reduceMul,Nat.reduceSub,Nat.reduceBEq,Nat.reduceLeDiff,xw0,eApp,rowOf,appRow,lkL,lkN,eMupd,vLook,mapSh,findE,putE,keqL,hasSh,fits,shb,Int.reduceBEq,eMksl,vSlc,boundsOf,boundOf,cleanL,Nat.reduceGT,Int.reduceGT,Int.reduceGE,Int.reduceDiv,Int.reduceTDiv,vAidx,rdc]; rfl) rfl ?_
  simp -implicitDefEqProofs only [sw0,sw1,sw2,sw3,sw4,sw5,reduceCtorEq,Nat.reduceEqDiff,Nat.reduceAdd,Nat.reduceDiv,Nat.reduceLeDiff,dw0,Int.reduceAdd,Int.reduceSub,Int.reduceMul,Int.reduceLT,Int.reduceLE,Int.reduceNeg,Int.reduceEq,Int.reduceToNat,Nat.reduceLT,Nat.reduceMul,Nat.reduceSub,Nat.reduceBEq,Nat.reduceLeDiff,xw0,eApp,rowOf,appRow,lkL,lkN,eMupd,vLook,mapSh,findE,putE,keqL,hasSh,fits,shb,Int.reduceBEq,eMksl,vSlc,boundsOf,boundOf,cleanL,Nat.reduceGT,Int.reduceGT,Int.reduceGE,Int.reduceDiv,Int.reduceTDiv,vAidx,rdc,q17.n4_w,q17.n5_w,YK,Plan_u6]
  refine ⟨⟨_,_,_,_,rfl⟩,?_⟩
  rw [wl_1 (by omega)]
  simp -implicitDefEqProofs only [q17.n7_w,sw0,sw1,sw2,sw3,sw4,sw5,reduceCtorEq,Nat.reduceEqDiff,Nat.reduceAdd,Nat.reduceDiv,Nat.reduceLeDiff,dw0,Int.reduceAdd,Int.reduceSub,Int.reduceMul,Int.reduceLT,Int.reduceLE,Int.reduceNeg,Int.reduceEq,Int.reduceToNat,Nat.reduceLT,Nat.reduceMul,Nat.reduceSub,Nat.reduceBEq,Nat.reduceLeDiff,xw0,eApp,rowOf,appRow,lkL,lkN,eMupd,vLook,mapSh,findE,putE,keqL,hasSh,fits,shb,Int.reduceBEq,eMksl,vSlc,boundsOf,boundOf,cleanL,Nat.reduceGT,Int.reduceGT,Int.reduceGE,Int.reduceDiv,Int.reduceTDiv,vAidx,rdc,q17.n9_w]
  have h:=fun (K:AV→St→Prop) X (hK)=>put0' (k:=k) (b:=none) (lk:=lk) (K:=K) (n:=0) (f:=.fn F_q18 [.ptr H.length 0 1]) hk1 (H:=H ++ [.cells [vA],.cells [iv 1],.cells [.slice true 0 []],.cells [iv 0],.cells [iv 0,iv 0,iv 0],.cells [.sref (H.length + 4) 0 3 3 1]]) (L:=[.map shI 3 [(iv 0,.sref (H.length + 10) 0 2 2 1),(iv 1,.sref (H.length + 13) 0 1 1 1)],.cells [.map (H.length + 7)],x1,.cells [iv 0,iv 1],x2,x3,.cells [iv 2],X]) hK
  simp -implicitDefEqProofs only [sw0,sw1,sw2,sw3,sw4,sw5,reduceCtorEq,Nat.reduceEqDiff,Nat.reduceAdd,Nat.reduceDiv,Nat.reduceLeDiff,Nat.add_assoc] at h
  refine h _ _ ?_
  clear h
  rw [wl_1 (by omega)]
  simp -implicitDefEqProofs only [q17.n7_w,sw0,sw1,sw2,sw3,sw4,sw5,reduceCtorEq,Nat.reduceEqDiff,Nat.reduceAdd,Nat.reduceDiv,Nat.reduceLeDiff,dw0,Int.reduceAdd,Int.reduceSub,Int.reduceMul,Int.reduceLT,Int.reduceLE,Int.reduceNeg,Int.reduceEq,Int.reduceToNat,Nat.reduceLT,Nat.reduceMul,Nat.reduceSub,Nat.reduceBEq,Nat.reduceLeDiff,xw0,eApp,rowOf,appRow,lkL,lkN,eMupd,vLook,mapSh,findE,putE,keqL,hasSh,fits,shb,Int.reduceBEq,eMksl,vSlc,boundsOf,boundOf,cleanL,Nat.reduceGT,Int.reduceGT,Int.reduceGE,Int.reduceDiv,Int.reduceTDiv,vAidx,rdc,q17.n9_w]
  have h:=fun (K:AV→St→Prop) X (hK)=>put1'_1 (k:=k) (b:=none) (lk:=true) (K:=K) (n:=1) (m:=0) (z:=.undef) (qs:=jA) (cl:=H.length) (v:=vA) hk1 (H:=H ++ [.cells [vA],.cells [iv 1],.cells [.slice true 0 []],.cells [iv 0],.cells [iv 0,iv 0,iv 0],.cells [.sref (H.length + 4) 0 3 3 1]]) (L:=[.map shI 3 [(iv 0,.sref (H.length + 10) 0 2 2 1),(iv 1,.sref (H.length + 13) 0 1 1 1)],.cells [.map (H.length + 7)],x1,.cells [iv 0,iv 1],x2,x3,.cells [iv 2],X]) vA_sl (by simp -implicitDefEqProofs only [sw0,sw1,sw2,sw3,sw4,sw5,reduceCtorEq,Nat.reduceEqDiff,Nat.reduceAdd,Nat.reduceDiv,Nat.reduceLeDiff,dw0,Int.reduceAdd,Int.reduceSub,Int.reduceMul,Int.reduceLT,Int.reduceLE,Int.reduceNeg,Int.reduceEq,Int.reduceToNat,Nat.reduceLT,Nat.reduceMul,Nat.reduceSub,Nat.reduceBEq,Nat.reduceLeDiff,xw0,eApp,rowOf,appRow,lkL,lkN,eMupd,vLook,mapSh,findE,putE,keqL,hasSh,fits,shb,Int.reduceBEq,eMksl,vSlc,boundsOf,boundOf,cleanL,Nat.reduceGT,Int.reduceGT,Int.reduceGE,Int.reduceDiv,Int.reduceTDiv,vAidx,rdc]) (by decide) (by decide) hK
  simp -implicitDefEqProofs only [sw0,sw1,sw2,sw3,sw4,sw5,reduceCtorEq,Nat.reduceEqDiff,Nat.reduceAdd,Nat.reduceDiv,Nat.reduceLeDiff,dw0,Int.reduceAdd,Int.reduceSub,Int.reduceMul,Int.reduceLT,Int.reduceLE,Int.reduceNeg,Int.reduceEq,Int.reduceToNat,Nat.reduceLT,Nat.reduceMul,Nat.reduceSub,Nat.reduceBEq,Nat.reduceLeDiff,xw0,eApp,rowOf,appRow,lkL,lkN,eMupd,vLook,mapSh,findE,putE,keqL,hasSh,fits,shb,Int.reduceBEq,eMksl,vSlc,boundsOf,boundOf,cleanL,Nat.reduceGT,Int.reduceGT,Int.reduceGE,Int.reduceDiv,Int.reduceTDiv,vAidx,rdc,jA,Nat.add_assoc] at h
  refine h _ _ ?_
  clear h
  rw [wl_1 (by omega)]
  simp -implicitDefEqProofs only [q17.n7_w,sw0,sw1,sw2,sw3,sw4,sw5,reduceCtorEq,Nat.reduceEqDiff,Nat.reduceAdd,Nat.reduceDiv,Nat.reduceLeDiff,dw0,Int.reduceAdd,Int.reduceSub,Int.reduceMul,Int.reduceLT,Int.reduceLE,Int.reduceNeg,Int.reduceEq,Int.reduceToNat,Nat.reduceLT,Nat.reduceMul,Nat.reduceSub,Nat.reduceBEq,Nat.reduceLeDiff,xw0,eApp,rowOf,appRow,lkL,lkN,eMupd,vLook,mapSh,findE,putE,keqL,hasSh,fits,shb,Int.reduceBEq,eMksl,vSlc,boundsOf,boundOf,cleanL,Nat.reduceGT,Int.reduceGT,Int.reduceGE,Int.reduceDiv,Int.reduceTDiv,vAidx,rdc,q17.n10_w,Plan_u11]
  rw [wl_1 (by omega)]
  simp -implicitDefEqProofs only [q17.n12_w,sw0,sw1,sw2,sw3,sw4,sw5,reduceCtorEq,Nat.reduceEqDiff,Nat.reduceAdd,Nat.reduceDiv,Nat.reduceLeDiff,dw0,Int.reduceAdd,Int.reduceSub,Int.reduceMul,Int.reduceLT,Int.reduceLE,Int.reduceNeg,Int.reduceEq,Int.reduceToNat,Nat.reduceLT,Nat.reduceMul,Nat.reduceSub,Nat.reduceBEq,Nat.reduceLeDiff,xw0,eApp,rowOf,appRow,lkL,lkN,eMupd,vLook,mapSh,findE,putE,keqL,hasSh,fits,shb,Int.reduceBEq,eMksl,vSlc,boundsOf,boundOf,cleanL,Nat.reduceGT,Int.reduceGT,Int.reduceGE,Int.reduceDiv,Int.reduceTDiv,vAidx,rdc,q17.n14_w]
  have h:=fun (K:AV→St→Prop) X (hK)=>take2 (k:=k - 1) (b:=none) (K:=K) (n:=1) (m:=0) (f:=.fn F_q18 [.ptr H.length 0 1]) hk2 (H:=H ++ [.cells [vA],.cells [iv 1],.cells [.slice true 0 []],.cells [iv 0],.cells [iv 0,iv 0,iv 0],.cells [.sref (H.length + 4) 0 3 3 1]]) (L:=[.map shI 3 [(iv 0,.sref (H.length + 10) 0 2 2 1),(iv 1,.sref (H.length + 13) 0 1 1 1)],.cells [.map (H.length + 7)],x1,.cells [iv 0,iv 1],x2,x3,.cells [iv 2],X]) hK
  rw [show k - 1 + 1=k by omega] at h
  simp -implicitDefEqProofs only [sw0,sw1,sw2,sw3,sw4,sw5,reduceCtorEq,Nat.reduceEqDiff,Nat.reduceAdd,Nat.reduceDiv,Nat.reduceLeDiff,dw0,Int.reduceAdd,Int.reduceSub,Int.reduceMul,Int.reduceLT,Int.reduceLE,Int.reduceNeg,Int.reduceEq,Int.reduceToNat,Nat.reduceLT,Nat.reduceMul,Nat.reduceSub,Nat.reduceBEq,Nat.reduceLeDiff,xw0,eApp,rowOf,appRow,lkL,lkN,eMupd,vLook,mapSh,findE,putE,keqL,hasSh,fits,shb,Int.reduceBEq,eMksl,vSlc,boundsOf,boundOf,cleanL,Nat.reduceGT,Int.reduceGT,Int.reduceGE,Int.reduceDiv,Int.reduceTDiv,vAidx,rdc,Nat.add_assoc] at h
  refine h _ _ ?_
  clear h
  simp -implicitDefEqProofs only [sw0,sw1,sw2,sw3,sw4,sw5,reduceCtorEq,Nat.reduceEqDiff,Nat.reduceAdd,Nat.reduceDiv,Nat.reduceLeDiff,dw0,Int.reduceAdd,Int.reduceSub,Int.reduceMul,Int.reduceLT,Int.reduceLE,Int.reduceNeg,Int.reduceEq,Int.reduceToNat,Nat.reduceLT,Nat.reduceMul,Nat.reduceSub,Nat.reduceBEq,Nat.reduceLeDiff,xw0,eApp,rowOf,appRow,lkL,lkN,eMupd,vLook,mapSh,findE,putE,keqL,hasSh,fits,shb,Int.reduceBEq,eMksl,vSlc,boundsOf,boundOf,cleanL,Nat.reduceGT,Int.reduceGT,Int.reduceGE,Int.reduceDiv,Int.reduceTDiv,vAidx,rdc,q17.n16_w,q17.n17_w]
  rw [wl_1 (by omega)]
  simp -implicitDefEqProofs only [q17.n12_w,sw0,sw1,sw2,sw3,sw4,sw5,reduceCtorEq,Nat.reduceEqDiff,Nat.reduceAdd,Nat.reduceDiv,Nat.reduceLeDiff,dw0,Int.reduceAdd,Int.reduceSub,Int.reduceMul,Int.reduceLT,Int.reduceLE,Int.reduceNeg,Int.reduceEq,Int.reduceToNat,Nat.reduceLT,Nat.reduceMul,Nat.reduceSub,Nat.reduceBEq,Nat.reduceLeDiff,xw0,eApp,rowOf,appRow,lkL,lkN,eMupd,vLook,mapSh,findE,putE,keqL,hasSh,fits,shb,Int.reduceBEq,eMksl,vSlc,boundsOf,boundOf,cleanL,Nat.reduceGT,Int.reduceGT,Int.reduceGE,Int.reduceDiv,Int.reduceTDiv,vAidx,rdc,YK]
  exact hK
theorem yA1 (hk:1000≤k) {r0 r1 r6 r9 r10 r11 r12 r13 r14 r15 r16 r17 r18 r19 r20 r21 r22 r23 r24 r25 r26 r27 r28 r29 r30 r31 r32 r33 r34 r35 r36 r37 r38 r39 r40 r41 r42 r43 r44 r45 r46 r47 r48 r49 r50 r51 r52 r53 r54 r55 r56 r57 r58 r59 r60 r61 r62 r63 r64 r65 r66:AV} {x1 x2 x3:AObj} (hK:K (.bool true) ⟨H ++ [.cells [vA],.cells [iv 1],.cells [.slice true 0 []],.cells [iv 0],.cells [iv 0,iv 0,iv 1],.cells [.sref (H.length + 4) 0 3 3 1],.cells [.sref (H.length + 15) 0 1 2 1,.fn F_q18 [.ptr H.length 0 1]],.map shI 3 [(iv 0,.sref (H.length + 10) 0 2 2 1),(iv 1,.sref (H.length + 13) 0 1 1 1)],.cells [.map (H.length + 7)],x1,.cells [iv 0,iv 1],x2,x3,.cells [iv 2],.loop [r0,r1,.ptr H.length 0 1,.ptr (H.length + 1) 0 1,.ptr (H.length + 2) 0 1,.ptr (H.length + 3) 0 1,r6,.ptr (H.length + 5) 0 1,.ptr (H.length + 6) 0 2,r9,r10,r11,r12,r13,r14,r15,r16,r17,r18,r19,r20,r21,r22,r23,r24,r25,r26,r27,r28,r29,r30,r31,r32,r33,r34,r35,r36,r37,r38,r39,r40,r41,r42,r43,r44,r45,r46,r47,r48,r49,r50,r51,r52,r53,r54,r55,r56,r57,r58,r59,r60,r61,r62,r63,r64,r65,r66] [28,29] q17.n4 q17.n5 true none,.cells [iv 0,iv 0]],true⟩):YC ⟨prog,k + 1,b⟩ (H.length + 14) [iv 1,.sref (H.length + 13) 0 1 1 1] ⟨H ++ [.cells [vA],.cells [iv 1],.cells [.slice true 0 []],.cells [iv 0],.cells [iv 0,iv 0,iv 0],.cells [.sref (H.length + 4) 0 3 3 1],.cells [.sref (H.length + 15) 0 1 2 1,.fn F_q18 [.ptr H.length 0 1]],.map shI 3 [(iv 0,.sref (H.length + 10) 0 2 2 1),(iv 1,.sref (H.length + 13) 0 1 1 1)],.cells [.map (H.length + 7)],x1,.cells [iv 0,iv 1],x2,x3,.cells [iv 2],.loop [r0,r1,.ptr H.length 0 1,.ptr (H.length + 1) 0 1,.ptr (H.length + 2) 0 1,.ptr (H.length + 3) 0 1,r6,.ptr (H.length + 5) 0 1,.ptr (H.length + 6) 0 2,r9,r10,r11,r12,r13,r14,r15,r16,r17,r18,r19,r20,r21,r22,r23,r24,r25,r26,r27,r28,r29,r30,r31,r32,r33,r34,r35,r36,r37,r38,r39,r40,r41,r42,r43,r44,r45,r46,r47,r48,r49,r50,r51,r52,r53,r54,r55,r56,r57,r58,r59,r60,r61,r62,r63,r64,r65,r66] [28,29] q17.n4 q17.n5 true none,.cells [iv 0,iv 0]],true⟩ K:=by
  have hk1:100≤k:=by omega
  have hk2:100≤k - 1:=by omega
  refine YC_go (by simp -implicitDefEqProofs only [sw0,sw1,sw2,sw3,sw4,sw5,reduceCtorEq,Nat.reduceEqDiff,Nat.reduceAdd,Nat.reduceDiv,Nat.reduceLeDiff,dw0,Int.reduceAdd,Int.reduceSub,Int.reduceMul,Int.reduceLT,Int.reduceLE,Int.reduceNeg,Int.reduceEq,Int.reduceToNat,Nat.reduceLT,Nat.reduceMul,Nat.reduceSub,Nat.reduceBEq,Nat.reduceLeDiff,xw0,eApp,rowOf,appRow,lkL,lkN,eMupd,vLook,mapSh,findE,putE,keqL,hasSh,fits,shb,Int.reduceBEq,eMksl,vSlc,boundsOf,boundOf,cleanL,Nat.reduceGT,Int.reduceGT,Int.reduceGE,Int.reduceDiv,Int.reduceTDiv,vAidx,rdc]; rfl) rfl ?_
  simp -implicitDefEqProofs only [sw0,sw1,sw2,sw3,sw4,sw5,reduceCtorEq,Nat.reduceEqDiff,Nat.reduceAdd,Nat.reduceDiv,Nat.reduceLeDiff,dw0,Int.reduceAdd,Int.reduceSub,Int.reduceMul,Int.reduceLT,Int.reduceLE,Int.reduceNeg,Int.reduceEq,Int.reduceToNat,Nat.reduceLT,Nat.reduceMul,Nat.reduceSub,Nat.reduceBEq,Nat.reduceLeDiff,xw0,eApp,rowOf,appRow,lkL,lkN,eMupd,vLook,mapSh,findE,putE,keqL,hasSh,fits,shb,Int.reduceBEq,eMksl,vSlc,boundsOf,boundOf,cleanL,Nat.reduceGT,Int.reduceGT,Int.reduceGE,Int.reduceDiv,Int.reduceTDiv,vAidx,rdc,q17.n4_w,q17.n5_w,YK,Plan_u6]
  refine ⟨⟨_,_,_,_,rfl⟩,?_⟩
  rw [wl_1 (by omega)]
  simp -implicitDefEqProofs only [q17.n7_w,sw0,sw1,sw2,sw3,sw4,sw5,reduceCtorEq,Nat.reduceEqDiff,Nat.reduceAdd,Nat.reduceDiv,Nat.reduceLeDiff,dw0,Int.reduceAdd,Int.reduceSub,Int.reduceMul,Int.reduceLT,Int.reduceLE,Int.reduceNeg,Int.reduceEq,Int.reduceToNat,Nat.reduceLT,Nat.reduceMul,Nat.reduceSub,Nat.reduceBEq,Nat.reduceLeDiff,xw0,eApp,rowOf,appRow,lkL,lkN,eMupd,vLook,mapSh,findE,putE,keqL,hasSh,fits,shb,Int.reduceBEq,eMksl,vSlc,boundsOf,boundOf,cleanL,Nat.reduceGT,Int.reduceGT,Int.reduceGE,Int.reduceDiv,Int.reduceTDiv,vAidx,rdc,q17.n9_w]
  have h:=fun (K:AV→St→Prop) X (hK)=>put1'_2 (k:=k) (b:=none) (lk:=true) (K:=K) (n:=2) (m:=0) (z:=iv 0) (qs:=jA) (cl:=H.length) (v:=vA) hk1 (H:=H ++ [.cells [vA],.cells [iv 1],.cells [.slice true 0 []],.cells [iv 0],.cells [iv 0,iv 0,iv 0],.cells [.sref (H.length + 4) 0 3 3 1]]) (L:=[.map shI 3 [(iv 0,.sref (H.length + 10) 0 2 2 1),(iv 1,.sref (H.length + 13) 0 1 1 1)],.cells [.map (H.length + 7)],x1,.cells [iv 0,iv 1],x2,x3,.cells [iv 2],X]) vA_sl (by simp -implicitDefEqProofs only [sw0,sw1,sw2,sw3,sw4,sw5,reduceCtorEq,Nat.reduceEqDiff,Nat.reduceAdd,Nat.reduceDiv,Nat.reduceLeDiff,dw0,Int.reduceAdd,Int.reduceSub,Int.reduceMul,Int.reduceLT,Int.reduceLE,Int.reduceNeg,Int.reduceEq,Int.reduceToNat,Nat.reduceLT,Nat.reduceMul,Nat.reduceSub,Nat.reduceBEq,Nat.reduceLeDiff,xw0,eApp,rowOf,appRow,lkL,lkN,eMupd,vLook,mapSh,findE,putE,keqL,hasSh,fits,shb,Int.reduceBEq,eMksl,vSlc,boundsOf,boundOf,cleanL,Nat.reduceGT,Int.reduceGT,Int.reduceGE,Int.reduceDiv,Int.reduceTDiv,vAidx,rdc]) (by decide) (by decide) hK
  simp -implicitDefEqProofs only [sw0,sw1,sw2,sw3,sw4,sw5,reduceCtorEq,Nat.reduceEqDiff,Nat.reduceAdd,Nat.reduceDiv,Nat.reduceLeDiff,dw0,Int.reduceAdd,Int.reduceSub,Int.reduceMul,Int.reduceLT,Int.reduceLE,Int.reduceNeg,Int.reduceEq,Int.reduceToNat,Nat.reduceLT,Nat.reduceMul,Nat.reduceSub,Nat.reduceBEq,Nat.reduceLeDiff,xw0,eApp,rowOf,appRow,lkL,lkN,eMupd,vLook,mapSh,findE,putE,keqL,hasSh,fits,shb,Int.reduceBEq,eMksl,vSlc,boundsOf,boundOf,cleanL,Nat.reduceGT,Int.reduceGT,Int.reduceGE,Int.reduceDiv,Int.reduceTDiv,vAidx,rdc,jA,Nat.add_assoc] at h
  refine h _ _ ?_
  clear h
  rw [wl_1 (by omega)]
  simp -implicitDefEqProofs only [q17.n7_w,sw0,sw1,sw2,sw3,sw4,sw5,reduceCtorEq,Nat.reduceEqDiff,Nat.reduceAdd,Nat.reduceDiv,Nat.reduceLeDiff,dw0,Int.reduceAdd,Int.reduceSub,Int.reduceMul,Int.reduceLT,Int.reduceLE,Int.reduceNeg,Int.reduceEq,Int.reduceToNat,Nat.reduceLT,Nat.reduceMul,Nat.reduceSub,Nat.reduceBEq,Nat.reduceLeDiff,xw0,eApp,rowOf,appRow,lkL,lkN,eMupd,vLook,mapSh,findE,putE,keqL,hasSh,fits,shb,Int.reduceBEq,eMksl,vSlc,boundsOf,boundOf,cleanL,Nat.reduceGT,Int.reduceGT,Int.reduceGE,Int.reduceDiv,Int.reduceTDiv,vAidx,rdc,q17.n10_w,Plan_u11]
  rw [wl_1 (by omega)]
  simp -implicitDefEqProofs only [q17.n12_w,sw0,sw1,sw2,sw3,sw4,sw5,reduceCtorEq,Nat.reduceEqDiff,Nat.reduceAdd,Nat.reduceDiv,Nat.reduceLeDiff,dw0,Int.reduceAdd,Int.reduceSub,Int.reduceMul,Int.reduceLT,Int.reduceLE,Int.reduceNeg,Int.reduceEq,Int.reduceToNat,Nat.reduceLT,Nat.reduceMul,Nat.reduceSub,Nat.reduceBEq,Nat.reduceLeDiff,xw0,eApp,rowOf,appRow,lkL,lkN,eMupd,vLook,mapSh,findE,putE,keqL,hasSh,fits,shb,Int.reduceBEq,eMksl,vSlc,boundsOf,boundOf,cleanL,Nat.reduceGT,Int.reduceGT,Int.reduceGE,Int.reduceDiv,Int.reduceTDiv,vAidx,rdc,q17.n14_w]
  have h:=fun (K:AV→St→Prop) X (hK)=>take2 (k:=k - 1) (b:=none) (K:=K) (n:=2) (m:=0) (f:=.fn F_q18 [.ptr H.length 0 1]) hk2 (H:=H ++ [.cells [vA],.cells [iv 1],.cells [.slice true 0 []],.cells [iv 0],.cells [iv 0,iv 0,iv 0],.cells [.sref (H.length + 4) 0 3 3 1]]) (L:=[.map shI 3 [(iv 0,.sref (H.length + 10) 0 2 2 1),(iv 1,.sref (H.length + 13) 0 1 1 1)],.cells [.map (H.length + 7)],x1,.cells [iv 0,iv 1],x2,x3,.cells [iv 2],X]) hK
  rw [show k - 1 + 1=k by omega] at h
  simp -implicitDefEqProofs only [sw0,sw1,sw2,sw3,sw4,sw5,reduceCtorEq,Nat.reduceEqDiff,Nat.reduceAdd,Nat.reduceDiv,Nat.reduceLeDiff,dw0,Int.reduceAdd,Int.reduceSub,Int.reduceMul,Int.reduceLT,Int.reduceLE,Int.reduceNeg,Int.reduceEq,Int.reduceToNat,Nat.reduceLT,Nat.reduceMul,Nat.reduceSub,Nat.reduceBEq,Nat.reduceLeDiff,xw0,eApp,rowOf,appRow,lkL,lkN,eMupd,vLook,mapSh,findE,putE,keqL,hasSh,fits,shb,Int.reduceBEq,eMksl,vSlc,boundsOf,boundOf,cleanL,Nat.reduceGT,Int.reduceGT,Int.reduceGE,Int.reduceDiv,Int.reduceTDiv,vAidx,rdc,Nat.add_assoc] at h
  refine h _ _ ?_
  clear h
  simp -implicitDefEqProofs only [sw0,sw1,sw2,sw3,sw4,sw5,reduceCtorEq,Nat.reduceEqDiff,Nat.reduceAdd,Nat.reduceDiv,Nat.reduceLeDiff,dw0,Int.reduceAdd,Int.reduceSub,Int.reduceMul,Int.reduceLT,Int.reduceLE,Int.reduceNeg,Int.reduceEq,Int.reduceToNat,Nat.reduceLT,Nat.reduceMul,Nat.reduceSub,Nat.reduceBEq,Nat.reduceLeDiff,xw0,eApp,rowOf,appRow,lkL,lkN,eMupd,vLook,mapSh,findE,putE,keqL,hasSh,fits,shb,Int.reduceBEq,eMksl,vSlc,boundsOf,boundOf,cleanL,Nat.reduceGT,Int.reduceGT,Int.reduceGE,Int.reduceDiv,Int.reduceTDiv,vAidx,rdc,q17.n16_w,q17.n17_w]
  rw [wl_1 (by omega)]
  simp -implicitDefEqProofs only [q17.n12_w,sw0,sw1,sw2,sw3,sw4,sw5,reduceCtorEq,Nat.reduceEqDiff,Nat.reduceAdd,Nat.reduceDiv,Nat.reduceLeDiff,dw0,Int.reduceAdd,Int.reduceSub,Int.reduceMul,Int.reduceLT,Int.reduceLE,Int.reduceNeg,Int.reduceEq,Int.reduceToNat,Nat.reduceLT,Nat.reduceMul,Nat.reduceSub,Nat.reduceBEq,Nat.reduceLeDiff,xw0,eApp,rowOf,appRow,lkL,lkN,eMupd,vLook,mapSh,findE,putE,keqL,hasSh,fits,shb,Int.reduceBEq,eMksl,vSlc,boundsOf,boundOf,cleanL,Nat.reduceGT,Int.reduceGT,Int.reduceGE,Int.reduceDiv,Int.reduceTDiv,vAidx,rdc,YK]
  exact hK
theorem yA2 (hk:1000≤k) {r0 r1 r6 r9 r10 r11 r12 r13 r14 r15 r16 r17 r18 r19 r20 r21 r22 r23 r24 r25 r26 r27 r28 r29 r30 r31 r32 r33 r34 r35 r36 r37 r38 r39 r40 r41 r42 r43 r44 r45 r46 r47 r48 r49 r50 r51 r52 r53 r54 r55 r56 r57 r58 r59 r60 r61 r62 r63 r64 r65 r66:AV} {x1 x2 x3:AObj} (hK:K (.bool true) ⟨H ++ [.cells [vA],.cells [iv 1],.cells [.slice true 0 []],.cells [iv 0],.cells [iv 2,iv 0,iv 1],.cells [.sref (H.length + 4) 0 3 3 1],.cells [.slice false 1 [],.fn F_q18 [.ptr H.length 0 1]],.map shI 3 [(iv 0,.sref (H.length + 10) 0 2 2 1),(iv 1,.sref (H.length + 13) 0 1 1 1)],.cells [.map (H.length + 7)],x1,.cells [iv 0,iv 1],x2,x3,.cells [iv 2],.loop [r0,r1,.ptr H.length 0 1,.ptr (H.length + 1) 0 1,.ptr (H.length + 2) 0 1,.ptr (H.length + 3) 0 1,r6,.ptr (H.length + 5) 0 1,.ptr (H.length + 6) 0 2,r9,r10,r11,r12,r13,r14,r15,r16,r17,r18,r19,r20,r21,r22,r23,r24,r25,r26,r27,r28,r29,r30,r31,r32,r33,r34,r35,r36,r37,r38,r39,r40,r41,r42,r43,r44,r45,r46,r47,r48,r49,r50,r51,r52,r53,r54,r55,r56,r57,r58,r59,r60,r61,r62,r63,r64,r65,r66] [28,29] q17.n4 q17.n5 true none,.cells [iv 0,iv 0]],true⟩):YC ⟨prog,k + 1,b⟩ (H.length + 14) [iv 2,.slice true 0 []] ⟨H ++ [.cells [vA],.cells [iv 1],.cells [.slice true 0 []],.cells [iv 0],.cells [iv 0,iv 0,iv 1],.cells [.sref (H.length + 4) 0 3 3 1],.cells [.sref (H.length + 15) 0 1 2 1,.fn F_q18 [.ptr H.length 0 1]],.map shI 3 [(iv 0,.sref (H.length + 10) 0 2 2 1),(iv 1,.sref (H.length + 13) 0 1 1 1)],.cells [.map (H.length + 7)],x1,.cells [iv 0,iv 1],x2,x3,.cells [iv 2],.loop [r0,r1,.ptr H.length 0 1,.ptr (H.length + 1) 0 1,.ptr (H.length + 2) 0 1,.ptr (H.length + 3) 0 1,r6,.ptr (H.length + 5) 0 1,.ptr (H.length + 6) 0 2,r9,r10,r11,r12,r13,r14,r15,r16,r17,r18,r19,r20,r21,r22,r23,r24,r25,r26,r27,r28,r29,r30,r31,r32,r33,r34,r35,r36,r37,r38,r39,r40,r41,r42,r43,r44,r45,r46,r47,r48,r49,r50,r51,r52,r53,r54,r55,r56,r57,r58,r59,r60,r61,r62,r63,r64,r65,r66] [28,29] q17.n4 q17.n5 true none,.cells [iv 0,iv 0]],true⟩ K:=by
  have hk1:100≤k:=by omega
  have hk2:100≤k - 1:=by omega
  refine YC_go (by simp -implicitDefEqProofs only [sw0,sw1,sw2,sw3,sw4,sw5,reduceCtorEq,Nat.reduceEqDiff,Nat.reduceAdd,Nat.reduceDiv,Nat.reduceLeDiff,dw0,Int.reduceAdd,Int.reduceSub,Int.reduceMul,Int.reduceLT,Int.reduceLE,Int.reduceNeg,Int.reduceEq,Int.reduceToNat,Nat.reduceLT,Nat.reduceMul,Nat.reduceSub,Nat.reduceBEq,Nat.reduceLeDiff,xw0,eApp,rowOf,appRow,lkL,lkN,eMupd,vLook,mapSh,findE,putE,keqL,hasSh,fits,shb,Int.reduceBEq,eMksl,vSlc,boundsOf,boundOf,cleanL,Nat.reduceGT,Int.reduceGT,Int.reduceGE,Int.reduceDiv,Int.reduceTDiv,vAidx,rdc]; rfl) rfl ?_
  simp -implicitDefEqProofs only [sw0,sw1,sw2,sw3,sw4,sw5,reduceCtorEq,Nat.reduceEqDiff,Nat.reduceAdd,Nat.reduceDiv,Nat.reduceLeDiff,dw0,Int.reduceAdd,Int.reduceSub,Int.reduceMul,Int.reduceLT,Int.reduceLE,Int.reduceNeg,Int.reduceEq,Int.reduceToNat,Nat.reduceLT,Nat.reduceMul,Nat.reduceSub,Nat.reduceBEq,Nat.reduceLeDiff,xw0,eApp,rowOf,appRow,lkL,lkN,eMupd,vLook,mapSh,findE,putE,keqL,hasSh,fits,shb,Int.reduceBEq,eMksl,vSlc,boundsOf,boundOf,cleanL,Nat.reduceGT,Int.reduceGT,Int.reduceGE,Int.reduceDiv,Int.reduceTDiv,vAidx,rdc,q17.n4_w,q17.n5_w,YK,Plan_u6]
  refine ⟨⟨_,_,_,_,rfl⟩,?_⟩
  rw [wl_1 (by omega)]
  simp -implicitDefEqProofs only [q17.n7_w,sw0,sw1,sw2,sw3,sw4,sw5,reduceCtorEq,Nat.reduceEqDiff,Nat.reduceAdd,Nat.reduceDiv,Nat.reduceLeDiff,dw0,Int.reduceAdd,Int.reduceSub,Int.reduceMul,Int.reduceLT,Int.reduceLE,Int.reduceNeg,Int.reduceEq,Int.reduceToNat,Nat.reduceLT,Nat.reduceMul,Nat.reduceSub,Nat.reduceBEq,Nat.reduceLeDiff,xw0,eApp,rowOf,appRow,lkL,lkN,eMupd,vLook,mapSh,findE,putE,keqL,hasSh,fits,shb,Int.reduceBEq,eMksl,vSlc,boundsOf,boundOf,cleanL,Nat.reduceGT,Int.reduceGT,Int.reduceGE,Int.reduceDiv,Int.reduceTDiv,vAidx,rdc,q17.n10_w,Plan_u11]
  rw [wl_1 (by omega)]
  simp -implicitDefEqProofs only [q17.n12_w,sw0,sw1,sw2,sw3,sw4,sw5,reduceCtorEq,Nat.reduceEqDiff,Nat.reduceAdd,Nat.reduceDiv,Nat.reduceLeDiff,dw0,Int.reduceAdd,Int.reduceSub,Int.reduceMul,Int.reduceLT,Int.reduceLE,Int.reduceNeg,Int.reduceEq,Int.reduceToNat,Nat.reduceLT,Nat.reduceMul,Nat.reduceSub,Nat.reduceBEq,Nat.reduceLeDiff,xw0,eApp,rowOf,appRow,lkL,lkN,eMupd,vLook,mapSh,findE,putE,keqL,hasSh,fits,shb,Int.reduceBEq,eMksl,vSlc,boundsOf,boundOf,cleanL,Nat.reduceGT,Int.reduceGT,Int.reduceGE,Int.reduceDiv,Int.reduceTDiv,vAidx,rdc,q17.n14_w]
  have h:=fun (K:AV→St→Prop) X (hK)=>take1 (k:=k - 1) (b:=none) (K:=K) (ver:=2) (R:=[iv 0]) (n:=0) (f:=.fn F_q18 [.ptr H.length 0 1]) hk2 rfl (H:=H ++ [.cells [vA],.cells [iv 1],.cells [.slice true 0 []],.cells [iv 0],.cells [iv 0,iv 0,iv 1],.cells [.sref (H.length + 4) 0 3 3 1]]) (L:=[.map shI 3 [(iv 0,.sref (H.length + 10) 0 2 2 1),(iv 1,.sref (H.length + 13) 0 1 1 1)],.cells [.map (H.length + 7)],x1,.cells [iv 0,iv 1],x2,x3,.cells [iv 2],X]) hK
  rw [show k - 1 + 1=k by omega] at h
  simp -implicitDefEqProofs only [sw0,sw1,sw2,sw3,sw4,sw5,reduceCtorEq,Nat.reduceEqDiff,Nat.reduceAdd,Nat.reduceDiv,Nat.reduceLeDiff,dw0,Int.reduceAdd,Int.reduceSub,Int.reduceMul,Int.reduceLT,Int.reduceLE,Int.reduceNeg,Int.reduceEq,Int.reduceToNat,Nat.reduceLT,Nat.reduceMul,Nat.reduceSub,Nat.reduceBEq,Nat.reduceLeDiff,xw0,eApp,rowOf,appRow,lkL,lkN,eMupd,vLook,mapSh,findE,putE,keqL,hasSh,fits,shb,Int.reduceBEq,eMksl,vSlc,boundsOf,boundOf,cleanL,Nat.reduceGT,Int.reduceGT,Int.reduceGE,Int.reduceDiv,Int.reduceTDiv,vAidx,rdc,Nat.add_assoc] at h
  refine h _ _ ?_
  clear h
  simp -implicitDefEqProofs only [sw0,sw1,sw2,sw3,sw4,sw5,reduceCtorEq,Nat.reduceEqDiff,Nat.reduceAdd,Nat.reduceDiv,Nat.reduceLeDiff,dw0,Int.reduceAdd,Int.reduceSub,Int.reduceMul,Int.reduceLT,Int.reduceLE,Int.reduceNeg,Int.reduceEq,Int.reduceToNat,Nat.reduceLT,Nat.reduceMul,Nat.reduceSub,Nat.reduceBEq,Nat.reduceLeDiff,xw0,eApp,rowOf,appRow,lkL,lkN,eMupd,vLook,mapSh,findE,putE,keqL,hasSh,fits,shb,Int.reduceBEq,eMksl,vSlc,boundsOf,boundOf,cleanL,Nat.reduceGT,Int.reduceGT,Int.reduceGE,Int.reduceDiv,Int.reduceTDiv,vAidx,rdc,q17.n16_w,q17.n17_w]
  rw [wl_1 (by omega)]
  simp -implicitDefEqProofs only [q17.n12_w,sw0,sw1,sw2,sw3,sw4,sw5,reduceCtorEq,Nat.reduceEqDiff,Nat.reduceAdd,Nat.reduceDiv,Nat.reduceLeDiff,dw0,Int.reduceAdd,Int.reduceSub,Int.reduceMul,Int.reduceLT,Int.reduceLE,Int.reduceNeg,Int.reduceEq,Int.reduceToNat,Nat.reduceLT,Nat.reduceMul,Nat.reduceSub,Nat.reduceBEq,Nat.reduceLeDiff,xw0,eApp,rowOf,appRow,lkL,lkN,eMupd,vLook,mapSh,findE,putE,keqL,hasSh,fits,shb,Int.reduceBEq,eMksl,vSlc,boundsOf,boundOf,cleanL,Nat.reduceGT,Int.reduceGT,Int.reduceGE,Int.reduceDiv,Int.reduceTDiv,vAidx,rdc,YK]
  exact hK
theorem yA3 (hk:1000≤k) {r0 r1 r6 r9 r10 r11 r12 r13 r14 r15 r16 r17 r18 r19 r20 r21 r22 r23 r24 r25 r26 r27 r28 r29 r30 r31 r32 r33 r34 r35 r36 r37 r38 r39 r40 r41 r42 r43 r44 r45 r46 r47 r48 r49 r50 r51 r52 r53 r54 r55 r56 r57 r58 r59 r60 r61 r62 r63 r64 r65 r66:AV} {x1 x2 x3:AObj} {t:Nat} (hK:K (.bool true) ⟨H ++ [.cells [vA],.cells [iv 1],.cells [.slice true 0 []],.cells [iv 0],.cells [iv 2,iv 0,iv 1],.cells [.sref (H.length + 4) 0 3 3 1],.cells [.slice false 1 [],.fn F_q18 [.ptr H.length 0 1]],.map shI 3 [(iv 0,.sref (H.length + 10) 0 2 2 1),(iv 1,.sref (H.length + 13) 0 1 1 1)],.cells [.map (H.length + 7)],x1,.cells [iv 0,iv 1],x2,x3,.cells [iv 2],.loop [r0,r1,.ptr H.length 0 1,.ptr (H.length + 1) 0 1,.ptr (H.length + 2) 0 1,.ptr (H.length + 3) 0 1,r6,.ptr (H.length + 5) 0 1,.ptr (H.length + 6) 0 2,r9,r10,r11,r12,r13,r14,r15,r16,r17,r18,r19,r20,r21,r22,r23,r24,r25,r26,r27,r28,r29,r30,r31,r32,r33,r34,r35,r36,r37,r38,r39,r40,r41,r42,r43,r44,r45,r46,r47,r48,r49,r50,r51,r52,r53,r54,r55,r56,r57,r58,r59,r60,r61,r62,r63,r64,r65,r66] [28,29] q17.n4 q17.n5 true none,.cells [iv 0,iv 0]],true⟩):YC ⟨prog,k + 1,b⟩ (H.length + 14) [iv t,.slice true 0 []] ⟨H ++ [.cells [vA],.cells [iv 1],.cells [.slice true 0 []],.cells [iv 0],.cells [iv 2,iv 0,iv 1],.cells [.sref (H.length + 4) 0 3 3 1],.cells [.slice false 1 [],.fn F_q18 [.ptr H.length 0 1]],.map shI 3 [(iv 0,.sref (H.length + 10) 0 2 2 1),(iv 1,.sref (H.length + 13) 0 1 1 1)],.cells [.map (H.length + 7)],x1,.cells [iv 0,iv 1],x2,x3,.cells [iv 2],.loop [r0,r1,.ptr H.length 0 1,.ptr (H.length + 1) 0 1,.ptr (H.length + 2) 0 1,.ptr (H.length + 3) 0 1,r6,.ptr (H.length + 5) 0 1,.ptr (H.length + 6) 0 2,r9,r10,r11,r12,r13,r14,r15,r16,r17,r18,r19,r20,r21,r22,r23,r24,r25,r26,r27,r28,r29,r30,r31,r32,r33,r34,r35,r36,r37,r38,r39,r40,r41,r42,r43,r44,r45,r46,r47,r48,r49,r50,r51,r52,r53,r54,r55,r56,r57,r58,r59,r60,r61,r62,r63,r64,r65,r66] [28,29] q17.n4 q17.n5 true none,.cells [iv 0,iv 0]],true⟩ K:=by
  have hk1:100≤k:=by omega
  have hk2:100≤k - 1:=by omega
  refine YC_go (by simp -implicitDefEqProofs only [sw0,sw1,sw2,sw3,sw4,sw5,reduceCtorEq,Nat.reduceEqDiff,Nat.reduceAdd,Nat.reduceDiv,Nat.reduceLeDiff,dw0,Int.reduceAdd,Int.reduceSub,Int.reduceMul,Int.reduceLT,Int.reduceLE,Int.reduceNeg,Int.reduceEq,Int.reduceToNat,Nat.reduceLT,Nat.reduceMul,Nat.reduceSub,Nat.reduceBEq,Nat.reduceLeDiff,xw0,eApp,rowOf,appRow,lkL,lkN,eMupd,vLook,mapSh,findE,putE,keqL,hasSh,fits,shb,Int.reduceBEq,eMksl,vSlc,boundsOf,boundOf,cleanL,Nat.reduceGT,Int.reduceGT,Int.reduceGE,Int.reduceDiv,Int.reduceTDiv,vAidx,rdc]; rfl) rfl ?_
  simp -implicitDefEqProofs only [sw0,sw1,sw2,sw3,sw4,sw5,reduceCtorEq,Nat.reduceEqDiff,Nat.reduceAdd,Nat.reduceDiv,Nat.reduceLeDiff,dw0,Int.reduceAdd,Int.reduceSub,Int.reduceMul,Int.reduceLT,Int.reduceLE,Int.reduceNeg,Int.reduceEq,Int.reduceToNat,Nat.reduceLT,Nat.reduceMul,Nat.reduceSub,Nat.reduceBEq,Nat.reduceLeDiff,xw0,eApp,rowOf,appRow,lkL,lkN,eMupd,vLook,mapSh,findE,putE,keqL,hasSh,fits,shb,Int.reduceBEq,eMksl,vSlc,boundsOf,boundOf,cleanL,Nat.reduceGT,Int.reduceGT,Int.reduceGE,Int.reduceDiv,Int.reduceTDiv,vAidx,rdc,q17.n4_w,q17.n5_w,YK,Plan_u6]
  refine ⟨⟨_,_,_,_,rfl⟩,?_⟩
  rw [wl_1 (by omega)]
  simp -implicitDefEqProofs only [q17.n7_w,sw0,sw1,sw2,sw3,sw4,sw5,reduceCtorEq,Nat.reduceEqDiff,Nat.reduceAdd,Nat.reduceDiv,Nat.reduceLeDiff,dw0,Int.reduceAdd,Int.reduceSub,Int.reduceMul,Int.reduceLT,Int.reduceLE,Int.reduceNeg,Int.reduceEq,Int.reduceToNat,Nat.reduceLT,Nat.reduceMul,Nat.reduceSub,Nat.reduceBEq,Nat.reduceLeDiff,xw0,eApp,rowOf,appRow,lkL,lkN,eMupd,vLook,mapSh,findE,putE,keqL,hasSh,fits,shb,Int.reduceBEq,eMksl,vSlc,boundsOf,boundOf,cleanL,Nat.reduceGT,Int.reduceGT,Int.reduceGE,Int.reduceDiv,Int.reduceTDiv,vAidx,rdc,q17.n10_w,Plan_u11]
  rw [wl_1 (by omega)]
  simp -implicitDefEqProofs only [q17.n12_w,sw0,sw1,sw2,sw3,sw4,sw5,reduceCtorEq,Nat.reduceEqDiff,Nat.reduceAdd,Nat.reduceDiv,Nat.reduceLeDiff,dw0,Int.reduceAdd,Int.reduceSub,Int.reduceMul,Int.reduceLT,Int.reduceLE,Int.reduceNeg,Int.reduceEq,Int.reduceToNat,Nat.reduceLT,Nat.reduceMul,Nat.reduceSub,Nat.reduceBEq,Nat.reduceLeDiff,xw0,eApp,rowOf,appRow,lkL,lkN,eMupd,vLook,mapSh,findE,putE,keqL,hasSh,fits,shb,Int.reduceBEq,eMksl,vSlc,boundsOf,boundOf,cleanL,Nat.reduceGT,Int.reduceGT,Int.reduceGE,Int.reduceDiv,Int.reduceTDiv,vAidx,rdc,YK]
  exact hK
theorem runA (hk:1000≤k) {r0 r1 r6 r9 r10 r11 r12 r13 r14 r15 r16 r17 r18 r19 r20 r21 r22 r23 r24 r25 r26 r27 r28 r29 r30 r31 r32 r33 r34 r35 r36 r37 r38 r39 r40 r41 r42 r43 r44 r45 r46 r47 r48 r49 r50 r51 r52 r53 r54 r55 r56 r57 r58 r59 r60 r61 r62 r63 r64 r65 r66:AV} {x1 x2 x3:AObj} (hK:K (.tup []) ⟨H ++ [.cells [vA],.cells [iv 1],.cells [.slice true 0 []],.cells [iv 0],.cells [iv 2,iv 0,iv 1],.cells [.sref (H.length + 4) 0 3 3 1],.cells [.slice false 1 [],.fn F_q18 [.ptr H.length 0 1]],.map shI 3 [(iv 0,.sref (H.length + 10) 0 2 2 1),(iv 1,.sref (H.length + 13) 0 1 1 1)],.cells [.map (H.length + 7)],x1,.cells [iv 0,iv 1],x2,x3,.cells [iv 2],.loop [r0,r1,.ptr H.length 0 1,.ptr (H.length + 1) 0 1,.ptr (H.length + 2) 0 1,.ptr (H.length + 3) 0 1,r6,.ptr (H.length + 5) 0 1,.ptr (H.length + 6) 0 2,r9,r10,r11,r12,r13,r14,r15,r16,r17,r18,r19,r20,r21,r22,r23,r24,r25,r26,r27,r28,r29,r30,r31,r32,r33,r34,r35,r36,r37,r38,r39,r40,r41,r42,r43,r44,r45,r46,r47,r48,r49,r50,r51,r52,r53,r54,r55,r56,r57,r58,r59,r60,r61,r62,r63,r64,r65,r66] [28,29] q17.n4 q17.n5 true none,.cells [iv 0,iv 0]],true⟩):VC ⟨prog,k + 2,b⟩ F_q42 [.yield (H.length + 14),.ptr (H.length + 8) 0 1] ⟨H ++ [.cells [vA],.cells [iv 1],.cells [.slice true 0 []],.cells [iv 0],.cells [iv 0,iv 0,iv 0],.cells [.sref (H.length + 4) 0 3 3 1],.cells [.slice true 0 [],.fn F_q18 [.ptr H.length 0 1]],.map shI 3 [(iv 0,.sref (H.length + 10) 0 2 2 1),(iv 1,.sref (H.length + 13) 0 1 1 1)],.cells [.map (H.length + 7)],x1,.cells [iv 0,iv 1],x2,x3,.cells [iv 2],.loop [r0,r1,.ptr H.length 0 1,.ptr (H.length + 1) 0 1,.ptr (H.length + 2) 0 1,.ptr (H.length + 3) 0 1,r6,.ptr (H.length + 5) 0 1,.ptr (H.length + 6) 0 2,r9,r10,r11,r12,r13,r14,r15,r16,r17,r18,r19,r20,r21,r22,r23,r24,r25,r26,r27,r28,r29,r30,r31,r32,r33,r34,r35,r36,r37,r38,r39,r40,r41,r42,r43,r44,r45,r46,r47,r48,r49,r50,r51,r52,r53,r54,r55,r56,r57,r58,r59,r60,r61,r62,r63,r64,r65,r66] [28,29] q17.n4 q17.n5 true none],lk⟩ K:=by
  refine slots_1_s (k:=k + 1) (J:=fun t s=>(t=0∧∃ lk,s=⟨H ++ [.cells [vA],.cells [iv 1],.cells [.slice true 0 []],.cells [iv 0],.cells [iv 0,iv 0,iv 0],.cells [.sref (H.length + 4) 0 3 3 1],.cells [.slice true 0 [],.fn F_q18 [.ptr H.length 0 1]],.map shI 3 [(iv 0,.sref (H.length + 10) 0 2 2 1),(iv 1,.sref (H.length + 13) 0 1 1 1)],.cells [.map (H.length + 7)],x1,.cells [iv 0,iv 1],x2,x3,.cells [iv 2],.loop [r0,r1,.ptr H.length 0 1,.ptr (H.length + 1) 0 1,.ptr (H.length + 2) 0 1,.ptr (H.length + 3) 0 1,r6,.ptr (H.length + 5) 0 1,.ptr (H.length + 6) 0 2,r9,r10,r11,r12,r13,r14,r15,r16,r17,r18,r19,r20,r21,r22,r23,r24,r25,r26,r27,r28,r29,r30,r31,r32,r33,r34,r35,r36,r37,r38,r39,r40,r41,r42,r43,r44,r45,r46,r47,r48,r49,r50,r51,r52,r53,r54,r55,r56,r57,r58,r59,r60,r61,r62,r63,r64,r65,r66] [28,29] q17.n4 q17.n5 true none],lk⟩)∨(t=1∧s=⟨H ++ [.cells [vA],.cells [iv 1],.cells [.slice true 0 []],.cells [iv 0],.cells [iv 0,iv 0,iv 0],.cells [.sref (H.length + 4) 0 3 3 1],.cells [.sref (H.length + 15) 0 1 2 1,.fn F_q18 [.ptr H.length 0 1]],.map shI 3 [(iv 0,.sref (H.length + 10) 0 2 2 1),(iv 1,.sref (H.length + 13) 0 1 1 1)],.cells [.map (H.length + 7)],x1,.cells [iv 0,iv 1],x2,x3,.cells [iv 2],.loop [r0,r1,.ptr H.length 0 1,.ptr (H.length + 1) 0 1,.ptr (H.length + 2) 0 1,.ptr (H.length + 3) 0 1,r6,.ptr (H.length + 5) 0 1,.ptr (H.length + 6) 0 2,r9,r10,r11,r12,r13,r14,r15,r16,r17,r18,r19,r20,r21,r22,r23,r24,r25,r26,r27,r28,r29,r30,r31,r32,r33,r34,r35,r36,r37,r38,r39,r40,r41,r42,r43,r44,r45,r46,r47,r48,r49,r50,r51,r52,r53,r54,r55,r56,r57,r58,r59,r60,r61,r62,r63,r64,r65,r66] [28,29] q17.n4 q17.n5 true none,.cells [iv 0,iv 0]],true⟩)∨(t=2∧s=⟨H ++ [.cells [vA],.cells [iv 1],.cells [.slice true 0 []],.cells [iv 0],.cells [iv 0,iv 0,iv 1],.cells [.sref (H.length + 4) 0 3 3 1],.cells [.sref (H.length + 15) 0 1 2 1,.fn F_q18 [.ptr H.length 0 1]],.map shI 3 [(iv 0,.sref (H.length + 10) 0 2 2 1),(iv 1,.sref (H.length + 13) 0 1 1 1)],.cells [.map (H.length + 7)],x1,.cells [iv 0,iv 1],x2,x3,.cells [iv 2],.loop [r0,r1,.ptr H.length 0 1,.ptr (H.length + 1) 0 1,.ptr (H.length + 2) 0 1,.ptr (H.length + 3) 0 1,r6,.ptr (H.length + 5) 0 1,.ptr (H.length + 6) 0 2,r9,r10,r11,r12,r13,r14,r15,r16,r17,r18,r19,r20,r21,r22,r23,r24,r25,r26,r27,r28,r29,r30,r31,r32,r33,r34,r35,r36,r37,r38,r39,r40,r41,r42,r43,r44,r45,r46,r47,r48,r49,r50,r51,r52,r53,r54,r55,r56,r57,r58,r59,r60,r61,r62,r63,r64,r65,r66] [28,29] q17.n4 q17.n5 true none,.cells [iv 0,iv 0]],true⟩)∨(3≤t∧s=⟨H ++ [.cells [vA],.cells [iv 1],.cells [.slice true 0 []],.cells [iv 0],.cells [iv 2,iv 0,iv 1],.cells [.sref (H.length + 4) 0 3 3 1],.cells [.slice false 1 [],.fn F_q18 [.ptr H.length 0 1]],.map shI 3 [(iv 0,.sref (H.length + 10) 0 2 2 1),(iv 1,.sref (H.length + 13) 0 1 1 1)],.cells [.map (H.length + 7)],x1,.cells [iv 0,iv 1],x2,x3,.cells [iv 2],.loop [r0,r1,.ptr H.length 0 1,.ptr (H.length + 1) 0 1,.ptr (H.length + 2) 0 1,.ptr (H.length + 3) 0 1,r6,.ptr (H.length + 5) 0 1,.ptr (H.length + 6) 0 2,r9,r10,r11,r12,r13,r14,r15,r16,r17,r18,r19,r20,r21,r22,r23,r24,r25,r26,r27,r28,r29,r30,r31,r32,r33,r34,r35,r36,r37,r38,r39,r40,r41,r42,r43,r44,r45,r46,r47,r48,r49,r50,r51,r52,r53,r54,r55,r56,r57,r58,r59,r60,r61,r62,r63,r64,r65,r66] [28,29] q17.n4 q17.n5 true none,.cells [iv 0,iv 0]],true⟩)) (R:=fun s=>s=⟨H ++ [.cells [vA],.cells [iv 1],.cells [.slice true 0 []],.cells [iv 0],.cells [iv 2,iv 0,iv 1],.cells [.sref (H.length + 4) 0 3 3 1],.cells [.slice false 1 [],.fn F_q18 [.ptr H.length 0 1]],.map shI 3 [(iv 0,.sref (H.length + 10) 0 2 2 1),(iv 1,.sref (H.length + 13) 0 1 1 1)],.cells [.map (H.length + 7)],x1,.cells [iv 0,iv 1],x2,x3,.cells [iv 2],.loop [r0,r1,.ptr H.length 0 1,.ptr (H.length + 1) 0 1,.ptr (H.length + 2) 0 1,.ptr (H.length + 3) 0 1,r6,.ptr (H.length + 5) 0 1,.ptr (H.length + 6) 0 2,r9,r10,r11,r12,r13,r14,r15,r16,r17,r18,r19,r20,r21,r22,r23,r24,r25,r26,r27,r28,r29,r30,r31,r32,r33,r34,r35,r36,r37,r38,r39,r40,r41,r42,r43,r44,r45,r46,r47,r48,r49,r50,r51,r52,r53,r54,r55,r56,r57,r58,r59,r60,r61,r62,r63,r64,r65,r66] [28,29] q17.n4 q17.n5 true none,.cells [iv 0,iv 0]],true⟩) (by omega) ?_ (.inl ⟨rfl,_,rfl⟩) (fun s h=>by rcases h with ⟨h,_⟩ | ⟨h,_⟩ | ⟨h,_⟩ | ⟨_,h⟩ <;> first | omega | exact h) (fun s h=>by subst h; exact ⟨rfl,hK⟩)
  rintro t s ht (⟨rfl,lk',rfl⟩ | ⟨rfl,rfl⟩ | ⟨rfl,rfl⟩ | ⟨h3,rfl⟩)
  · refine ⟨.map (H.length + 7),.sref (H.length + 10) 0 2 2 1,by simp -implicitDefEqProofs only [sw0,sw1,sw2,sw3,sw4,sw5,reduceCtorEq,Nat.reduceEqDiff,Nat.reduceAdd,Nat.reduceDiv,Nat.reduceLeDiff,dw0,Int.reduceAdd,Int.reduceSub,Int.reduceMul,Int.reduceLT,Int.reduceLE,Int.reduceNeg,Int.reduceEq,Int.reduceToNat,Nat.reduceLT,Nat.reduceMul,Nat.reduceSub,Nat.reduceBEq,Nat.reduceLeDiff,xw0,eApp,rowOf,appRow,lkL,lkN,eMupd,vLook,mapSh,findE,putE,keqL,hasSh,fits,shb,Int.reduceBEq,eMksl,vSlc,boundsOf,boundOf,cleanL,Nat.reduceGT,Int.reduceGT,Int.reduceGE,Int.reduceDiv,Int.reduceTDiv,vAidx,rdc],by simp -implicitDefEqProofs only [sw0,sw1,sw2,sw3,sw4,sw5,reduceCtorEq,Nat.reduceEqDiff,Nat.reduceAdd,Nat.reduceDiv,Nat.reduceLeDiff,dw0,Int.reduceAdd,Int.reduceSub,Int.reduceMul,Int.reduceLT,Int.reduceLE,Int.reduceNeg,Int.reduceEq,Int.reduceToNat,Nat.reduceLT,Nat.reduceMul,Nat.reduceSub,Nat.reduceBEq,Nat.reduceLeDiff,xw0,eApp,rowOf,appRow,lkL,lkN,eMupd,vLook,mapSh,findE,putE,keqL,hasSh,fits,shb,Int.reduceBEq,eMksl,vSlc,boundsOf,boundOf,cleanL,Nat.reduceGT,Int.reduceGT,Int.reduceGE,Int.reduceDiv,Int.reduceTDiv,vAidx,rdc],fun b=>yA0 hk ?_⟩
    exact .inl ⟨rfl,.inr (.inl ⟨rfl,rfl⟩)⟩
  · refine ⟨.map (H.length + 7),.sref (H.length + 13) 0 1 1 1,by simp -implicitDefEqProofs only [sw0,sw1,sw2,sw3,sw4,sw5,reduceCtorEq,Nat.reduceEqDiff,Nat.reduceAdd,Nat.reduceDiv,Nat.reduceLeDiff,dw0,Int.reduceAdd,Int.reduceSub,Int.reduceMul,Int.reduceLT,Int.reduceLE,Int.reduceNeg,Int.reduceEq,Int.reduceToNat,Nat.reduceLT,Nat.reduceMul,Nat.reduceSub,Nat.reduceBEq,Nat.reduceLeDiff,xw0,eApp,rowOf,appRow,lkL,lkN,eMupd,vLook,mapSh,findE,putE,keqL,hasSh,fits,shb,Int.reduceBEq,eMksl,vSlc,boundsOf,boundOf,cleanL,Nat.reduceGT,Int.reduceGT,Int.reduceGE,Int.reduceDiv,Int.reduceTDiv,vAidx,rdc],by simp -implicitDefEqProofs only [sw0,sw1,sw2,sw3,sw4,sw5,reduceCtorEq,Nat.reduceEqDiff,Nat.reduceAdd,Nat.reduceDiv,Nat.reduceLeDiff,dw0,Int.reduceAdd,Int.reduceSub,Int.reduceMul,Int.reduceLT,Int.reduceLE,Int.reduceNeg,Int.reduceEq,Int.reduceToNat,Nat.reduceLT,Nat.reduceMul,Nat.reduceSub,Nat.reduceBEq,Nat.reduceLeDiff,xw0,eApp,rowOf,appRow,lkL,lkN,eMupd,vLook,mapSh,findE,putE,keqL,hasSh,fits,shb,Int.reduceBEq,eMksl,vSlc,boundsOf,boundOf,cleanL,Nat.reduceGT,Int.reduceGT,Int.reduceGE,Int.reduceDiv,Int.reduceTDiv,vAidx,rdc],fun b=>yA1 hk ?_⟩
    exact .inl ⟨rfl,.inr (.inr (.inl ⟨rfl,rfl⟩))⟩
  · refine ⟨.map (H.length + 7),.slice true 0 [],by simp -implicitDefEqProofs only [sw0,sw1,sw2,sw3,sw4,sw5,reduceCtorEq,Nat.reduceEqDiff,Nat.reduceAdd,Nat.reduceDiv,Nat.reduceLeDiff,dw0,Int.reduceAdd,Int.reduceSub,Int.reduceMul,Int.reduceLT,Int.reduceLE,Int.reduceNeg,Int.reduceEq,Int.reduceToNat,Nat.reduceLT,Nat.reduceMul,Nat.reduceSub,Nat.reduceBEq,Nat.reduceLeDiff,xw0,eApp,rowOf,appRow,lkL,lkN,eMupd,vLook,mapSh,findE,putE,keqL,hasSh,fits,shb,Int.reduceBEq,eMksl,vSlc,boundsOf,boundOf,cleanL,Nat.reduceGT,Int.reduceGT,Int.reduceGE,Int.reduceDiv,Int.reduceTDiv,vAidx,rdc],by simp -implicitDefEqProofs only [sw0,sw1,sw2,sw3,sw4,sw5,reduceCtorEq,Nat.reduceEqDiff,Nat.reduceAdd,Nat.reduceDiv,Nat.reduceLeDiff,dw0,Int.reduceAdd,Int.reduceSub,Int.reduceMul,Int.reduceLT,Int.reduceLE,Int.reduceNeg,Int.reduceEq,Int.reduceToNat,Nat.reduceLT,Nat.reduceMul,Nat.reduceSub,Nat.reduceBEq,Nat.reduceLeDiff,xw0,eApp,rowOf,appRow,lkL,lkN,eMupd,vLook,mapSh,findE,putE,keqL,hasSh,fits,shb,Int.reduceBEq,eMksl,vSlc,boundsOf,boundOf,cleanL,Nat.reduceGT,Int.reduceGT,Int.reduceGE,Int.reduceDiv,Int.reduceTDiv,vAidx,rdc],fun b=>yA2 hk ?_⟩
    exact .inl ⟨rfl,.inr (.inr (.inr ⟨by omega,rfl⟩))⟩
  · have e0:((t:Int) == 0)=false:=by simp; omega
    have e1:((t:Int) == 1)=false:=by simp; omega
    refine ⟨.map (H.length + 7),.slice true 0 [],by simp -implicitDefEqProofs only [sw0,sw1,sw2,sw3,sw4,sw5,reduceCtorEq,Nat.reduceEqDiff,Nat.reduceAdd,Nat.reduceDiv,Nat.reduceLeDiff,dw0,Int.reduceAdd,Int.reduceSub,Int.reduceMul,Int.reduceLT,Int.reduceLE,Int.reduceNeg,Int.reduceEq,Int.reduceToNat,Nat.reduceLT,Nat.reduceMul,Nat.reduceSub,Nat.reduceBEq,Nat.reduceLeDiff,xw0,eApp,rowOf,appRow,lkL,lkN,eMupd,vLook,mapSh,findE,putE,keqL,hasSh,fits,shb,Int.reduceBEq,eMksl,vSlc,boundsOf,boundOf,cleanL,Nat.reduceGT,Int.reduceGT,Int.reduceGE,Int.reduceDiv,Int.reduceTDiv,vAidx,rdc],by simp -implicitDefEqProofs only [sw0,sw1,sw2,sw3,sw4,sw5,reduceCtorEq,Nat.reduceEqDiff,Nat.reduceAdd,Nat.reduceDiv,Nat.reduceLeDiff,dw0,Int.reduceAdd,Int.reduceSub,Int.reduceMul,Int.reduceLT,Int.reduceLE,Int.reduceNeg,Int.reduceEq,Int.reduceToNat,Nat.reduceLT,Nat.reduceMul,Nat.reduceSub,Nat.reduceBEq,Nat.reduceLeDiff,xw0,eApp,rowOf,appRow,lkL,lkN,eMupd,vLook,mapSh,findE,putE,keqL,hasSh,fits,shb,Int.reduceBEq,eMksl,vSlc,boundsOf,boundOf,cleanL,Nat.reduceGT,Int.reduceGT,Int.reduceGE,Int.reduceDiv,Int.reduceTDiv,vAidx,rdc,e0,e1],fun b=>yA3 hk ?_⟩
    exact .inl ⟨rfl,.inr (.inr (.inr ⟨by omega,rfl⟩))⟩
theorem slotsA (hk:200≤k) (hK:K (.fn F_q42 [.ptr (H.length + 1) 0 1]) ⟨H ++ [.map shI 3 [(iv 0,.sref (H.length + 3) 0 2 2 1),(iv 1,.sref (H.length + 6) 0 1 1 1)],.cells [.map H.length],.cells [iv 0,iv 0,iv 3],.cells [iv 0,iv 1],.cells [iv 1,iv 0,iv 2],.cells [iv 2,iv 1,iv 2],.cells [iv 2]],false⟩):VC ⟨prog,k + 1,b⟩ F_q41 [vA] ⟨H,false⟩ K:=by
  apply q41.enter
  have hu:AV.under H.length (AV.fn F_q42 [AV.ptr (H.length + 1) 0 1])=false:=by simp [AV.under,underL]
  simp -implicitDefEqProofs only [q41.n0_w,sw0,sw1,sw2,sw3,sw4,sw5,reduceCtorEq,Nat.reduceEqDiff,Nat.reduceAdd,Nat.reduceDiv,Nat.reduceLeDiff,dw0,Int.reduceAdd,Int.reduceSub,Int.reduceMul,Int.reduceLT,Int.reduceLE,Int.reduceNeg,Int.reduceEq,Int.reduceToNat,Nat.reduceLT,Nat.reduceMul,Nat.reduceSub,Nat.reduceBEq,Nat.reduceLeDiff,xw0,eApp,rowOf,appRow,lkL,lkN,eMupd,vLook,mapSh,findE,putE,keqL,hasSh,fits,shb,Int.reduceBEq,eMksl,vSlc,boundsOf,boundOf,cleanL,Nat.reduceGT,Int.reduceGT,Int.reduceGE,Int.reduceDiv,Int.reduceTDiv,vAidx,rdc,slots_u1]
  rw [wl_1 (by omega)]
  simp -implicitDefEqProofs only [q41.n2_w,sw0,sw1,sw2,sw3,sw4,sw5,reduceCtorEq,Nat.reduceEqDiff,Nat.reduceAdd,Nat.reduceDiv,Nat.reduceLeDiff,dw0,Int.reduceAdd,Int.reduceSub,Int.reduceMul,Int.reduceLT,Int.reduceLE,Int.reduceNeg,Int.reduceEq,Int.reduceToNat,Nat.reduceLT,Nat.reduceMul,Nat.reduceSub,Nat.reduceBEq,Nat.reduceLeDiff,xw0,eApp,rowOf,appRow,lkL,lkN,eMupd,vLook,mapSh,findE,putE,keqL,hasSh,fits,shb,Int.reduceBEq,eMksl,vSlc,boundsOf,boundOf,cleanL,Nat.reduceGT,Int.reduceGT,Int.reduceGE,Int.reduceDiv,Int.reduceTDiv,vAidx,rdc,q41.n4_w]
  rw [wl_1 (by omega)]
  simp -implicitDefEqProofs only [q41.n2_w,sw0,sw1,sw2,sw3,sw4,sw5,reduceCtorEq,Nat.reduceEqDiff,Nat.reduceAdd,Nat.reduceDiv,Nat.reduceLeDiff,dw0,Int.reduceAdd,Int.reduceSub,Int.reduceMul,Int.reduceLT,Int.reduceLE,Int.reduceNeg,Int.reduceEq,Int.reduceToNat,Nat.reduceLT,Nat.reduceMul,Nat.reduceSub,Nat.reduceBEq,Nat.reduceLeDiff,xw0,eApp,rowOf,appRow,lkL,lkN,eMupd,vLook,mapSh,findE,putE,keqL,hasSh,fits,shb,Int.reduceBEq,eMksl,vSlc,boundsOf,boundOf,cleanL,Nat.reduceGT,Int.reduceGT,Int.reduceGE,Int.reduceDiv,Int.reduceTDiv,vAidx,rdc,q41.n4_w]
  rw [wl_1 (by omega)]
  simp -implicitDefEqProofs only [q41.n2_w,sw0,sw1,sw2,sw3,sw4,sw5,reduceCtorEq,Nat.reduceEqDiff,Nat.reduceAdd,Nat.reduceDiv,Nat.reduceLeDiff,dw0,Int.reduceAdd,Int.reduceSub,Int.reduceMul,Int.reduceLT,Int.reduceLE,Int.reduceNeg,Int.reduceEq,Int.reduceToNat,Nat.reduceLT,Nat.reduceMul,Nat.reduceSub,Nat.reduceBEq,Nat.reduceLeDiff,xw0,eApp,rowOf,appRow,lkL,lkN,eMupd,vLook,mapSh,findE,putE,keqL,hasSh,fits,shb,Int.reduceBEq,eMksl,vSlc,boundsOf,boundOf,cleanL,Nat.reduceGT,Int.reduceGT,Int.reduceGE,Int.reduceDiv,Int.reduceTDiv,vAidx,rdc,q41.n4_w]
  rw [wl_1 (by omega)]
  simp -implicitDefEqProofs only [q41.n2_w,sw0,sw1,sw2,sw3,sw4,sw5,reduceCtorEq,Nat.reduceEqDiff,Nat.reduceAdd,Nat.reduceDiv,Nat.reduceLeDiff,dw0,Int.reduceAdd,Int.reduceSub,Int.reduceMul,Int.reduceLT,Int.reduceLE,Int.reduceNeg,Int.reduceEq,Int.reduceToNat,Nat.reduceLT,Nat.reduceMul,Nat.reduceSub,Nat.reduceBEq,Nat.reduceLeDiff,xw0,eApp,rowOf,appRow,lkL,lkN,eMupd,vLook,mapSh,findE,putE,keqL,hasSh,fits,shb,Int.reduceBEq,eMksl,vSlc,boundsOf,boundOf,cleanL,Nat.reduceGT,Int.reduceGT,Int.reduceGE,Int.reduceDiv,Int.reduceTDiv,vAidx,rdc,q41.n5_w,q41.ret,hu]
  exact hK
theorem PlanA (hk:3000≤k) (hK:∀ L n,SI (H ++ L) n [2,0,1]→K (.tup [n,iv 0]) ⟨H ++ L,true⟩):VC ⟨prog,k,b⟩ F_q17 [vA,iv 1] ⟨H,lk⟩ K:=by
  obtain ⟨k,rfl⟩:∃ j,k=j + 1:=⟨k - 1,by omega⟩
  apply q17.enter
  have hjb:(decide (jA.length≤200) && jA.all jobOk)=true:=by decide
  have h11:((1:Int)≤1∧(1:Int)≤8)=True:=by simp
  have hask:=fun (H':List AObj) (K:AV→St→Prop)=>asked_s (K:=K) (k:=k) (b:=some H.length) (lk:=false) (by omega) (H:=H') vA_sl (c:=1) (by decide)
  simp -implicitDefEqProofs only [hjb,if_true,h11] at hask
  have hmk:∀ (H':List AObj),eMksl ⟨H',false⟩ 1 8 [iv 0] (iv 3) (iv 3)=some (.sref H'.length 0 3 (3 * 1) 1,⟨H' ++ [.cells [iv 0,iv 0,iv 0]],false⟩):=fun H'=>by simp [eMksl,push]
  simp -implicitDefEqProofs only [q17.n0_w,sw0,sw1,sw2,sw3,sw4,sw5,reduceCtorEq,Nat.reduceEqDiff,Nat.reduceAdd,Nat.reduceDiv,Nat.reduceLeDiff,dw0,Int.reduceAdd,Int.reduceSub,Int.reduceMul,Int.reduceLT,Int.reduceLE,Int.reduceNeg,Int.reduceEq,Int.reduceToNat,Nat.reduceLT,Nat.reduceMul,Nat.reduceSub,Nat.reduceBEq,Nat.reduceLeDiff,hask,q17.n2_w,hmk]
  obtain ⟨k1,hk1⟩:∃ j,k=j + 1:=⟨k - 1,by omega⟩
  have hsl:=fun (H':List AObj) (K:AV→St→Prop) (b:Option Nat) (hK)=>@slotsA k1 b H' K (by omega) hK
  rw [← hk1] at hsl
  refine hsl _ _ _ ?_
  simp -implicitDefEqProofs only [sw0,sw1,sw2,sw3,sw4,sw5,reduceCtorEq,Nat.reduceEqDiff,Nat.reduceAdd,Nat.reduceDiv,Nat.reduceLeDiff,dw0,Int.reduceAdd,Int.reduceSub,Int.reduceMul,Int.reduceLT,Int.reduceLE,Int.reduceNeg,Int.reduceEq,Int.reduceToNat,Nat.reduceLT,Nat.reduceMul,Nat.reduceSub,Nat.reduceBEq,Nat.reduceLeDiff,xw0,eApp,rowOf,appRow,lkL,lkN,eMupd,vLook,mapSh,findE,putE,keqL,hasSh,fits,shb,Int.reduceBEq,eMksl,vSlc,boundsOf,boundOf,cleanL,Nat.reduceGT,Int.reduceGT,Int.reduceGE,Int.reduceDiv,Int.reduceTDiv,vAidx,rdc]
  refine WC_rf (f:=F_q42) (caps:=[.ptr (H.length + 8) 0 1]) rfl ?_
  obtain ⟨k',hk'⟩:∃ j,k=j + 2:=⟨k - 2,by omega⟩
  simp -implicitDefEqProofs only [sw0,sw1,sw2,sw3,sw4,sw5,reduceCtorEq,Nat.reduceEqDiff,Nat.reduceAdd,Nat.reduceDiv,Nat.reduceLeDiff,dw0,Int.reduceAdd,Int.reduceSub,Int.reduceMul,Int.reduceLT,Int.reduceLE,Int.reduceNeg,Int.reduceEq,Int.reduceToNat,Nat.reduceLT,Nat.reduceMul,Nat.reduceSub,Nat.reduceBEq,Nat.reduceLeDiff,xw0,eApp,rowOf,appRow,lkL,lkN,eMupd,vLook,mapSh,findE,putE,keqL,hasSh,fits,shb,Int.reduceBEq,eMksl,vSlc,boundsOf,boundOf,cleanL,Nat.reduceGT,Int.reduceGT,Int.reduceGE,Int.reduceDiv,Int.reduceTDiv,vAidx,rdc]
  have hrun:=fun (K:AV→St→Prop) (b:Option Nat)=>@runA k' b H false K (by omega)
  rw [← hk'] at hrun
  refine hrun _ _ ?_
  simp -implicitDefEqProofs only [RF,sw0,sw1,sw2,sw3,sw4,sw5,reduceCtorEq,Nat.reduceEqDiff,Nat.reduceAdd,Nat.reduceDiv,Nat.reduceLeDiff,dw0,Int.reduceAdd,Int.reduceSub,Int.reduceMul,Int.reduceLT,Int.reduceLE,Int.reduceNeg,Int.reduceEq,Int.reduceToNat,Nat.reduceLT,Nat.reduceMul,Nat.reduceSub,Nat.reduceBEq,Nat.reduceLeDiff,xw0,eApp,rowOf,appRow,lkL,lkN,eMupd,vLook,mapSh,findE,putE,keqL,hasSh,fits,shb,Int.reduceBEq,eMksl,vSlc,boundsOf,boundOf,cleanL,Nat.reduceGT,Int.reduceGT,Int.reduceGE,Int.reduceDiv,Int.reduceTDiv,vAidx,rdc,q17.n18_w,q17.n20_w]
  simp -implicitDefEqProofs only [RK_r,q17.res,resultsOf,resultOf,sw0,sw1,sw2,sw3,sw4,sw5,reduceCtorEq,Nat.reduceEqDiff,Nat.reduceAdd,Nat.reduceDiv,Nat.reduceLeDiff,dw0,Int.reduceAdd,Int.reduceSub,Int.reduceMul,Int.reduceLT,Int.reduceLE,Int.reduceNeg,Int.reduceEq,Int.reduceToNat,Nat.reduceLT,Nat.reduceMul,Nat.reduceSub,Nat.reduceBEq,Nat.reduceLeDiff,xw0,eApp,rowOf,appRow,lkL,lkN,eMupd,vLook,mapSh,findE,putE,keqL,hasSh,fits,shb,Int.reduceBEq,eMksl,vSlc,boundsOf,boundOf,cleanL,Nat.reduceGT,Int.reduceGT,Int.reduceGE,Int.reduceDiv,Int.reduceTDiv,vAidx,rdc]
  refine hK _ _ ⟨Nat.one_pos,ic_len,.inr ⟨H.length + 4,0,3,[iv 2,iv 0,iv 1],rfl,by simp -implicitDefEqProofs only [sw0,sw1,sw2,sw3,sw4,sw5,reduceCtorEq,Nat.reduceEqDiff,Nat.reduceAdd,Nat.reduceDiv,Nat.reduceLeDiff,dw0,Int.reduceAdd,Int.reduceSub,Int.reduceMul,Int.reduceLT,Int.reduceLE,Int.reduceNeg,Int.reduceEq,Int.reduceToNat,Nat.reduceLT,Nat.reduceMul,Nat.reduceSub,Nat.reduceBEq,Nat.reduceLeDiff,xw0,eApp,rowOf,appRow,lkL,lkN,eMupd,vLook,mapSh,findE,putE,keqL,hasSh,fits,shb,Int.reduceBEq,eMksl,vSlc,boundsOf,boundOf,cleanL,Nat.reduceGT,Int.reduceGT,Int.reduceGE,Int.reduceDiv,Int.reduceTDiv,vAidx,rdc],rfl⟩⟩
end Go.Proofs.YtcebebhaahpoiaaDoor
end
section
namespace Go.Proofs.YtcebebhaahpoiaaDoor
open Go Go.Ai Go.W
attribute [local irreducible] VC YC WC
set_option linter.unusedSimpArgs false
set_option linter.unusedVariables false
set_option maxRecDepth 10000
variable {k:Nat} {b:Option Nat} {H:List AObj} {lk:Bool} {K:AV→St→Prop}
theorem eqs_kc {p q:Int × Int}:vEqs true (.sh (.mk true [.int .i64,.int .i64])) (.agg (kc p)) (.agg (kc q))=some (.bool (!decide (p=q))):=by
  show vEqs true (.sh (.mk true [.int .i64,.int .i64])) (ev2 p) (ev2 q)=_
  simp -implicitDefEqProofs only [vEqs,evEq,key_iv2.sh,key_iv2.keq,Bool.and_self,if_true,Option.bind_some]
theorem SamePairs_s (hk:1005≤k) {v w:AV} {xs ys:List (Int × Int)} (hs:Sl H 2 kc v xs) (ht:Sl H 2 kc w ys) (hl:xs.length≤1000):VC ⟨prog,k,b⟩ F_q49 [v,w] ⟨H,lk⟩ K=K (.bool (decide (xs=ys))) ⟨H,lk⟩:=by
  obtain ⟨k,rfl⟩:∃ j,k=j + 1:=⟨k - 1,by omega⟩
  apply VC_iff
  apply q49.enter
  simp -implicitDefEqProofs only [q49.n0_w,sw0,sw1,sw2,sw3,sw4,sw5,reduceCtorEq,Nat.reduceEqDiff,Nat.reduceAdd,Nat.reduceDiv,Nat.reduceLeDiff,hs.len,ht.len]
  split
  · rename_i hne
    have:xs ≠ ys:=fun e=>hne (by rw [e])
    simp -implicitDefEqProofs only [q49.n1_w,sw0,sw1,sw2,sw3,sw4,sw5,reduceCtorEq,Nat.reduceEqDiff,Nat.reduceAdd,Nat.reduceDiv,Nat.reduceLeDiff,q49.ret,decide_eq_false this]
  · rename_i heq
    have hlen:xs.length=ys.length:=by omega
    simp -implicitDefEqProofs only [q49.n2_w,sw0,sw1,sw2,sw3,sw4,sw5,reduceCtorEq,Nat.reduceEqDiff,Nat.reduceAdd,Nat.reduceDiv,Nat.reduceLeDiff]
    refine q49.n3_l (fun m r3 s=>∃ i:Nat,r3=iv i∧s=⟨H,false⟩∧m=xs.length - i∧i≤xs.length∧∀ j (h:j < xs.length) (h':j < ys.length),j < i→xs[j]=ys[j]) xs.length (by simp -implicitDefEqProofs only []; omega) ⟨0,rfl,rfl,by omega,by omega,fun j _ _ h=>by omega⟩ ?_
    rintro m r2 r3 r4 r5 s ⟨i,rfl,rfl,rfl,hi,hno⟩
    simp -implicitDefEqProofs only [q49.n4_w,sw0,sw1,sw2,sw3,sw4,sw5,reduceCtorEq,Nat.reduceEqDiff,Nat.reduceAdd,Nat.reduceDiv,Nat.reduceLeDiff,hs.len]
    split
    · rename_i hlt
      have hlt:i < xs.length:=by omega
      have hlt':i < ys.length:=by omega
      simp -implicitDefEqProofs only [q49.n6_w,sw0,sw1,sw2,sw3,sw4,sw5,reduceCtorEq,Nat.reduceEqDiff,Nat.reduceAdd,Nat.reduceDiv,Nat.reduceLeDiff,hs.at,ht.at,hlt,hlt',hs.lda hlt,ht.lda hlt',eqs_kc]
      split
      · rename_i hne
        have:xs ≠ ys:=fun e=>hne (by subst e; rfl)
        simp -implicitDefEqProofs only [q49.n7_w,sw0,sw1,sw2,sw3,sw4,sw5,reduceCtorEq,Nat.reduceEqDiff,Nat.reduceAdd,Nat.reduceDiv,Nat.reduceLeDiff,q49.ret,decide_eq_false this]
      · rename_i he
        simp -implicitDefEqProofs only [q49.n8_w,sw0,sw1,sw2,sw3,sw4,sw5,reduceCtorEq,Nat.reduceEqDiff,Nat.reduceAdd,Nat.reduceDiv,Nat.reduceLeDiff]
        refine q49.n3_go (m':=xs.length - (i + 1)) (by omega) ⟨i + 1,by rw [wrap64 (by omega)]; rfl,rfl,rfl,by omega,?_⟩
        intro j h h' hj
        by_cases hji:j=i
        · subst hji; simpa using he
        · exact hno j h h' (by omega)
    · rename_i hge
      have:xs=ys:=List.ext_getElem hlen fun j h h'=>hno j h h' (by omega)
      simp -implicitDefEqProofs only [q49.n9_w,sw0,sw1,sw2,sw3,sw4,sw5,reduceCtorEq,Nat.reduceEqDiff,Nat.reduceAdd,Nat.reduceDiv,Nat.reduceLeDiff,q49.ret,decide_eq_true this]
def plA:Plt:={ heat:=5,low:=0,high:=10,loads:=[4,4,4],prices:=[1,3,1],machs:=[⟨6,2,1⟩] }
abbrev csA:List AV:=[iv 5,iv 0,iv 10,.slice true 1 [[iv 4],[iv 4],[iv 4]],.slice true 1 [[iv 1],[iv 3],[iv 1]],.slice true 3 [[iv 6,iv 2,iv 1]]]
theorem plA_pv:PV H csA plA:=⟨_,_,_,rfl,Sl.lit Nat.one_pos ic_len rfl,Sl.lit Nat.one_pos ic_len rfl,Sl.lit (by omega) (fun _=>rfl) rfl⟩
theorem plA_cool:plA.cool=[.slice false 1 [[iv 1],[iv 0],[iv 1]],iv 6,iv 0]:=by rfl
theorem plA_sched:plA.sched [1,0,1]=true:=by rfl
def msA:List (Int × Int):=[(0,0),(10,0),(11,0),(1,0)]
theorem msA_ans:matchAns msA=[.slice false 2 [[iv 0,iv 3],[iv 1,iv 2]],iv 2,iv 0]:=by rfl
theorem nxA:nextAns 2 [(.slice true 1 [[iv 0],[iv 1]],[0,1])]=[.slice false 1 [[iv 1],[iv 0]],iv 0]:=by rfl
theorem awake_s (hk:16 ^ 53≤k) (hK:∀ s,K (.bool true) s):VC ⟨prog,k,b⟩ F_q2 [] ⟨H,lk⟩ K:=by
  have e53:(16:Nat) ^ 53=6582018229284824168619876730229402019930943462534319453394436096:=by decide
  have e52:(16:Nat) ^ 52=411376139330301510538742295639337626245683966408394965837152256:=by decide
  obtain ⟨k,rfl⟩:∃ j,k=j + 1:=⟨k - 1,by omega⟩
  apply q2.enter
  have hp:PV (H ++ [.cells csA]) csA plA:=plA_pv
  have hcool:=fun (K:AV→St→Prop)=>Cool_s (K:=K) (k:=k) (b:=some H.length) (lk:=false) (by omega) hp (by decide)
  rw [plA_cool] at hcool
  have hS:SI (H ++ [.cells csA]) (.slice true 1 [[iv 1],[iv 0],[iv 1]]) [1,0,1]:=Sl.lit Nat.one_pos ic_len rfl
  have hheats:=fun (K:AV→St→Prop)=>Heats_s (K:=K) (k:=k) (b:=some H.length) (lk:=false) (by omega) hp hS (by decide) (by decide)
  have e1:heatsFrom plA 0 plA.heat [1,0,1]=[3,7,5]:=by rfl
  rw [if_pos plA_sched,e1] at hheats
  simp -implicitDefEqProofs only [List.map_cons,List.map_nil,ic] at hheats
  simp -implicitDefEqProofs only [q2.n0_w,sw0,sw1,sw2,sw3,sw4,sw5,reduceCtorEq,Nat.reduceEqDiff,Nat.reduceAdd,Nat.reduceDiv,Nat.reduceLeDiff,hcool,hheats]
  refine PlanA (by omega) ?_
  intro L n hn
  simp -implicitDefEqProofs only [sw0,sw1,sw2,sw3,sw4,sw5,reduceCtorEq,Nat.reduceEqDiff,Nat.reduceAdd,Nat.reduceDiv,Nat.reduceLeDiff]
  refine PlanB (by omega) ?_
  intro L2
  simp -implicitDefEqProofs only [sw0,sw1,sw2,sw3,sw4,sw5,reduceCtorEq,Nat.reduceEqDiff,Nat.reduceAdd,Nat.reduceDiv,Nat.reduceLeDiff,CrowdB (k:=k) (by omega)]
  obtain ⟨G,hG⟩:∃ G,G=H ++ AObj.cells csA :: (L ++ L2):=⟨_,rfl⟩
  have hn':SI G n [2,0,1]:=by
    have:=hn.app (L:=L2)
    rw [hG]
    simpa using this
  rw [← hG]
  have hm:=fun (K:AV→St→Prop)=>Match_s (K:=K) (k:=k) (b:=some H.length) (lk:=true) (H:=G) (by omega) (show Sl G 2 kc (.slice true 2 [[iv 0,iv 0],[iv 10,iv 0],[iv 11,iv 0],[iv 1,iv 0]]) msA from Sl.lit (by omega) kc_len rfl) (by decide)
  rw [msA_ans] at hm
  have hx:=fun (K:AV→St→Prop)=>Next_s (K:=K) (k:=k) (b:=some H.length) (lk:=true) (H:=G) (n:=2) (by omega) (show RD G (.slice true 1 [[.slice true 1 [[iv 0],[iv 1]]]]) [(.slice true 1 [[iv 0],[iv 1]],[0,1])] from ⟨Sl.lit Nat.one_pos rc_len rfl,fun q hq=>by simp -implicitDefEqProofs only [List.mem_singleton] at hq; subst hq; exact Sl.lit Nat.one_pos ic_len rfl⟩) (by decide) (by decide)
  rw [nxA] at hx
  have hI:∀ {v w:AV} {xs:List Int},SI G v xs→SI G w xs→xs.length≤1000→∀ (K:AV→St→Prop),VC ⟨prog,k,some H.length⟩ F_q45 [v,w] ⟨G,true⟩ K=K (.bool true) ⟨G,true⟩:=fun h1 h2 h3 K=>by
    rw [r02_Ints_s (k:=k) (by omega) h1 h2 h3,decide_eq_true rfl]
  have hV:∀ (f:Bool) (xs:List Int),SI G (.slice f 1 (xs.map ic)) xs:=fun f xs=>Sl.val Nat.one_pos ic_len
  have i1:=hI (hV false [1,0,1]) (hV true [1,0,1]) (by decide)
  have i2:=hI (hV false [3,7,5]) (hV true [3,7,5]) (by decide)
  have i3:=hI hn' (hV true [2,0,1]) (by decide)
  have i4:=hI (hV false [1,0]) (hV true [1,0]) (by decide)
  have hsp:=fun (K:AV→St→Prop)=>SamePairs_s (K:=K) (k:=k) (b:=some H.length) (lk:=true) (H:=G) (v:=.slice false 2 [[iv 0,iv 3],[iv 1,iv 2]]) (w:=.slice true 2 [[iv 0,iv 3],[iv 1,iv 2]]) (xs:=[(0,3),(1,2)]) (ys:=[(0,3),(1,2)]) (by omega) (Sl.lit (by omega) kc_len rfl) (Sl.lit (by omega) kc_len rfl) (by decide)
  rw [decide_eq_true rfl] at hsp
  simp -implicitDefEqProofs only [List.map_cons,List.map_nil,ic] at i1 i2 i3 i4
  simp -implicitDefEqProofs only [sw0,sw1,sw2,sw3,sw4,sw5,reduceCtorEq,Nat.reduceEqDiff,Nat.reduceAdd,Nat.reduceDiv,Nat.reduceLeDiff,hm,hx,i1,i2,i3,i4,hsp,q2.ret,lv_t]
  exact hK _
end Go.Proofs.YtcebebhaahpoiaaDoor
end
section
namespace Go.Proofs.YtcebebhaahpoiaaDoor
open Go Go.Ai Go.W
attribute [local irreducible] VC YC WC
set_option linter.unusedSimpArgs false
set_option linter.unusedVariables false
set_option maxRecDepth 10000
variable {k:Nat} {b:Option Nat} {H:List AObj} {lk:Bool} {K:AV→St→Prop}
theorem eqs_b {s t:Bool}:vEqs false .bool (.bool s) (.bool t)=some (.bool (s == t)):=by rfl
end Go.Proofs.YtcebebhaahpoiaaDoor
end
section
namespace Go.Proofs.YtcebebhaahpoiaaDoor
open Go Go.Ai Go.W
attribute [local irreducible] VC YC WC
set_option linter.unusedVariables false
set_option maxRecDepth 100000
theorem c3:Tryd.prog.cellsOf 3=1:=by kernel_rfl
theorem wt_ints {d:Nat} {es:List (List AV)} (h:∀ l,l ∈ es→l.length=Tryd.prog.cellsOf 3∧Wt Tryd.prog (d + 1) 3 l):∃ xs:List Int,es=xs.map ic:=by
  induction es with
  | nil=>exact ⟨[],rfl⟩
  | cons e es ih =>
    obtain ⟨xs,rfl⟩:=ih fun l hl=>h l (by simp [hl])
    have h1:=(h e (by simp)).2
    unfold Wt at h1
    rw [Tryd.underlying3] at h1
    obtain ⟨n,rfl,_⟩:=h1
    exact ⟨n :: xs,rfl⟩
theorem wt_22 {d:Nat} {xs:List AV} (h:Wt Tryd.prog (d + 2) 22 xs):∃ l:List Int,xs=[.slice false 1 (l.map ic)]:=by
  unfold Wt at h
  rw [Tryd.underlying22] at h
  obtain ⟨es,rfl,_,h2⟩:=h
  obtain ⟨l,rfl⟩:=wt_ints h2
  exact ⟨l,by rw [c3]⟩
theorem c22:Tryd.prog.cellsOf 22=1:=by kernel_rfl
end Go.Proofs.YtcebebhaahpoiaaDoor
end
section
namespace Go.Proofs.YtcebebhaahpoiaaDoor
open Go Go.Ai Go.W
attribute [local irreducible] VC YC WC
set_option linter.unusedSimpArgs false
set_option linter.unusedVariables false
set_option maxRecDepth 10000
variable {k:Nat} {b:Option Nat} {H:List AObj} {lk:Bool} {K:AV→St→Prop}
theorem PV.set {H:List AObj} {cs:List AV} {p:Plt} (h:PV H cs p) {c:Nat} {o:AObj} (hc:∀ cs,H[c]? ≠ some (AObj.cells cs)):PV (H.set c o) cs p:=by
  obtain ⟨vl,vp,vm,e,h1,h2,h3⟩:=h.how
  exact ⟨vl,vp,vm,e,slset h1 hc,slset h2 hc,slset h3 hc⟩
end Go.Proofs.YtcebebhaahpoiaaDoor
end
section
namespace Go.Proofs.YtcebebhaahpoiaaDoor
open Go Go.Ai Go.W
attribute [local irreducible] VC YC WC
set_option linter.unusedSimpArgs false
set_option linter.unusedVariables false
set_option maxRecDepth 10000
variable {k:Nat} {b:Option Nat} {H:List AObj} {lk:Bool} {K:AV→St→Prop}
end Go.Proofs.YtcebebhaahpoiaaDoor
end
section
namespace Go.Proofs.YtcebebhaahpoiaaDoor
open Go Go.Ai Go.W
attribute [local irreducible] VC YC WC
set_option linter.unusedSimpArgs false
set_option linter.unusedVariables false
set_option maxRecDepth 10000
variable {k:Nat} {b:Option Nat} {H:List AObj} {lk:Bool} {K:AV→St→Prop}
end Go.Proofs.YtcebebhaahpoiaaDoor
end
section
namespace Go.Proofs.YtcebebhaahpoiaaDoor
open Go Go.Ai Go.W
attribute [local irreducible] VC YC WC
set_option linter.unusedSimpArgs false
set_option linter.unusedVariables false
set_option maxRecDepth 10000
variable {k:Nat} {b:Option Nat} {H:List AObj} {lk:Bool} {K:AV→St→Prop}
end Go.Proofs.YtcebebhaahpoiaaDoor
end
section
namespace Go.Proofs.YtcebebhaahpoiaaDoor
open Go Go.Ai Go.W
attribute [local irreducible] VC YC WC
set_option linter.unusedSimpArgs false
set_option linter.unusedVariables false
set_option maxRecDepth 10000
variable {k:Nat} {b:Option Nat} {H:List AObj} {lk:Bool} {K:AV→St→Prop}
end Go.Proofs.YtcebebhaahpoiaaDoor
end
section
namespace Go.Proofs.YtcebebhaahpoiaaDoor
open Go Go.Ai Go.W
attribute [local irreducible] VC YC WC
set_option linter.unusedVariables false
set_option linter.unusedSimpArgs false
set_option maxRecDepth 100000
def i64 (n:Int):Prop:=-9223372036854775808≤n∧n≤9223372036854775807
theorem wt_intr {d:Nat} {xs:List AV} (h:Wt Tryd.prog (d + 1) 3 xs):∃ n,xs=[iv n]∧i64 n:=by
  unfold Wt at h
  rw [Tryd.underlying3] at h
  obtain ⟨n,rfl,h1,h2⟩:=h
  exact ⟨n,rfl,h1,h2⟩
theorem arg_int {x:AV} (h:Arg Tryd.prog 8 3 x):∃ n,x=iv n∧i64 n:=by
  obtain ⟨h1,_,h3⟩:=h
  obtain ⟨n,hn,hr⟩:=wt_intr (d:=7) h1
  refine ⟨n,?_,hr⟩
  have a3:isAggT Tryd.prog 3=some false:=by kernel_rfl
  cases x <;> first | exact absurd rfl (h3 a3 _) | exact (List.cons.inj hn).1
theorem wt_list {α:Type} {d:Nat} {t:TypeId} {n:Nat} {f:α→List AV} {P:α→Prop} (hc:Tryd.prog.cellsOf t=n) (h1:∀ xs,xs.length=n→Wt Tryd.prog d t xs→∃ a,xs=f a∧P a):∀ {es:List (List AV)},(∀ l,l ∈ es→l.length=Tryd.prog.cellsOf t∧Wt Tryd.prog d t l)→∃ ys:List α,es=ys.map f∧∀ a,a ∈ ys→P a
  | [],_=>⟨[],rfl,fun a h=>by cases h⟩
  | e :: es,h=>by
    obtain ⟨ys,rfl,ha⟩:=wt_list hc h1 (es:=es) fun l hl=>h l (by simp [hl])
    obtain ⟨h2,h3⟩:=h e (by simp)
    rw [hc] at h2
    obtain ⟨a,rfl,hp⟩:=h1 e h2 h3
    exact ⟨a :: ys,rfl,fun x hx=>by rcases List.mem_cons.1 hx with rfl | h; exact hp; exact ha _ h⟩
theorem arg_of_slice {x:AV} {t:TypeId} {d:Nat} {z:Nat} {es:List (List AV)} (ha:isAggT Tryd.prog t=some false) (h:Arg Tryd.prog d t x) (he:x.cells=[.slice false z es]):x=.slice false z es:=by
  obtain ⟨_,_,h3⟩:=h
  cases x <;> first | exact absurd rfl (h3 ha _) | exact (List.cons.inj he).1
variable {k:Nat} {b:Option Nat} {H:List AObj} {lk:Bool} {K:AV→St→Prop}
end Go.Proofs.YtcebebhaahpoiaaDoor
end
section
namespace Go.Proofs.YtcebebhaahpoiaaDoor
open Go Go.Ai Go.W
attribute [local irreducible] VC YC WC
set_option linter.unusedSimpArgs false
set_option linter.unusedVariables false
set_option maxRecDepth 10000
variable {k:Nat} {b:Option Nat} {H:List AObj} {lk:Bool} {K:AV→St→Prop}
theorem has_s (hk:500≤k) {v:AV} {l:List Int} {x:Int} (hs:SI H v l) (hl:l.length≤400):VC ⟨prog,k,b⟩ F_q52 [v,iv x] ⟨H,lk⟩ K=K (.bool (decide (x ∈ l))) ⟨H,lk⟩:=by
  obtain ⟨k,rfl⟩:∃ j,k=j + 1:=⟨k - 1,by omega⟩
  apply VC_iff
  apply q52.enter
  simp -implicitDefEqProofs only [q52.n0_w,sw0,sw1,sw2,sw3,sw4,sw5,reduceCtorEq,Nat.reduceEqDiff,Nat.reduceAdd,Nat.reduceDiv,Nat.reduceLeDiff]
  refine q52.n1_l (fun m r3 s=>∃ i:Nat,r3=iv i∧s=⟨H,false⟩∧m=l.length - i∧i≤l.length∧x ∉ l.take i) l.length (by simp -implicitDefEqProofs only []; omega) ⟨0,rfl,rfl,by omega,by omega,by simp⟩ ?_
  rintro m r2 r3 r4 s ⟨i,rfl,rfl,hm,hi,hno⟩
  simp -implicitDefEqProofs only [q52.n2_w,sw0,sw1,sw2,sw3,sw4,sw5,reduceCtorEq,Nat.reduceEqDiff,Nat.reduceAdd,Nat.reduceDiv,Nat.reduceLeDiff,hs.len]
  split
  · rename_i hlt
    have hlt:i < l.length:=by omega
    simp -implicitDefEqProofs only [q52.n4_w,sw0,sw1,sw2,sw3,sw4,sw5,reduceCtorEq,Nat.reduceEqDiff,Nat.reduceAdd,Nat.reduceDiv,Nat.reduceLeDiff,hs.at',hlt,hs.ld hlt (show 0 < 1 by omega),ic]
    by_cases e:l[i]=x
    · have hx:x ∈ l:=by rw [← e]; exact List.getElem_mem hlt
      simp -implicitDefEqProofs only [eq_true e,sw0,sw1,sw2,sw3,sw4,sw5,reduceCtorEq,Nat.reduceEqDiff,Nat.reduceAdd,Nat.reduceDiv,Nat.reduceLeDiff,q52.n5_w,q52.ret,hx]
    · simp -implicitDefEqProofs only [eq_false e,sw0,sw1,sw2,sw3,sw4,sw5,reduceCtorEq,Nat.reduceEqDiff,Nat.reduceAdd,Nat.reduceDiv,Nat.reduceLeDiff,q52.n6_w]
      rw [wrap64 (by omega)]
      refine q52.n1_go (m':=l.length - (i + 1)) (by omega) ⟨i + 1,rfl,rfl,rfl,by omega,?_⟩
      rw [← List.take_append_getElem hlt]
      simp -implicitDefEqProofs only [List.mem_append,List.mem_singleton,not_or]
      exact ⟨hno,fun h=>e h.symm⟩
  · have hie:i=l.length:=by omega
    subst hie
    rw [List.take_length] at hno
    simp -implicitDefEqProofs only [q52.n7_w,sw0,sw1,sw2,sw3,sw4,sw5,reduceCtorEq,Nat.reduceEqDiff,Nat.reduceAdd,Nat.reduceDiv,Nat.reduceLeDiff,q52.ret,hno]
theorem Round_s (hk:600≤k) {v:AV} {l:List Int} {n:Int} (hs:SI H v l) (hl:l.length≤400) (hn:1≤n∧n≤8):VC ⟨prog,k,b⟩ F_q48 [iv n,v] ⟨H,lk⟩ K=K (.bool (rnd n l)) ⟨H,lk⟩:=by
  obtain ⟨k,rfl⟩:∃ j,k=j + 1:=⟨k - 1,by omega⟩
  apply VC_iff
  apply q48.enter
  simp -implicitDefEqProofs only [q48.n0_w,sw0,sw1,sw2,sw3,sw4,sw5,reduceCtorEq,Nat.reduceEqDiff,Nat.reduceAdd,Nat.reduceDiv,Nat.reduceLeDiff]
  refine q48.n1_l (fun m r3 s=>∃ i:Nat,r3=iv i∧s=⟨H,false⟩∧m=l.length - i∧i≤l.length∧(∀ x,x ∈ l.take i→0≤x∧x≤n - 1)∧(l.take i).Nodup) l.length (by simp -implicitDefEqProofs only []; omega) ⟨0,rfl,rfl,by omega,by omega,by simp,by simp⟩ ?_
  rintro m r2 r3 r4 r5 r6 s ⟨i,rfl,rfl,hm,hi,hno,hnd⟩
  simp -implicitDefEqProofs only [q48.n2_w,sw0,sw1,sw2,sw3,sw4,sw5,reduceCtorEq,Nat.reduceEqDiff,Nat.reduceAdd,Nat.reduceDiv,Nat.reduceLeDiff,hs.len]
  split
  · rename_i hlt
    have hlt:i < l.length:=by omega
    have hw:=wrap64 (n:=n - 1) (by omega)
    simp -implicitDefEqProofs only [q48.n4_w,sw0,sw1,sw2,sw3,sw4,sw5,reduceCtorEq,Nat.reduceEqDiff,Nat.reduceAdd,Nat.reduceDiv,Nat.reduceLeDiff,hs.at',hlt,hs.ld hlt (show 0 < 1 by omega),ic,hw,r12_in_s (k:=k) (by omega)]
    by_cases c1:0≤l[i]∧l[i]≤n - 1
    · simp -implicitDefEqProofs only [eq_true c1,sw0,sw1,sw2,sw3,sw4,sw5,reduceCtorEq,Nat.reduceEqDiff,Nat.reduceAdd,Nat.reduceDiv,Nat.reduceLeDiff,q48.n6_w]
      refine q48.n7_l (fun m r4 s=>∃ j:Nat,r4=iv j∧s=⟨H,false⟩∧m=i - j∧j≤i∧l[i] ∉ l.take j) i (by simp -implicitDefEqProofs only []; omega) ⟨0,rfl,rfl,by omega,by omega,by simp⟩ ?_
      rintro m r2 r4 r5 r6 s ⟨j,rfl,rfl,hm2,hj,hnj⟩
      simp -implicitDefEqProofs only [q48.n8_w,sw0,sw1,sw2,sw3,sw4,sw5,reduceCtorEq,Nat.reduceEqDiff,Nat.reduceAdd,Nat.reduceDiv,Nat.reduceLeDiff]
      split
      · rename_i hji
        have hji:j < i:=by omega
        have hjl:j < l.length:=by omega
        simp -implicitDefEqProofs only [q48.n10_w,sw0,sw1,sw2,sw3,sw4,sw5,reduceCtorEq,Nat.reduceEqDiff,Nat.reduceAdd,Nat.reduceDiv,Nat.reduceLeDiff,hs.at',hlt,hjl,hs.ld hlt (show 0 < 1 by omega),hs.ld hjl (show 0 < 1 by omega),ic]
        by_cases e:l[j]=l[i]
        · have hbad:rnd n l=false:=by
            unfold rnd
            refine decide_eq_false fun h=>?_
            exact (List.pairwise_iff_getElem.1 h.2.1) j i hjl hlt hji e
          simp -implicitDefEqProofs only [eq_true e,sw0,sw1,sw2,sw3,sw4,sw5,reduceCtorEq,Nat.reduceEqDiff,Nat.reduceAdd,Nat.reduceDiv,Nat.reduceLeDiff,q48.n11_w,q48.ret,hbad]
        · simp -implicitDefEqProofs only [eq_false e,sw0,sw1,sw2,sw3,sw4,sw5,reduceCtorEq,Nat.reduceEqDiff,Nat.reduceAdd,Nat.reduceDiv,Nat.reduceLeDiff,q48.n12_w]
          rw [wrap64 (by omega)]
          refine q48.n7_go (m':=i - (j + 1)) (by omega) ⟨j + 1,rfl,rfl,rfl,by omega,?_⟩
          rw [← List.take_append_getElem hjl]
          simp -implicitDefEqProofs only [List.mem_append,List.mem_singleton,not_or]
          exact ⟨hnj,fun h=>e h.symm⟩
      · have hje:j=i:=by omega
        subst hje
        simp -implicitDefEqProofs only [q48.n13_w,sw0,sw1,sw2,sw3,sw4,sw5,reduceCtorEq,Nat.reduceEqDiff,Nat.reduceAdd,Nat.reduceDiv,Nat.reduceLeDiff]
        rw [wrap64 (by omega)]
        refine q48.n1_go (m':=l.length - (j + 1)) (by omega) ⟨j + 1,rfl,rfl,rfl,by omega,?_,?_⟩
        · rw [← List.take_append_getElem hlt]
          intro x hx
          rcases List.mem_append.1 hx with h | h
          · exact hno x h
          · simp -implicitDefEqProofs only [List.mem_singleton] at h; subst h; exact c1
        · rw [← List.take_append_getElem hlt,List.nodup_append]
          refine ⟨hnd,by simp,fun a ha b hb=>?_⟩
          simp -implicitDefEqProofs only [List.mem_singleton] at hb
          subst hb
          rintro rfl
          exact hnj ha
    · have hbad:rnd n l=false:=by
        unfold rnd
        exact decide_eq_false fun h=>c1 (h.1 _ (List.getElem_mem hlt))
      simp -implicitDefEqProofs only [eq_false c1,sw0,sw1,sw2,sw3,sw4,sw5,reduceCtorEq,Nat.reduceEqDiff,Nat.reduceAdd,Nat.reduceDiv,Nat.reduceLeDiff,q48.n5_w,q48.ret,hbad]
  · have hie:i=l.length:=by omega
    subst hie
    rw [List.take_length] at hno hnd
    have:rnd n l=decide ((l.length:Int)=n):=by
      unfold rnd
      refine decide_eq_decide.2 ⟨fun h=>h.2.2,fun h=>⟨hno,hnd,h⟩⟩
    simp -implicitDefEqProofs only [q48.n14_w,sw0,sw1,sw2,sw3,sw4,sw5,reduceCtorEq,Nat.reduceEqDiff,Nat.reduceAdd,Nat.reduceDiv,Nat.reduceLeDiff,hs.len,q48.ret,this]
theorem r12_CheckRotation_s (hk:1200≤k) {v:AV} {n:Int} {rs:List (AV × List Int)} (hs:RD H v rs) (hl:rs.length≤1000) (hw:∀ q,q ∈ rs→q.2.length≤400) :
    VC ⟨prog,k,b⟩ F_q46 [iv n,v] ⟨H,lk⟩ K=K (.bool (rot n rs)) ⟨H,lk⟩:=by
  obtain ⟨k,rfl⟩:∃ j,k=j + 1:=⟨k - 1,by omega⟩
  apply VC_iff
  apply q46.enter
  by_cases c1:1≤n∧n≤8
  · by_cases c2:(100:Int) < rs.length
    · have hno:rot n rs=false:=by unfold rot; rw [decide_eq_false (show ¬ rs.length≤100 by omega)]; simp
      simp -implicitDefEqProofs only [q46.n0_w,sw0,sw1,sw2,sw3,sw4,sw5,reduceCtorEq,Nat.reduceEqDiff,Nat.reduceAdd,Nat.reduceDiv,Nat.reduceLeDiff,r12_in_s (k:=k) (by omega),eq_true c1,hs.sl.len,eq_true c2,q46.n1_w,q46.ret,hno,gO_u]
    · have hyes:rot n rs=rs.all (fun q=>rnd n q.2):=by
        unfold rot; rw [decide_eq_true c1,decide_eq_true (show rs.length≤100 by omega)]; simp
      simp -implicitDefEqProofs only [q46.n0_w,sw0,sw1,sw2,sw3,sw4,sw5,reduceCtorEq,Nat.reduceEqDiff,Nat.reduceAdd,Nat.reduceDiv,Nat.reduceLeDiff,r12_in_s (k:=k) (by omega),eq_true c1,hs.sl.len,eq_false c2,q46.n2_w,gO_u]
      refine q46.n3_l (fun m r3 s=>∃ i:Nat,r3=iv i∧s=⟨H,false⟩∧m=rs.length - i∧i≤rs.length∧∀ j (h:j < rs.length),j < i→rnd n rs[j].2=true) rs.length (by simp -implicitDefEqProofs only []; omega) ⟨0,rfl,rfl,by omega,by omega,fun j _ h=>by omega⟩ ?_
      rintro m r2 r3 r4 s ⟨i,rfl,rfl,hm,hi,hno⟩
      simp -implicitDefEqProofs only [q46.n4_w,sw0,sw1,sw2,sw3,sw4,sw5,reduceCtorEq,Nat.reduceEqDiff,Nat.reduceAdd,Nat.reduceDiv,Nat.reduceLeDiff,hs.sl.len]
      split
      · rename_i hlt
        have hlt:i < rs.length:=by omega
        have hmem:=List.getElem_mem hlt
        simp -implicitDefEqProofs only [q46.n6_w,sw0,sw1,sw2,sw3,sw4,sw5,reduceCtorEq,Nat.reduceEqDiff,Nat.reduceAdd,Nat.reduceDiv,Nat.reduceLeDiff,hs.sl.at',hlt,hs.sl.ld hlt (show 0 < 1 by omega),rc,Round_s (k:=k) (by omega) (hs.row _ hmem) (hw _ hmem) c1]
        cases hr:rnd n rs[i].2
        · have:rot n rs=false:=by rw [hyes,List.all_eq_false]; exact ⟨_,hmem,by rw [hr]; simp⟩
          simp -implicitDefEqProofs only [sw0,sw1,sw2,sw3,sw4,sw5,reduceCtorEq,Nat.reduceEqDiff,Nat.reduceAdd,Nat.reduceDiv,Nat.reduceLeDiff,q46.n7_w,q46.ret,this]
        · simp -implicitDefEqProofs only [sw0,sw1,sw2,sw3,sw4,sw5,reduceCtorEq,Nat.reduceEqDiff,Nat.reduceAdd,Nat.reduceDiv,Nat.reduceLeDiff,q46.n8_w]
          rw [wrap64 (by omega)]
          refine q46.n3_go (m':=rs.length - (i + 1)) (by omega) ⟨i + 1,rfl,rfl,rfl,by omega,fun j h hj=>?_⟩
          rcases Nat.lt_or_ge j i with h1 | h1
          · exact hno j h h1
          · have:j=i:=by omega
            subst this
            exact hr
      · have hie:i=rs.length:=by omega
        have:rot n rs=true:=by
          rw [hyes,List.all_eq_true]
          intro q hq
          obtain ⟨j,hj,rfl⟩:=List.getElem_of_mem hq
          exact hno j hj (by omega)
        simp -implicitDefEqProofs only [q46.n9_w,sw0,sw1,sw2,sw3,sw4,sw5,reduceCtorEq,Nat.reduceEqDiff,Nat.reduceAdd,Nat.reduceDiv,Nat.reduceLeDiff,q46.ret,this]
  · have hno:rot n rs=false:=by unfold rot; rw [decide_eq_false c1]; simp
    simp -implicitDefEqProofs only [q46.n0_w,sw0,sw1,sw2,sw3,sw4,sw5,reduceCtorEq,Nat.reduceEqDiff,Nat.reduceAdd,Nat.reduceDiv,Nat.reduceLeDiff,r12_in_s (k:=k) (by omega),eq_false c1,q46.n1_w,q46.ret,hno,gO_u]
theorem Used_s (hk:1100≤k) {v:AV} {rs:List (AV × List Int)} {s x:Nat} (hs:RD H v rs) (hl:rs.length≤1000) (hw:∀ q,q ∈ rs→s < q.2.length) :
    VC ⟨prog,k,b⟩ F_q50 [v,iv s,iv x] ⟨H,lk⟩ K=K (iv (cnt rs s x)) ⟨H,lk⟩:=by
  obtain ⟨k,rfl⟩:∃ j,k=j + 1:=⟨k - 1,by omega⟩
  apply VC_iff
  apply q50.enter
  simp -implicitDefEqProofs only [q50.n0_w,sw0,sw1,sw2,sw3,sw4,sw5,reduceCtorEq,Nat.reduceEqDiff,Nat.reduceAdd,Nat.reduceDiv,Nat.reduceLeDiff]
  refine q50.n1_l (fun m r4 r5 t=>∃ i:Nat,r5=iv i∧r4=iv (cnt (rs.take i) s x)∧t=⟨H,false⟩∧m=rs.length - i∧i≤rs.length) rs.length (by simp -implicitDefEqProofs only []; omega) ⟨0,rfl,rfl,rfl,by omega,by omega⟩ ?_
  rintro m r4 r5 r6 t ⟨i,rfl,rfl,rfl,hm,hi⟩
  simp -implicitDefEqProofs only [q50.n2_w,sw0,sw1,sw2,sw3,sw4,sw5,reduceCtorEq,Nat.reduceEqDiff,Nat.reduceAdd,Nat.reduceDiv,Nat.reduceLeDiff,hs.sl.len]
  split
  · rename_i hlt
    have hlt:i < rs.length:=by omega
    have hmem:=List.getElem_mem hlt
    have hsl:=hw _ hmem
    have hrow:=hs.row _ hmem
    have hct:cnt (rs.take (i + 1)) s x=cnt (rs.take i) s x + if rs[i].2[s]=(x:Int) then 1 else 0:=by
      unfold cnt
      rw [← List.take_append_getElem hlt,List.countP_append,List.countP_singleton,List.getElem?_eq_getElem hsl]
      simp -implicitDefEqProofs only [Option.some.injEq,decide_eq_true_eq]
      split <;> simp
    have hcl:=@cnt_le (rs.take i) s x
    have hcl2:(rs.take i).length≤rs.length:=by rw [List.length_take]; omega
    simp -implicitDefEqProofs only [q50.n4_w,sw0,sw1,sw2,sw3,sw4,sw5,reduceCtorEq,Nat.reduceEqDiff,Nat.reduceAdd,Nat.reduceDiv,Nat.reduceLeDiff,hs.sl.at',hlt,hs.sl.ld hlt (show 0 < 1 by omega),rc,hrow.at',hsl,hrow.ld hsl (show 0 < 1 by omega),ic]
    by_cases e:rs[i].2[s]=(x:Int)
    · rw [if_pos e] at hct
      simp -implicitDefEqProofs only [eq_true e,sw0,sw1,sw2,sw3,sw4,sw5,reduceCtorEq,Nat.reduceEqDiff,Nat.reduceAdd,Nat.reduceDiv,Nat.reduceLeDiff,q50.n5_w,q50.n6_w]
      rw [wrap64 (n:=(i:Int) + 1) (by omega),wrap64 (n:=cnt (rs.take i) s x + 1) (by omega)]
      exact q50.n1_go (m':=rs.length - (i + 1)) (by omega) ⟨i + 1,rfl,by rw [hct],rfl,rfl,by omega⟩
    · rw [if_neg e,Int.add_zero] at hct
      simp -implicitDefEqProofs only [eq_false e,sw0,sw1,sw2,sw3,sw4,sw5,reduceCtorEq,Nat.reduceEqDiff,Nat.reduceAdd,Nat.reduceDiv,Nat.reduceLeDiff,q50.n6_w]
      rw [wrap64 (n:=(i:Int) + 1) (by omega)]
      exact q50.n1_go (m':=rs.length - (i + 1)) (by omega) ⟨i + 1,rfl,by rw [hct],rfl,rfl,by omega⟩
  · have hie:i=rs.length:=by omega
    subst hie
    rw [List.take_length]
    simp -implicitDefEqProofs only [q50.n7_w,sw0,sw1,sw2,sw3,sw4,sw5,reduceCtorEq,Nat.reduceEqDiff,Nat.reduceAdd,Nat.reduceDiv,Nat.reduceLeDiff,q50.ret]
end Go.Proofs.YtcebebhaahpoiaaDoor
end
section
namespace Go.Proofs.YtcebebhaahpoiaaDoor
open Go Go.Ai Go.W
attribute [local irreducible] VC YC WC
set_option linter.unusedSimpArgs false
set_option linter.unusedVariables false
set_option maxRecDepth 10000
variable {k:Nat} {b:Option Nat} {H:List AObj} {lk:Bool} {K:AV→St→Prop}
theorem sl_fz {α:Type} {n:Nat} {f:α→List AV} {v:AV} {xs:List α} (h:Sl H n f v xs) {z:Nat}:frz H.length H z v=v∧v.under H.length=true:=by
  rcases h.how with ⟨fl,z',rfl,hz⟩ | ⟨b,o,ver,cs,rfl,hr,hc⟩
  · exact ⟨rfl,rfl⟩
  · have hlt:b < H.length:=by
      unfold row at hr
      split at hr
      · rename_i c hc'; exact (List.getElem?_eq_some_iff.1 hc').1
      · cases hr
    refine ⟨?_,by simp [AV.under,hlt]⟩
    simp -implicitDefEqProofs only [frz,hr]
    rw [if_neg (by omega)]
def rem (n:Nat) (R:List Int):List Nat:=(List.range n).filter fun i=>decide ((i:Int) ∉ R)
theorem rem_app {n:Nat} {R:List Int} {x:Nat}:rem n (R ++ [(x:Int)])=wo x (rem n R):=by
  unfold rem wo
  rw [List.filter_filter]
  refine List.filter_congr fun i _=>?_
  rw [← Bool.decide_and]
  refine decide_eq_decide.2 ?_
  simp -implicitDefEqProofs only [List.mem_append,List.mem_singleton,not_or,Int.natCast_inj]
  exact and_comm
theorem rem_nodup {n:Nat} {R:List Int}:(rem n R).Nodup:=List.Nodup.sublist List.filter_sublist List.nodup_range
def OV (H X:List AObj) (v:AV) (l:List Int):Prop:=VS 1 ic v l∨Own H X 1 ic v l
theorem OV.ext {X Y:List AObj} {v:AV} {l:List Int} (h:OV H X v l):OV H (X ++ Y) v l:=h.imp id fun h=>h.ext
theorem OV.fz {X:List AObj} {v:AV} {l:List Int} (h:OV H X v l):VS 1 ic (frz H.length (H ++ X) 1 v) l:=by
  rcases h with h | h
  · rw [h.fz]; exact h
  · exact h.fz (Nat.le_refl _) ic_clean
theorem best12_s {D:Nat→Nat→Int} {n:Nat} (hD:∀ a c,0≤D a c∧D a c≤1000) (hn:n≤8) {v:AV} {us:List (AV × List Int)} (hul:us.length=n) (hus:∀ s (h:s < us.length) x,x < n→us[s].2[x]?=some (D s x)) :
    ∀ (r:Nat) {k:Nat} {b:Option Nat} {H:List AObj} {lk:Bool} {K:AV→St→Prop} {u:AV} {R:List Int} (hk:r + 1000≤k) (hU:RD H v us) (hu:SI H u R) (hR:R.length + r=n) (hr:(rem n R).length=r)
    (hK:∀ w,(r=0→w=u)→(0 < r→VS 1 ic w (R ++ nrow D n r (rem n R)))→K (.tup [w,iv (lv D n (rem n R)).1]) ⟨H,lk⟩),VC ⟨prog,k,b⟩ F_q51 [v,u] ⟨H,lk⟩ K:=by
  intro r
  induction r with
  | zero =>
    intro k b H lk K u R hk hU hu hR hr hK
    obtain ⟨k,rfl⟩:∃ j,k=j + 1:=⟨k - 1,by omega⟩
    apply q51.enter
    have e:(R.length:Int)=us.length:=by omega
    have:=hK u (fun _=>rfl) (fun h=>absurd h (by omega))
    have he:rem n R=[]:=List.eq_nil_of_length_eq_zero hr
    rw [he,lv_nil] at this
    obtain ⟨f1,f2⟩:=sl_fz hu (z:=1)
    simp -implicitDefEqProofs only [q51.n0_w,sw0,sw1,sw2,sw3,sw4,sw5,reduceCtorEq,Nat.reduceEqDiff,Nat.reduceAdd,Nat.reduceDiv,Nat.reduceLeDiff,hu.len,hU.sl.len,eq_true e,q51.n1_w,q51.ret,f1,f2]
    exact this
  | succ r ih =>
    intro k b H lk K u R hk hU hu hR hr hK
    obtain ⟨k,rfl⟩:∃ j,k=j + 1:=⟨k - 1,by omega⟩
    apply q51.enter
    have e:¬ (R.length:Int)=us.length:=by omega
    obtain ⟨S,hS⟩:∃ S,S=rem n R:=⟨_,rfl⟩
    have hnd:S.Nodup:=by rw [hS]; exact rem_nodup
    rw [← hS] at hr hK
    have hSne:S ≠ []:=by rintro h; rw [h] at hr; simp at hr
    have hlv:=lv_cons (D:=D) (n:=n) hSne hnd (by omega)
    have hnS:n - S.length=R.length:=by omega
    rw [hnS] at hlv
    have hpos:=fun T=>lm_pos (D:=D) (n:=n) (fun a c=>(hD a c).1) 64 T
    have hle:=fun T=>lm_le (D:=D) (n:=n) hD 64 T
    obtain ⟨dn,hdn⟩:∃ dn:Nat→List Nat,dn=fun x=>(List.range x).filter fun i:Nat=>decide ((i:Int) ∉ R):=⟨_,rfl⟩
    have hdn0:dn 0=[]:=by rw [hdn]; rfl
    have hdnS:dn n=S:=by rw [hdn,hS]; rfl
    have hdn1:∀ x,dn (x + 1)=dn x ++ if (x:Int) ∈ R then [] else [x]:=by
      intro x
      rw [hdn]
      dsimp only
      rw [List.range_succ,List.filter_append]
      congr 1
      by_cases h:(x:Int) ∈ R <;> simp [h]
    simp -implicitDefEqProofs only [q51.n0_w,sw0,sw1,sw2,sw3,sw4,sw5,reduceCtorEq,Nat.reduceEqDiff,Nat.reduceAdd,Nat.reduceDiv,Nat.reduceLeDiff,hu.len,hU.sl.len,eq_false e,q51.n2_w]
    refine q51.n3_l (fun m r4 r5 r6 s=>∃ (x:Nat) (X:List AObj) (acc:Int × Nat),r6=iv x∧r5=iv acc.1∧s=⟨H ++ X,false⟩∧m=n - x∧x≤n∧acc=(dn x).foldl (pstep D (fun l=>(lv D n l).1) R.length S) (-1,0) ∧
      (dn x=[]→r4=.slice true 0 [])∧(dn x ≠ []→0≤acc.1∧acc.2 ∈ S∧OV H X r4 (R ++ (acc.2:Int) :: nrow D n r (wo acc.2 S)))) n (by simp -implicitDefEqProofs only []; omega)
      ⟨0,[],(-1,0),rfl,rfl,by rw [List.append_nil],by omega,by omega,by rw [hdn0]; rfl,fun _=>rfl,fun h=>absurd hdn0 h⟩ ?_
    rintro m r4 r5 r6 r7 r8 r9 r10 r11 s ⟨x,X,acc,rfl,rfl,rfl,rfl,hx,hacc,h40,h41⟩
    have huX:=hu.app (L:=X)
    have hUX:=hU.app (L:=X)
    simp -implicitDefEqProofs only [q51.n4_w,sw0,sw1,sw2,sw3,sw4,sw5,reduceCtorEq,Nat.reduceEqDiff,Nat.reduceAdd,Nat.reduceDiv,Nat.reduceLeDiff,hUX.sl.len,hul]
    split
    · rename_i hlt
      have hlt:x < n:=by omega
      have hhas:=fun (K:AV→St→Prop)=>has_s (K:=K) (k:=k) (b:=some H.length) (lk:=false) (x:=(x:Int)) (by omega) huX (by omega)
      have hwx:=wrap64 (n:=(x:Int) + 1) (by omega)
      have hd:=hdn1 x
      simp -implicitDefEqProofs only [q51.n6_w,sw0,sw1,sw2,sw3,sw4,sw5,reduceCtorEq,Nat.reduceEqDiff,Nat.reduceAdd,Nat.reduceDiv,Nat.reduceLeDiff,hhas]
      by_cases c1:(x:Int) ∈ R
      · rw [if_pos c1,List.append_nil] at hd
        simp -implicitDefEqProofs only [c1,sw0,sw1,sw2,sw3,sw4,sw5,reduceCtorEq,Nat.reduceEqDiff,Nat.reduceAdd,Nat.reduceDiv,Nat.reduceLeDiff,q51.n10_w,hwx]
        exact q51.n3_go (m':=n - (x + 1)) (by omega) ⟨x + 1,X,acc,rfl,rfl,rfl,rfl,by omega,by rw [hd]; exact hacc,by rw [hd]; exact h40,by rw [hd]; exact h41⟩
      · rw [if_neg c1] at hd
        have hxS:x ∈ S:=by
          rw [hS]
          unfold rem
          rw [List.mem_filter]
          exact ⟨by simpa using hlt,by simpa using c1⟩
        have hwl:=wo_len hnd hxS
        obtain ⟨w1,X1,ha1,ho1,_⟩:=(Own.nil (H:=H ++ X) (X:=[]) (f:=ic) (z:=1) Nat.one_pos ic_len).app (lk:=false) (m:=H.length) (y:=u) (bytes:=8) (by simp) (huX.app (L:=[])).rowOf ic_one (by simp; omega)
        have hsx:SI (H ++ X ++ X1) (.slice true 1 [[iv (x:Int)]]) [(x:Int)]:=Sl.lit Nat.one_pos ic_len rfl
        obtain ⟨w2,X2,ha2,ho2,_⟩:=ho1.app (lk:=false) (m:=H.length) (y:=.slice true 1 [[iv (x:Int)]]) (bytes:=8) (by simp) hsx.rowOf ic_one (by simp; omega)
        simp -implicitDefEqProofs only [List.nil_append,List.append_nil,List.append_assoc] at ha1 ha2
        rw [List.nil_append] at ho2
        have hw2:SI (H ++ (X ++ X2)) w2 (R ++ [(x:Int)]):=by
          have:=ho2.sl
          rw [List.append_assoc] at this
          exact this
        have how:Own H (X ++ X2) 1 ic w2 (R ++ [(x:Int)]):=ho2.pre
        simp -implicitDefEqProofs only [c1,sw0,sw1,sw2,sw3,sw4,sw5,reduceCtorEq,Nat.reduceEqDiff,Nat.reduceAdd,Nat.reduceDiv,Nat.reduceLeDiff,q51.n8_w,ha1,ha2]
        refine ih (k:=k) (by omega) hU.app hw2 (by simp; omega) (by rw [rem_app,← hS]; omega) ?_
        intro w hw0 hw1
        rw [rem_app,← hS] at hw1 ⊢
        have hov:OV H (X ++ X2) w (R ++ (x:Int) :: nrow D n r (wo x S)):=by
          rcases Nat.eq_zero_or_pos r with h | h
          · subst h
            rw [hw0 rfl]
            right
            exact how
          · left
            have:=hw1 h
            rw [List.append_assoc] at this
            exact this
        have hsl:R.length < us.length:=by omega
        have hUG:=hU.app (L:=X ++ X2)
        have hvx:=hus R.length hsl x hlt
        obtain ⟨hxl,hvx2⟩:=List.getElem?_eq_some_iff.1 hvx
        have hrow:=hUG.row _ (List.getElem_mem hsl)
        have huG:=hu.app (L:=X ++ X2)
        have hDx:=hD R.length x
        have hp1:=hpos (wo x S)
        have hp2:=hle (wo x S)
        have hp3:0≤(lv D n (wo x S)).1∧(lv D n (wo x S)).1≤64000:=by unfold lv; omega
        have hws:=wrap64 (n:=(lv D n (wo x S)).1 + D R.length x) (by omega)
        simp -implicitDefEqProofs only [sw0,sw1,sw2,sw3,sw4,sw5,reduceCtorEq,Nat.reduceEqDiff,Nat.reduceAdd,Nat.reduceDiv,Nat.reduceLeDiff,huG.len,hUG.sl.at',hsl,hUG.sl.ld hsl (show 0 < 1 by omega),rc,hrow.at',hxl,hrow.ld hxl (show 0 < 1 by omega),ic,hvx2,hws]
        have hst:(dn (x + 1)).foldl (pstep D (fun l=>(lv D n l).1) R.length S) (-1,0)=pstep D (fun l=>(lv D n l).1) R.length S acc x:=by
          rw [hd,List.foldl_append,← hacc]; rfl
        have hps:pstep D (fun l=>(lv D n l).1) R.length S acc x=if acc.1 < 0∨(lv D n (wo x S)).1 + D R.length x < acc.1 then ((lv D n (wo x S)).1 + D R.length x,x) else acc:=rfl
        rw [hps] at hst
        have hne:dn (x + 1) ≠ []:=by rw [hd]; simp
        by_cases c2:acc.1 < 0
        · rw [if_pos (.inl c2)] at hst
          simp -implicitDefEqProofs only [eq_true c2,sw0,sw1,sw2,sw3,sw4,sw5,reduceCtorEq,Nat.reduceEqDiff,Nat.reduceAdd,Nat.reduceDiv,Nat.reduceLeDiff,q51.n9_w,q51.n10_w,hwx]
          exact q51.n3_go (m':=n - (x + 1)) (by omega) ⟨x + 1,X ++ X2,((lv D n (wo x S)).1 + D R.length x,x),rfl,rfl,rfl,rfl,by omega,hst.symm,fun h=>absurd h hne,fun _=>⟨by dsimp only; omega,hxS,hov⟩⟩
        · by_cases c3:(lv D n (wo x S)).1 + D R.length x < acc.1
          · rw [if_pos (.inr c3)] at hst
            simp -implicitDefEqProofs only [eq_false c2,eq_true c3,sw0,sw1,sw2,sw3,sw4,sw5,reduceCtorEq,Nat.reduceEqDiff,Nat.reduceAdd,Nat.reduceDiv,Nat.reduceLeDiff,q51.n9_w,q51.n10_w,hwx]
            exact q51.n3_go (m':=n - (x + 1)) (by omega) ⟨x + 1,X ++ X2,((lv D n (wo x S)).1 + D R.length x,x),rfl,rfl,rfl,rfl,by omega,hst.symm,fun h=>absurd h hne,fun _=>⟨by dsimp only; omega,hxS,hov⟩⟩
          · rw [if_neg (by omega)] at hst
            have hne0:dn x ≠ []:=by
              intro h
              rw [h] at hacc
              rw [hacc] at c2
              exact absurd (by simp) c2
            obtain ⟨g1,g2,g3⟩:=h41 hne0
            simp -implicitDefEqProofs only [eq_false c2,eq_false c3,sw0,sw1,sw2,sw3,sw4,sw5,reduceCtorEq,Nat.reduceEqDiff,Nat.reduceAdd,Nat.reduceDiv,Nat.reduceLeDiff,q51.n10_w,hwx]
            exact q51.n3_go (m':=n - (x + 1)) (by omega) ⟨x + 1,X ++ X2,acc,rfl,rfl,rfl,rfl,by omega,hst.symm,fun h=>absurd h hne,fun _=>⟨g1,g2,g3.ext⟩⟩
    · have hxn:x=n:=by omega
      subst hxn
      rw [hdnS] at h41 hacc
      obtain ⟨g1,g2,g3⟩:=h41 hSne
      rw [← hlv] at hacc
      subst hacc
      have hvs:=g3.fz
      have hnr:=nrow_ne (D:=D) (n:=x) (r:=r) hSne
      rw [← hnr] at hvs
      have:=hK _ (fun h=>absurd h (by omega)) (fun _=>hvs)
      simp -implicitDefEqProofs only [q51.n11_w,sw0,sw1,sw2,sw3,sw4,sw5,reduceCtorEq,Nat.reduceEqDiff,Nat.reduceAdd,Nat.reduceDiv,Nat.reduceLeDiff,q51.ret,hvs.under]
      exact this
end Go.Proofs.YtcebebhaahpoiaaDoor
end
section
namespace Go.Proofs.YtcebebhaahpoiaaDoor
open Go Go.Ai Go.W
attribute [local irreducible] VC YC WC
set_option linter.unusedSimpArgs false
set_option linter.unusedVariables false
set_option maxRecDepth 10000
variable {k:Nat} {b:Option Nat} {H:List AObj} {lk:Bool} {K:AV→St→Prop}
def drow (rs:List (AV × List Int)) (s x:Nat):List Int:=(List.range x).map fun i=>cnt rs s i
theorem drow_len {rs s x}:(drow rs s x).length=x:=by simp [drow]
theorem drow_succ {rs s x}:drow rs s (x + 1)=drow rs s x ++ [cnt rs s x]:=by simp [drow,List.range_succ]
theorem drow_at {rs s n x} (h:x < n):(drow rs s n)[x]?=some (cnt rs s x):=by simp [drow,h]
def rnext (n:Int) (rs:List (AV × List Int)):List Int:=if rot n rs=true∧rs.length ≠ 100 then nrow (cnt rs) n.toNat n.toNat (List.range n.toNat) else []
def rnextE (n:Int) (rs:List (AV × List Int)):Int:=if rot n rs=true then (if rs.length=100 then 6 else 0) else 2
theorem r12_Next_s (hk:2000≤k) {v:AV} {n:Int} {rs:List (AV × List Int)} (hs:RD H v rs) (hl:rs.length≤1000) (hw:∀ q,q ∈ rs→q.2.length≤400)
    (hK:∀ w,VS 1 ic w (rnext n rs)→K (.tup [w,iv (rnextE n rs)]) ⟨H,lk⟩):VC ⟨prog,k,b⟩ F_q47 [iv n,v] ⟨H,lk⟩ K:=by
  obtain ⟨k,rfl⟩:∃ j,k=j + 1:=⟨k - 1,by omega⟩
  apply q47.enter
  have hcr:=fun (K:AV→St→Prop)=>r12_CheckRotation_s (K:=K) (k:=k) (b:=some H.length) (lk:=false) (n:=n) (by omega) hs hl hw
  simp -implicitDefEqProofs only [q47.n0_w,sw0,sw1,sw2,sw3,sw4,sw5,reduceCtorEq,Nat.reduceEqDiff,Nat.reduceAdd,Nat.reduceDiv,Nat.reduceLeDiff,hcr]
  unfold rnext rnextE at hK
  cases hr:rot n rs with
  | false =>
    rw [hr] at hK
    have:=hK (.slice true 0 []) VS.nil
    simp -implicitDefEqProofs only [sw0,sw1,sw2,sw3,sw4,sw5,reduceCtorEq,Nat.reduceEqDiff,Nat.reduceAdd,Nat.reduceDiv,Nat.reduceLeDiff,q47.n1_w,q47.ret]
    simpa using this
  | true =>
    rw [hr] at hK
    by_cases c1:(rs.length:Int)=100
    · have c1':rs.length=100:=by omega
      have:=hK (.slice true 0 []) (by simp -implicitDefEqProofs only [c1',ne_eq,not_true_eq_false,and_false,if_false]; exact VS.nil)
      simp -implicitDefEqProofs only [sw0,sw1,sw2,sw3,sw4,sw5,reduceCtorEq,Nat.reduceEqDiff,Nat.reduceAdd,Nat.reduceDiv,Nat.reduceLeDiff,q47.n2_w,hs.sl.len,eq_true c1,q47.n3_w,q47.ret]
      simpa [c1'] using this
    · have c1' : rs.length ≠ 100:=by omega
      simp -implicitDefEqProofs only [c1',ne_eq,not_false_eq_true,and_self,if_true,if_false] at hK
      have hro:=hr
      unfold rot at hro
      simp -implicitDefEqProofs only [Bool.and_eq_true,decide_eq_true_eq,List.all_eq_true] at hro
      obtain ⟨⟨hn,hl100⟩,hall⟩:=hro
      obtain ⟨N,hN⟩:∃ N:Nat,n=(N:Int):=⟨n.toNat,by omega⟩
      subst hN
      have hN8:N≤8:=by omega
      rw [Int.toNat_natCast] at hK
      have hlen:∀ q,q ∈ rs→q.2.length=N:=fun q hq=>by have:=(rnd_at (hall q hq)).2.2; omega
      simp -implicitDefEqProofs only [sw0,sw1,sw2,sw3,sw4,sw5,reduceCtorEq,Nat.reduceEqDiff,Nat.reduceAdd,Nat.reduceDiv,Nat.reduceLeDiff,q47.n2_w,hs.sl.len,eq_false c1,q47.n4_w]
      refine q47.n5_l (fun m r4 r5 t=>∃ (s:Nat) (us:List (AV × List Int)) (Y:List AObj),r5=iv s∧r4=.sref H.length 0 s (s * 1) 1∧t=⟨H ++ (.cells (us.map rc).flatten :: Y),false⟩∧m=N - s∧s≤N∧us.map (·.2)=(List.range s).map (fun i=>drow rs i N) ∧
        ∀ q,q ∈ us→∃ c,q.1=.sref (H.length + (c + 1)) 0 q.2.length (q.2.length * 1) 1∧Y[c]?=some (.cells (q.2.map ic).flatten)) N (by simp -implicitDefEqProofs only []; omega)
        ⟨0,[],[],rfl,rfl,rfl,by omega,by omega,rfl,fun q hq=>by cases hq⟩ ?_
      rintro m r4 r5 r6 r7 r8 t ⟨s,us,Y,rfl,rfl,rfl,rfl,hsN,hus,hrows⟩
      have husl:us.length=s:=by have:=congrArg List.length hus; simpa using this
      simp -implicitDefEqProofs only [q47.n6_w,sw0,sw1,sw2,sw3,sw4,sw5,reduceCtorEq,Nat.reduceEqDiff,Nat.reduceAdd,Nat.reduceDiv,Nat.reduceLeDiff]
      split
      · rename_i hlt
        have hlt:s < N:=by omega
        simp -implicitDefEqProofs only [q47.n8_w,sw0,sw1,sw2,sw3,sw4,sw5,reduceCtorEq,Nat.reduceEqDiff,Nat.reduceAdd,Nat.reduceDiv,Nat.reduceLeDiff]
        refine q47.n9_l (fun m r6 r7 t=>∃ x:Nat,r7=iv x∧r6=.sref (H.length + (Y.length + 1)) 0 x (x * 1) 1∧t=⟨H ++ (.cells (us.map rc).flatten :: (Y ++ [.cells ((drow rs s x).map ic).flatten])),false⟩∧m=N - x∧x≤N) N (by simp -implicitDefEqProofs only []; omega)
          ⟨0,rfl,rfl,rfl,by omega,by omega⟩ ?_
        rintro m r6 r7 r8 t ⟨x,rfl,rfl,rfl,rfl,hxN⟩
        simp -implicitDefEqProofs only [q47.n10_w,sw0,sw1,sw2,sw3,sw4,sw5,reduceCtorEq,Nat.reduceEqDiff,Nat.reduceAdd,Nat.reduceDiv,Nat.reduceLeDiff]
        split
        · rename_i hlt2
          have hlt2:x < N:=by omega
          have huse:=fun (X:List AObj) (K:AV→St→Prop)=>Used_s (K:=K) (k:=k) (b:=some H.length) (lk:=false) (s:=s) (x:=x) (H:=H ++ X) (by omega) hs.app hl (fun q hq=>by rw [hlen q hq]; exact hlt)
          have happ:=app_own (base:=some H.length) (lk:=false) (fl:=true) (bytes:=8) (xs:=drow rs s x) (x:=cnt rs s x) (c:=H.length + (Y.length + 1)) (H:=H ++ (.cells (us.map rc).flatten :: (Y ++ [.cells ((drow rs s x).map ic).flatten]))) Nat.one_pos ic_len (ic_one _) (ic_clean _) rfl (by simp -implicitDefEqProofs only [sw0,sw1,sw2,sw3,sw4,sw5,reduceCtorEq,Nat.reduceEqDiff,Nat.reduceAdd,Nat.reduceDiv,Nat.reduceLeDiff,row_hd,ic_flat,Nat.mul_one]) (by rw [drow_len]; omega)
          rw [drow_len,← drow_succ] at happ
          simp -implicitDefEqProofs only [ic] at happ
          simp -implicitDefEqProofs only [q47.n12_w,sw0,sw1,sw2,sw3,sw4,sw5,reduceCtorEq,Nat.reduceEqDiff,Nat.reduceAdd,Nat.reduceDiv,Nat.reduceLeDiff,huse,happ]
          rw [wrap64 (by omega)]
          exact q47.n9_go (m':=N - (x + 1)) (by omega) ⟨x + 1,rfl,rfl,rfl,rfl,by omega⟩
        · have hxe:x=N:=by omega
          subst hxe
          obtain ⟨q,hq⟩:∃ q:AV × List Int,q=(.sref (H.length + (Y.length + 1)) 0 x (x * 1) 1,drow rs s x):=⟨_,rfl⟩
          have hq1:AV.sref (H.length + (Y.length + 1)) 0 x (x * 1) 1=q.1:=by rw [hq]
          have hro:rowOf (H ++ (.cells (us.map rc).flatten :: (Y ++ [.cells ((drow rs s x).map ic).flatten,.cells [AV.sref (H.length + (Y.length + 1)) 0 x (x * 1) 1]]))) 1 (.sref (H.length + (Y.length + 1 + 1)) 0 1 1 1)=some (1,rc q):=by
            simp -implicitDefEqProofs only [rowOf,if_true,sw0,sw1,sw2,sw3,sw4,sw5,reduceCtorEq,Nat.reduceEqDiff,Nat.reduceAdd,Nat.reduceDiv,Nat.reduceLeDiff]
            rw [hq]
          have happ:=app_own_g (base:=some H.length) (lk:=false) (bytes:=24) (xs:=us) (x:=q) (f:=rc) (y:=.sref (H.length + (Y.length + 1 + 1)) 0 1 1 1) (v:=us.length * 1) (c:=H.length) (H:=H ++ (.cells (us.map rc).flatten :: (Y ++ [.cells ((drow rs s x).map ic).flatten,.cells [AV.sref (H.length + (Y.length + 1)) 0 x (x * 1) 1]]))) (n:=1) Nat.one_pos rc_len (by rw [hq]; rfl) (by simp [leaks]) rfl (by simp -implicitDefEqProofs only [sw0,sw1,sw2,sw3,sw4,sw5,reduceCtorEq,Nat.reduceEqDiff,Nat.reduceAdd,Nat.reduceDiv,Nat.reduceLeDiff,row_hd,flat_len rc_len]) (by omega) hro
          rw [husl] at happ
          simp -implicitDefEqProofs only [q47.n13_w,sw0,sw1,sw2,sw3,sw4,sw5,reduceCtorEq,Nat.reduceEqDiff,Nat.reduceAdd,Nat.reduceDiv,Nat.reduceLeDiff,happ,q47.n14_w]
          rw [wrap64 (by omega)]
          refine q47.n5_go (m':=x - (s + 1)) (by omega) ⟨s + 1,us ++ [q],Y ++ [.cells ((drow rs s x).map ic).flatten,.cells [AV.sref (H.length + (Y.length + 1)) 0 x (x * 1) 1]],rfl,rfl,rfl,rfl,by omega,?_,?_⟩
          · rw [List.map_append,hus,List.range_succ,List.map_append,hq]; rfl
          · intro p hp
            rcases List.mem_append.1 hp with h | h
            · obtain ⟨c,e1,e2⟩:=hrows p h
              exact ⟨c,e1,by rw [List.getElem?_append_left (List.getElem?_eq_some_iff.1 e2).1]; exact e2⟩
            · simp -implicitDefEqProofs only [List.mem_singleton] at h
              subst h
              rw [hq]
              exact ⟨Y.length,by rw [drow_len],by simp⟩
      · have hse:s=N:=by omega
        subst hse
        have hRD:RD (H ++ (.cells (us.map rc).flatten :: Y)) (.sref H.length 0 s (s * 1) 1) us:=by
          refine ⟨⟨Nat.one_pos,rc_len,.inr ⟨H.length,0,s * 1,(us.map rc).flatten,by rw [husl],?_,?_⟩⟩,fun q hq=>?_⟩
          · simp -implicitDefEqProofs only [sw0,sw1,sw2,sw3,sw4,sw5,reduceCtorEq,Nat.reduceEqDiff,Nat.reduceAdd,Nat.reduceDiv,Nat.reduceLeDiff,row_hd,flat_len rc_len,husl]
          · rw [List.drop_zero,← flat_len rc_len us,List.take_length]
          · obtain ⟨c,e1,e2⟩:=hrows q hq
            rw [e1]
            refine ⟨Nat.one_pos,ic_len,.inr ⟨_,0,_,(q.2.map ic).flatten,rfl,?_,?_⟩⟩
            · rw [row_end,row_cons]; unfold row; rw [e2]; simp -implicitDefEqProofs only [flat_len ic_len,if_true]
            · rw [List.drop_zero,← flat_len ic_len q.2,List.take_length]
        have hnil:SI (H ++ (.cells (us.map rc).flatten :: Y)) (.slice true 0 []) []:=Sl.nil Nat.one_pos ic_len
        have hrem:rem s []=List.range s:=by unfold rem; simp
        simp -implicitDefEqProofs only [q47.n15_w,sw0,sw1,sw2,sw3,sw4,sw5,reduceCtorEq,Nat.reduceEqDiff,Nat.reduceAdd,Nat.reduceDiv,Nat.reduceLeDiff]
        refine best12_s (D:=cnt rs) (n:=s) (fun a c=>by have:=@cnt_le rs a c; omega) hN8 husl ?_ s (k:=k) (by omega) hRD hnil (by simp) (by rw [hrem]; simp) ?_
        · intro j hj x hx
          have e:us[j].2=drow rs j s:=by
            have h1:(us.map (·.2))[j]?=((List.range s).map (fun i=>drow rs i s))[j]?:=by rw [hus]
            rw [List.getElem?_map,List.getElem?_eq_getElem hj,List.getElem?_map,List.getElem?_range (by omega)] at h1
            simpa using h1
          rw [e]
          exact drow_at hx
        · intro w _ hw1
          have hs0:0 < s:=by omega
          have hvs:=hw1 hs0
          rw [hrem,List.nil_append] at hvs
          have:=hK w hvs
          simp -implicitDefEqProofs only [sw0,sw1,sw2,sw3,sw4,sw5,reduceCtorEq,Nat.reduceEqDiff,Nat.reduceAdd,Nat.reduceDiv,Nat.reduceLeDiff,q47.ret,hvs.under]
          exact this
theorem wide_s (hk:1100≤k) {v:AV} {rs:List (AV × List Int)} (hs:RD H v rs) (hl:rs.length≤1000):VC ⟨prog,k,b⟩ F_q3 [v] ⟨H,lk⟩ K=K (.bool (rs.any fun q=>decide (20 < q.2.length))) ⟨H,lk⟩:=by
  obtain ⟨k,rfl⟩:∃ j,k=j + 1:=⟨k - 1,by omega⟩
  apply VC_iff
  apply q3.enter
  simp -implicitDefEqProofs only [q3.n0_w,sw0,sw1,sw2,sw3,sw4,sw5,reduceCtorEq,Nat.reduceEqDiff,Nat.reduceAdd,Nat.reduceDiv,Nat.reduceLeDiff]
  refine q3.n1_l (fun m r2 s=>∃ i:Nat,r2=iv i∧s=⟨H,false⟩∧m=rs.length - i∧i≤rs.length∧∀ j (h:j < rs.length),j < i→¬ 20 < rs[j].2.length) rs.length (by simp -implicitDefEqProofs only []; omega) ⟨0,rfl,rfl,by omega,by omega,fun j _ h=>by omega⟩ ?_
  rintro m r1 r2 r3 s ⟨i,rfl,rfl,hm,hi,hno⟩
  simp -implicitDefEqProofs only [q3.n2_w,sw0,sw1,sw2,sw3,sw4,sw5,reduceCtorEq,Nat.reduceEqDiff,Nat.reduceAdd,Nat.reduceDiv,Nat.reduceLeDiff,hs.sl.len]
  split
  · rename_i hlt
    have hlt:i < rs.length:=by omega
    have hmem:=List.getElem_mem hlt
    simp -implicitDefEqProofs only [q3.n4_w,sw0,sw1,sw2,sw3,sw4,sw5,reduceCtorEq,Nat.reduceEqDiff,Nat.reduceAdd,Nat.reduceDiv,Nat.reduceLeDiff,hs.sl.at',hlt,hs.sl.ld hlt (show 0 < 1 by omega),rc,(hs.row _ hmem).len]
    by_cases c:(20:Int) < rs[i].2.length
    · have:(rs.any fun q=>decide (20 < q.2.length))=true:=by rw [List.any_eq_true]; exact ⟨_,hmem,by simp; omega⟩
      simp -implicitDefEqProofs only [eq_true c,sw0,sw1,sw2,sw3,sw4,sw5,reduceCtorEq,Nat.reduceEqDiff,Nat.reduceAdd,Nat.reduceDiv,Nat.reduceLeDiff,q3.n5_w,q3.ret,this]
    · simp -implicitDefEqProofs only [eq_false c,sw0,sw1,sw2,sw3,sw4,sw5,reduceCtorEq,Nat.reduceEqDiff,Nat.reduceAdd,Nat.reduceDiv,Nat.reduceLeDiff,q3.n6_w]
      rw [wrap64 (by omega)]
      refine q3.n1_go (m':=rs.length - (i + 1)) (by omega) ⟨i + 1,rfl,rfl,rfl,by omega,fun j h hj=>?_⟩
      rcases Nat.lt_or_ge j i with h1 | h1
      · exact hno j h h1
      · have:j=i:=by omega
        subst this
        omega
  · have:(rs.any fun q=>decide (20 < q.2.length))=false:=by
      rw [List.any_eq_false]
      intro q hq
      obtain ⟨j,hj,rfl⟩:=List.getElem_of_mem hq
      have:=hno j hj (by omega)
      simpa using this
    simp -implicitDefEqProofs only [q3.n7_w,sw0,sw1,sw2,sw3,sw4,sw5,reduceCtorEq,Nat.reduceEqDiff,Nat.reduceAdd,Nat.reduceDiv,Nat.reduceLeDiff,q3.ret,this]
theorem PlantRotations_s (hk:16 ^ 54≤k) {v:AV} {n:Int} {rs:List (AV × List Int)} (hs:∀ H,RD H v rs) (hK:∀ s,K (.bool true) s):VC ⟨prog,k,b⟩ F_q1 [iv n,v] ⟨H,lk⟩ K:=by
  have e54:(16:Nat) ^ 54=105312291668557186697918027683670432318895095400549111254310977536:=by decide
  have e53:(16:Nat) ^ 53=6582018229284824168619876730229402019930943462534319453394436096:=by decide
  obtain ⟨k,rfl⟩:∃ j,k=j + 1:=⟨k - 1,by omega⟩
  apply q1.enter
  have hsH:=hs H
  have fin:∀ r0 r1 r3 r4 r5 r6 r7,WC ⟨prog,k,some H.length⟩ q1.n1 [r0,r1,.bool false,r3,r4,r5,r6,r7] ⟨H,false⟩ (sK (WC ⟨prog,k,some H.length⟩ q1.n2) (RK H.length lk q1.res K)):=by
    intro r0 r1 r3 r4 r5 r6 r7
    simp -implicitDefEqProofs only [q1.n1_w,sw0,sw1,sw2,sw3,sw4,sw5,reduceCtorEq,Nat.reduceEqDiff,Nat.reduceAdd,Nat.reduceDiv,Nat.reduceLeDiff]
    refine awake_s (by omega) fun s=>?_
    obtain ⟨G,g⟩:=s
    cases g <;> simp -implicitDefEqProofs only [sw0,sw1,sw2,sw3,sw4,sw5,reduceCtorEq,Nat.reduceEqDiff,Nat.reduceAdd,Nat.reduceDiv,Nat.reduceLeDiff,q1.ret,lv_t,hK]
  have d1:((5:Int) < n∧n≤8)∨((5:Int) < n∧¬ n≤8)∨(¬ (5:Int) < n):=by omega
  have rest : ∀ t3 t4:AV,rs.length≤110→(∀ q,q ∈ rs→q.2.length≤20)→∀ r3 r4 r5 r6 r7,WC ⟨prog,k,some H.length⟩ q1.n2 [iv n,v,.bool false,r3,r4,r5,r6,r7] ⟨H,false⟩ (RK H.length lk q1.res K):=by
    intro t3 t4 hl hw r3 r4 r5 r6 r7
    have a1:=fun (K:AV→St→Prop)=>Next_s (K:=K) (k:=k) (b:=some H.length) (lk:=false) (n:=n) (by omega) hsH (by omega) (fun q hq=>by have:=hw q hq; omega)
    have a2:=fun (K:AV→St→Prop)=>CheckRotation_s (K:=K) (k:=k) (b:=some H.length) (lk:=false) (n:=n) (by omega) hsH (by omega) (fun q hq=>by have:=hw q hq; omega)
    have a3:=fun (K:AV→St→Prop)=>r12_CheckRotation_s (K:=K) (k:=k) (b:=some H.length) (lk:=false) (n:=n) (by omega) hsH (by omega) (fun q hq=>by have:=hw q hq; omega)
    have hNx:∃ u,VS 1 ic u (rnext n rs)∧nextAns n rs=[u,iv (rnextE n rs)]:=by
      unfold nextAns rnext rnextE
      cases rot n rs
      · exact ⟨.slice true 0 [],by simp; exact VS.nil,rfl⟩
      · by_cases c:rs.length=100
        · exact ⟨.slice true 0 [],by simp [c]; exact VS.nil,by simp [c]⟩
        · exact ⟨_,by simp -implicitDefEqProofs only [c,ne_eq,not_false_eq_true,and_self,if_true]; exact VS.mk (fl:=false),by simp [c]⟩
    obtain ⟨u,hu,hua⟩:=hNx
    simp -implicitDefEqProofs only [q1.n2_w,sw0,sw1,sw2,sw3,sw4,sw5,reduceCtorEq,Nat.reduceEqDiff,Nat.reduceAdd,Nat.reduceDiv,Nat.reduceLeDiff,a1,hua]
    refine r12_Next_s (k:=k) (by omega) hsH (by omega) (fun q hq=>by have:=hw q hq; omega) fun w hw1=>?_
    have hlen:(rnext n rs).length≤1000:=by
      unfold rnext
      split
      · rename_i h
        have hro:=h.1
        unfold rot at hro
        simp -implicitDefEqProofs only [Bool.and_eq_true,decide_eq_true_eq] at hro
        have : ∀ {D:Nat→Nat→Int} {m:Nat} (r:Nat) (S:List Nat),(nrow D m r S).length≤r:=by
          intro D m r
          induction r with
          | zero=>intro S; simp [nrow]
          | succ r ih =>
            intro S
            cases S with
            | nil=>simp [nrow]
            | cons a S=>simp -implicitDefEqProofs only [nrow,List.length_cons]; have:=ih (wo (lv D m (a :: S)).2 (a :: S)); omega
        have:=this (D:=cnt rs) (m:=n.toNat) n.toNat (List.range n.toNat)
        omega
      · simp
    have i1:=fun (K:AV→St→Prop)=>r02_Ints_s (K:=K) (k:=k) (b:=some H.length) (lk:=false) (H:=H) (xs:=rnext n rs) (ys:=rnext n rs) (v:=u) (w:=w) (by omega) (hu.sl Nat.one_pos ic_len) (hw1.sl Nat.one_pos ic_len) hlen
    simp -implicitDefEqProofs only [sw0,sw1,sw2,sw3,sw4,sw5,reduceCtorEq,Nat.reduceEqDiff,Nat.reduceAdd,Nat.reduceDiv,Nat.reduceLeDiff,a2,a3,i1,eqs_b,beq_self_eq_true]
    refine awake_s (by omega) fun s=>?_
    obtain ⟨G,g⟩:=s
    cases g <;> simp -implicitDefEqProofs only [sw0,sw1,sw2,sw3,sw4,sw5,reduceCtorEq,Nat.reduceEqDiff,Nat.reduceAdd,Nat.reduceDiv,Nat.reduceLeDiff,q1.ret,lv_t,hK]
  by_cases c2:(110:Int) < rs.length
  · rcases d1 with ⟨c0,c1⟩ | ⟨c0,c1⟩ | c0
    · simp -implicitDefEqProofs only [q1.n0_w,sw0,sw1,sw2,sw3,sw4,sw5,reduceCtorEq,Nat.reduceEqDiff,Nat.reduceAdd,Nat.reduceDiv,Nat.reduceLeDiff,c0,c1,gO_u]; exact fin _ _ _ _ _ _ _
    · simp -implicitDefEqProofs only [q1.n0_w,sw0,sw1,sw2,sw3,sw4,sw5,reduceCtorEq,Nat.reduceEqDiff,Nat.reduceAdd,Nat.reduceDiv,Nat.reduceLeDiff,c0,c1,hsH.sl.len,c2,gO_u]; exact fin _ _ _ _ _ _ _
    · simp -implicitDefEqProofs only [q1.n0_w,sw0,sw1,sw2,sw3,sw4,sw5,reduceCtorEq,Nat.reduceEqDiff,Nat.reduceAdd,Nat.reduceDiv,Nat.reduceLeDiff,c0,hsH.sl.len,c2,gO_u]; exact fin _ _ _ _ _ _ _
  · have hl:rs.length≤110:=by omega
    have hwd:=fun (K:AV→St→Prop)=>wide_s (K:=K) (k:=k) (b:=some H.length) (lk:=false) (by omega) hsH (by omega)
    cases hwide:(rs.any fun q=>decide (20 < q.2.length)) with
    | true =>
      rcases d1 with ⟨c0,c1⟩ | ⟨c0,c1⟩ | c0
      · simp -implicitDefEqProofs only [q1.n0_w,sw0,sw1,sw2,sw3,sw4,sw5,reduceCtorEq,Nat.reduceEqDiff,Nat.reduceAdd,Nat.reduceDiv,Nat.reduceLeDiff,c0,c1,gO_u]; exact fin _ _ _ _ _ _ _
      · simp -implicitDefEqProofs only [q1.n0_w,sw0,sw1,sw2,sw3,sw4,sw5,reduceCtorEq,Nat.reduceEqDiff,Nat.reduceAdd,Nat.reduceDiv,Nat.reduceLeDiff,c0,c1,hsH.sl.len,c2,hwd,hwide,gO_u]; exact fin _ _ _ _ _ _ _
      · simp -implicitDefEqProofs only [q1.n0_w,sw0,sw1,sw2,sw3,sw4,sw5,reduceCtorEq,Nat.reduceEqDiff,Nat.reduceAdd,Nat.reduceDiv,Nat.reduceLeDiff,c0,hsH.sl.len,c2,hwd,hwide,gO_u]; exact fin _ _ _ _ _ _ _
    | false =>
      have hw:∀ q,q ∈ rs→q.2.length≤20:=fun q hq=>by
        have:=List.any_eq_false.1 hwide q hq
        simpa using this
      rcases d1 with ⟨c0,c1⟩ | ⟨c0,c1⟩ | c0
      · simp -implicitDefEqProofs only [q1.n0_w,sw0,sw1,sw2,sw3,sw4,sw5,reduceCtorEq,Nat.reduceEqDiff,Nat.reduceAdd,Nat.reduceDiv,Nat.reduceLeDiff,c0,c1,gO_u]; exact fin _ _ _ _ _ _ _
      · simp -implicitDefEqProofs only [q1.n0_w,sw0,sw1,sw2,sw3,sw4,sw5,reduceCtorEq,Nat.reduceEqDiff,Nat.reduceAdd,Nat.reduceDiv,Nat.reduceLeDiff,c0,c1,hsH.sl.len,c2,hwd,hwide,gO_u]; exact rest v v hl hw _ _ _ _ _
      · simp -implicitDefEqProofs only [q1.n0_w,sw0,sw1,sw2,sw3,sw4,sw5,reduceCtorEq,Nat.reduceEqDiff,Nat.reduceAdd,Nat.reduceDiv,Nat.reduceLeDiff,c0,hsH.sl.len,c2,hwd,hwide,gO_u]; exact rest v v hl hw _ _ _ _ _
end Go.Proofs.YtcebebhaahpoiaaDoor
end
section
namespace Go.Proofs.YtcebebhaahpoiaaDoor
open Go Go.Ai Go.W
attribute [local irreducible] VC YC WC
set_option linter.unusedVariables false
set_option maxRecDepth 100000
theorem wt_22r {d:Nat} {xs:List AV} (h:Wt Tryd.prog (d + 2) 22 xs):∃ q:AV × List Int,xs=rc q∧∀ H,SI H q.1 q.2:=by
  obtain ⟨l,hl⟩:=wt_22 h
  exact ⟨(.slice false 1 (l.map ic),l),hl,fun H=>Sl.val Nat.one_pos ic_len⟩
theorem arg_rounds {x:AV} (h:Arg Tryd.prog 8 53 x):∃ rs:List (AV × List Int),∀ H,RD H x rs:=by
  have h1:=h.1
  unfold Wt at h1
  rw [Tryd.underlying53] at h1
  obtain ⟨es,he,_,h2⟩:=h1
  obtain ⟨l,rfl,hl⟩:=wt_list (n:=1) (f:=rc) (by kernel_rfl) (fun xs _ hw=>wt_22r (d:=5) hw) h2
  rw [c22] at he
  rw [arg_of_slice (by kernel_rfl) h he]
  exact ⟨l,fun H=>⟨Sl.val (by omega) rc_len,fun q hq=>hl q hq H⟩⟩
end Go.Proofs.YtcebebhaahpoiaaDoor
end
section
namespace Go.Proofs.YtcebebhaahpoiaaDoor
open Go Go.Ai Go.W Go.RowKit Go.ChangeShapes Go.WideShapes Go.ChangeAt Go.Lib
set_option maxRecDepth 100000
theorem plantrotations_law (xs:List AV) (hl:xs.length=Tryd.f7.params.toList.length) (hx:∀ (j:Nat) t x,Tryd.f7.params.toList[j]?=some t→xs[j]?=some x→Arg Tryd.prog 8 t x) :
    ∃ k,(ev prog k (.fn 7) xs ⟨[],false⟩).All fun p=>p.1=.val (.bool true):=by
  have hl2:xs.length=2:=hl
  match xs,hl2 with
  | [a,b],_ =>
    obtain ⟨n,rfl,hn⟩:=arg_int (hx 0 3 a rfl rfl)
    obtain ⟨rs,hr⟩:=arg_rounds (hx 1 53 b rfl rfl)
    refine ⟨16 ^ 54,?_⟩
    have h:=PlantRotations_s (k:=16 ^ 54) (b:=none) (H:=[]) (lk:=false) (K:=fun v _=>v=.bool true) (Nat.le_refl _) (n:=n) hr (fun _=>rfl)
    unfold VC at h
    refine Res.All.mono (fun r hr=>?_) h
    obtain ⟨v,s⟩:=r
    cases v with
    | val v=>exact congrArg _ hr
    | panic v=>exact hr.elim
theorem plantrotations_lifted (os:Os) (started:os.Started) (X:Type) (enc:TypeId × Value→X) :
    ReturnsInHanded {} Tryd.checked os 7 .any (fun w args=>(Rows.plantRotationsSpec.pre enc Tryd.prog Tryd.f7 [] false w args∧laidMetH Tryd.prog laidL w)∧sizedMet enc Tryd.prog Tryd.f7 (OpenSpec.ofChange Rows.plantRotationsSpec) false w args)
      (Rows.plantRotationsSpec.post enc Tryd.prog Tryd.f7 false true false false):=by
  refine returnsInHanded_of_change_and (C:=Tryd.checked) (X:=fun w _=>laidMetH Tryd.prog laidL w) (fun _ _ _ hh h=>h.of_heap hh) own started (by kernel_rfl) Tryd.func7
    (ChangeSpec.witness_shaped (enc:=enc) (C:=Tryd.checked) (os:=os) (X:=fun w _=>laidMetH Tryd.prog laidL w) false (World.laidAll Tryd.prog os laidL) #[.int .i64 0,.slice none 0 0] 8 (World.laidAll_os _ _ _)
      (World.shaped_of_ZipB (by kernel_rfl) (by kernel_rfl)) (by kernel_rfl) (by kernel_rfl) (by kernel_rfl)
      (by rw [MakeChecks.laidMetH_plain _ _ _ (by kernel_rfl)]; exact laidMet_laidAll _ (by kernel_rfl) (by kernel_rfl))) ?_
  intro W base args ds gs before hval0 hW _ _ hL _
  have hval:∀ (j:Nat) t v,Tryd.f7.params.toList[j]?=some t→args.toList[j]?=some v→Value.okWide Tryd.prog W .any base t v:=fun j t v h1 h2=>hval0 j t v (by simpa using h1) (by simpa using h2)
  have hW':=hW
  obtain ⟨p,q,hA0,hV,rfl,_,_⟩:=hW
  have hA:DataW.TrodAll enc Tryd.prog W 0 (fun _=>true) true Tryd.f7.params.toList args.toList ds p:=hA0
  obtain ⟨rfl,rfl⟩:=trodVars_none hV
  rw [MakeChecks.laidMetH_plain _ _ _ (by kernel_rfl)] at hL
  obtain ⟨o,ho,hTab⟩:=tab_of_laid hL
  have hpl:(Tryd.f7.params.toList.all fun t=>plainT Tryd.prog 8 t)=true:=by kernel_rfl
  obtain ⟨xs,hLR,hxl,hxa⟩:=read_args (d:=8) hA hval (fun t ht=>List.all_eq_true.1 hpl t ht)
  obtain ⟨k,hk⟩:=plantrotations_law xs hxl hxa
  have hrd:(Tryd.f7.params.toList.all fun t=>Tryd.prog.readableRec t && decide (t < Tryd.prog.types.size))=true:=by kernel_rfl
  have hlen:ds.length=2:=(trodAll_len hA).trans (by kernel_rfl)
  have hcall:=law_call (progOK hTab) mixedP k 7 W args.toList xs hLR (fun p hp=>by simp -implicitDefEqProofs only [List.mem_singleton] at hp; subst hp; exact ho) hk
  refine hcall.mono fun e W' ⟨he,hb⟩=>⟨_,he,?_⟩
  refine post_of_law laidOutP (fun t ht=>by have:=List.all_eq_true.1 hrd t ht; simp -implicitDefEqProofs only [Bool.and_eq_true,decide_eq_true_eq] at this; exact this) (tb:=4) (by kernel_rfl) Tryd.underlying4 rfl hW' ?_ hb
  match ds,hlen with
  | [d1,d2],_=>exact ⟨rfl,rfl,rfl⟩
theorem plantrotations_holds:Rows.PlantRotationsSaid :=
  OpenClaim.holds_of_wide 7 Tryd.f7 rfl rfl rfl rfl rfl rfl rfl ⟨rfl,rfl,rfl,rfl,rfl⟩ rfl rfl rfl rfl rfl (by kernel_rfl) Tryd.func7 (by kernel_rfl)
    (of_decide_eq_true (by kernel_rfl)) (by unfold Func.isWrapper; first | (rw [if_pos (by decide +kernel)]; kernel_rfl) | (rw [if_neg (by decide +kernel)]; exact ⟨rfl,rfl⟩))
    (fun os started H enc _=>plantrotations_lifted os started H enc)
theorem plantrotations_card:Rows.PlantRotationsCardSaid :=
  Claim7.holds_tied_plain_at .later [] [.data, .data] true (true, "98e795a669b5da70fd090277ed8c58b8aa4305f620608e823b1754817605947f") false plantrotations_holds (fun _ h => by cases h) (by kernel_rfl) (fun _ h => by cases h) plantRotations_row_tie rfl ⟨rfl, rfl⟩ (by kernel_rfl) rfl
    (fun f fn hf hfn=>by
      obtain rfl : f = 7 := Option.some.inj ((show Tryd.prog.funcNamed "besom/besomlaw12.PlantRotations" = some 7 by kernel_rfl).symm.trans hf) |>.symm
      obtain rfl:fn=Tryd.f7:=(Option.some.inj (Tryd.func7.symm.trans hfn)).symm
      exact ⟨by kernel_rfl,fun j t ht=>by
        have hall:(Tryd.f7.params.toList.all fun u=>!Tryd.prog.wantsStandIn u)=true:=by kernel_rfl
        have hm:t ∈ Tryd.f7.params.toList:=by simpa using Array.mem_of_getElem? ht
        exact (show Tryd.prog.wantsStandIn t=false by simpa using List.all_eq_true.1 hall t hm)⟩)
    (by kernel_rfl)
end Go.Proofs.YtcebebhaahpoiaaDoor
end
#print axioms Go.Proofs.YtcebebhaahpoiaaDoor.plantrotations_card
