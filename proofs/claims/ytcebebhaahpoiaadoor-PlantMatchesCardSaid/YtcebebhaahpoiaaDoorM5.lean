/- PlantMatches: for every list of marks the law answers true and turns nothing, with no condition. Part 5 of 5. -/
import Derived.Test.YtcebebhaahpoiaaDoorM4
set_option maxHeartbeats 2000000
set_option linter.unusedSimpArgs false
set_option linter.unusedVariables false
set_option linter.deprecated false
set_option linter.all false
section
namespace Go.Proofs.YtcebebhaahpoiaaDoor
open Go Go.Ai Go.W
attribute [local irreducible] VC YC WC
set_option linter.unusedSimpArgs false
set_option linter.unusedVariables false
set_option maxRecDepth 10000
variable {k:Nat} {b:Option Nat} {H:List AObj} {lk:Bool} {K:AV→St→Prop}
def jA:List (Int × Int × Int):=[(0,0,3),(1,0,2),(2,1,2)]
abbrev vA:AV:=.slice true 3 [[iv 0,iv 0,iv 3],[iv 1,iv 0,iv 2],[iv 2,iv 1,iv 2]]
theorem vA_sl:Sl H 3 jc vA jA:=Sl.lit (by omega) jc_len rfl
theorem yA0 (hk:1000≤k) {r0 r1 r6 r9 r10 r11 r12 r13 r14 r15 r16 r17 r18 r19 r20 r21 r22 r23 r24 r25 r26 r27 r28 r29 r30 r31 r32 r33 r34 r35 r36 r37 r38 r39 r40 r41 r42 r43 r44 r45 r46 r47 r48 r49 r50 r51 r52 r53 r54 r55 r56 r57 r58 r59 r60 r61 r62 r63 r64 r65 r66:AV} {x1 x2 x3:AObj} (hK:K (.bool true) ⟨H ++ [.cells [vA],.cells [iv 1],.cells [.slice true 0 []],.cells [iv 0],.cells [iv 0,iv 0,iv 0],.cells [.sref (H.length + 4) 0 3 3 1],.cells [.sref (H.length + 15) 0 1 2 1,.fn F_q17 [.ptr H.length 0 1]],.map shI 3 [(iv 0,.sref (H.length + 10) 0 2 2 1),(iv 1,.sref (H.length + 13) 0 1 1 1)],.cells [.map (H.length + 7)],x1,.cells [iv 0,iv 1],x2,x3,.cells [iv 2],.loop [r0,r1,.ptr H.length 0 1,.ptr (H.length + 1) 0 1,.ptr (H.length + 2) 0 1,.ptr (H.length + 3) 0 1,r6,.ptr (H.length + 5) 0 1,.ptr (H.length + 6) 0 2,r9,r10,r11,r12,r13,r14,r15,r16,r17,r18,r19,r20,r21,r22,r23,r24,r25,r26,r27,r28,r29,r30,r31,r32,r33,r34,r35,r36,r37,r38,r39,r40,r41,r42,r43,r44,r45,r46,r47,r48,r49,r50,r51,r52,r53,r54,r55,r56,r57,r58,r59,r60,r61,r62,r63,r64,r65,r66] [28,29] q16.n4 q16.n5 true none,.cells [iv 0,iv 0]],true⟩):YC ⟨prog,k + 1,b⟩ (H.length + 14) [iv 0,.sref (H.length + 10) 0 2 2 1] ⟨H ++ [.cells [vA],.cells [iv 1],.cells [.slice true 0 []],.cells [iv 0],.cells [iv 0,iv 0,iv 0],.cells [.sref (H.length + 4) 0 3 3 1],.cells [.slice true 0 [],.fn F_q17 [.ptr H.length 0 1]],.map shI 3 [(iv 0,.sref (H.length + 10) 0 2 2 1),(iv 1,.sref (H.length + 13) 0 1 1 1)],.cells [.map (H.length + 7)],x1,.cells [iv 0,iv 1],x2,x3,.cells [iv 2],.loop [r0,r1,.ptr H.length 0 1,.ptr (H.length + 1) 0 1,.ptr (H.length + 2) 0 1,.ptr (H.length + 3) 0 1,r6,.ptr (H.length + 5) 0 1,.ptr (H.length + 6) 0 2,r9,r10,r11,r12,r13,r14,r15,r16,r17,r18,r19,r20,r21,r22,r23,r24,r25,r26,r27,r28,r29,r30,r31,r32,r33,r34,r35,r36,r37,r38,r39,r40,r41,r42,r43,r44,r45,r46,r47,r48,r49,r50,r51,r52,r53,r54,r55,r56,r57,r58,r59,r60,r61,r62,r63,r64,r65,r66] [28,29] q16.n4 q16.n5 true none],lk⟩ K:=by
  have hk1:100≤k:=by omega
  have hk2:100≤k - 1:=by omega
  refine YC_go (by simp -implicitDefEqProofs only [sw0,sw1,sw2,sw3,sw4,sw5,reduceCtorEq,Nat.reduceEqDiff,Nat.reduceAdd,Nat.reduceDiv,Nat.reduceLeDiff,dw0,Int.reduceAdd,Int.reduceSub,Int.reduceMul,Int.reduceLT,Int.reduceLE,Int.reduceNeg,Int.reduceEq,Int.reduceToNat,Nat.reduceLT,Nat.reduceMul,Nat.reduceSub,Nat.reduceBEq,Nat.reduceLeDiff,xw0,eApp,rowOf,appRow,lkL,lkN,eMupd,vLook,mapSh,findE,putE,keqL,hasSh,fits,shb,Int.reduceBEq,eMksl,vSlc,boundsOf,boundOf,cleanL,Nat.reduceGT,Int.reduceGT,Int.reduceGE,Int.reduceDiv,Int.reduceTDiv,vAidx,rdc]; rfl) rfl ?_
  simp -implicitDefEqProofs only [sw0,sw1,sw2,sw3,sw4,sw5,reduceCtorEq,Nat.reduceEqDiff,Nat.reduceAdd,Nat.reduceDiv,Nat.reduceLeDiff,dw0,Int.reduceAdd,Int.reduceSub,Int.reduceMul,Int.reduceLT,Int.reduceLE,Int.reduceNeg,Int.reduceEq,Int.reduceToNat,Nat.reduceLT,Nat.reduceMul,Nat.reduceSub,Nat.reduceBEq,Nat.reduceLeDiff,xw0,eApp,rowOf,appRow,lkL,lkN,eMupd,vLook,mapSh,findE,putE,keqL,hasSh,fits,shb,Int.reduceBEq,eMksl,vSlc,boundsOf,boundOf,cleanL,Nat.reduceGT,Int.reduceGT,Int.reduceGE,Int.reduceDiv,Int.reduceTDiv,vAidx,rdc,q16.n4_w,q16.n5_w,YK,Plan_u6]
  refine ⟨⟨_,_,_,_,rfl⟩,?_⟩
  rw [wl_1 (by omega)]
  simp -implicitDefEqProofs only [q16.n7_w,sw0,sw1,sw2,sw3,sw4,sw5,reduceCtorEq,Nat.reduceEqDiff,Nat.reduceAdd,Nat.reduceDiv,Nat.reduceLeDiff,dw0,Int.reduceAdd,Int.reduceSub,Int.reduceMul,Int.reduceLT,Int.reduceLE,Int.reduceNeg,Int.reduceEq,Int.reduceToNat,Nat.reduceLT,Nat.reduceMul,Nat.reduceSub,Nat.reduceBEq,Nat.reduceLeDiff,xw0,eApp,rowOf,appRow,lkL,lkN,eMupd,vLook,mapSh,findE,putE,keqL,hasSh,fits,shb,Int.reduceBEq,eMksl,vSlc,boundsOf,boundOf,cleanL,Nat.reduceGT,Int.reduceGT,Int.reduceGE,Int.reduceDiv,Int.reduceTDiv,vAidx,rdc,q16.n9_w]
  have h:=fun (K:AV→St→Prop) X (hK)=>put0' (k:=k) (b:=none) (lk:=lk) (K:=K) (n:=0) (f:=.fn F_q17 [.ptr H.length 0 1]) hk1 (H:=H ++ [.cells [vA],.cells [iv 1],.cells [.slice true 0 []],.cells [iv 0],.cells [iv 0,iv 0,iv 0],.cells [.sref (H.length + 4) 0 3 3 1]]) (L:=[.map shI 3 [(iv 0,.sref (H.length + 10) 0 2 2 1),(iv 1,.sref (H.length + 13) 0 1 1 1)],.cells [.map (H.length + 7)],x1,.cells [iv 0,iv 1],x2,x3,.cells [iv 2],X]) hK
  simp -implicitDefEqProofs only [sw0,sw1,sw2,sw3,sw4,sw5,reduceCtorEq,Nat.reduceEqDiff,Nat.reduceAdd,Nat.reduceDiv,Nat.reduceLeDiff,Nat.add_assoc] at h
  refine h _ _ ?_
  clear h
  rw [wl_1 (by omega)]
  simp -implicitDefEqProofs only [q16.n7_w,sw0,sw1,sw2,sw3,sw4,sw5,reduceCtorEq,Nat.reduceEqDiff,Nat.reduceAdd,Nat.reduceDiv,Nat.reduceLeDiff,dw0,Int.reduceAdd,Int.reduceSub,Int.reduceMul,Int.reduceLT,Int.reduceLE,Int.reduceNeg,Int.reduceEq,Int.reduceToNat,Nat.reduceLT,Nat.reduceMul,Nat.reduceSub,Nat.reduceBEq,Nat.reduceLeDiff,xw0,eApp,rowOf,appRow,lkL,lkN,eMupd,vLook,mapSh,findE,putE,keqL,hasSh,fits,shb,Int.reduceBEq,eMksl,vSlc,boundsOf,boundOf,cleanL,Nat.reduceGT,Int.reduceGT,Int.reduceGE,Int.reduceDiv,Int.reduceTDiv,vAidx,rdc,q16.n9_w]
  have h:=fun (K:AV→St→Prop) X (hK)=>put1'_1 (k:=k) (b:=none) (lk:=true) (K:=K) (n:=1) (m:=0) (z:=.undef) (qs:=jA) (cl:=H.length) (v:=vA) hk1 (H:=H ++ [.cells [vA],.cells [iv 1],.cells [.slice true 0 []],.cells [iv 0],.cells [iv 0,iv 0,iv 0],.cells [.sref (H.length + 4) 0 3 3 1]]) (L:=[.map shI 3 [(iv 0,.sref (H.length + 10) 0 2 2 1),(iv 1,.sref (H.length + 13) 0 1 1 1)],.cells [.map (H.length + 7)],x1,.cells [iv 0,iv 1],x2,x3,.cells [iv 2],X]) vA_sl (by simp -implicitDefEqProofs only [sw0,sw1,sw2,sw3,sw4,sw5,reduceCtorEq,Nat.reduceEqDiff,Nat.reduceAdd,Nat.reduceDiv,Nat.reduceLeDiff,dw0,Int.reduceAdd,Int.reduceSub,Int.reduceMul,Int.reduceLT,Int.reduceLE,Int.reduceNeg,Int.reduceEq,Int.reduceToNat,Nat.reduceLT,Nat.reduceMul,Nat.reduceSub,Nat.reduceBEq,Nat.reduceLeDiff,xw0,eApp,rowOf,appRow,lkL,lkN,eMupd,vLook,mapSh,findE,putE,keqL,hasSh,fits,shb,Int.reduceBEq,eMksl,vSlc,boundsOf,boundOf,cleanL,Nat.reduceGT,Int.reduceGT,Int.reduceGE,Int.reduceDiv,Int.reduceTDiv,vAidx,rdc]) (by decide) (by decide) hK
  simp -implicitDefEqProofs only [sw0,sw1,sw2,sw3,sw4,sw5,reduceCtorEq,Nat.reduceEqDiff,Nat.reduceAdd,Nat.reduceDiv,Nat.reduceLeDiff,dw0,Int.reduceAdd,Int.reduceSub,Int.reduceMul,Int.reduceLT,Int.reduceLE,Int.reduceNeg,Int.reduceEq,Int.reduceToNat,Nat.reduceLT,Nat.reduceMul,Nat.reduceSub,Nat.reduceBEq,Nat.reduceLeDiff,xw0,eApp,rowOf,appRow,lkL,lkN,eMupd,vLook,mapSh,findE,putE,keqL,hasSh,fits,shb,Int.reduceBEq,eMksl,vSlc,boundsOf,boundOf,cleanL,Nat.reduceGT,Int.reduceGT,Int.reduceGE,Int.reduceDiv,Int.reduceTDiv,vAidx,rdc,jA,Nat.add_assoc] at h
  refine h _ _ ?_
  clear h
  rw [wl_1 (by omega)]
  simp -implicitDefEqProofs only [q16.n7_w,sw0,sw1,sw2,sw3,sw4,sw5,reduceCtorEq,Nat.reduceEqDiff,Nat.reduceAdd,Nat.reduceDiv,Nat.reduceLeDiff,dw0,Int.reduceAdd,Int.reduceSub,Int.reduceMul,Int.reduceLT,Int.reduceLE,Int.reduceNeg,Int.reduceEq,Int.reduceToNat,Nat.reduceLT,Nat.reduceMul,Nat.reduceSub,Nat.reduceBEq,Nat.reduceLeDiff,xw0,eApp,rowOf,appRow,lkL,lkN,eMupd,vLook,mapSh,findE,putE,keqL,hasSh,fits,shb,Int.reduceBEq,eMksl,vSlc,boundsOf,boundOf,cleanL,Nat.reduceGT,Int.reduceGT,Int.reduceGE,Int.reduceDiv,Int.reduceTDiv,vAidx,rdc,q16.n10_w,Plan_u11]
  rw [wl_1 (by omega)]
  simp -implicitDefEqProofs only [q16.n12_w,sw0,sw1,sw2,sw3,sw4,sw5,reduceCtorEq,Nat.reduceEqDiff,Nat.reduceAdd,Nat.reduceDiv,Nat.reduceLeDiff,dw0,Int.reduceAdd,Int.reduceSub,Int.reduceMul,Int.reduceLT,Int.reduceLE,Int.reduceNeg,Int.reduceEq,Int.reduceToNat,Nat.reduceLT,Nat.reduceMul,Nat.reduceSub,Nat.reduceBEq,Nat.reduceLeDiff,xw0,eApp,rowOf,appRow,lkL,lkN,eMupd,vLook,mapSh,findE,putE,keqL,hasSh,fits,shb,Int.reduceBEq,eMksl,vSlc,boundsOf,boundOf,cleanL,Nat.reduceGT,Int.reduceGT,Int.reduceGE,Int.reduceDiv,Int.reduceTDiv,vAidx,rdc,q16.n14_w]
  have h:=fun (K:AV→St→Prop) X (hK)=>take2 (k:=k - 1) (b:=none) (K:=K) (n:=1) (m:=0) (f:=.fn F_q17 [.ptr H.length 0 1]) hk2 (H:=H ++ [.cells [vA],.cells [iv 1],.cells [.slice true 0 []],.cells [iv 0],.cells [iv 0,iv 0,iv 0],.cells [.sref (H.length + 4) 0 3 3 1]]) (L:=[.map shI 3 [(iv 0,.sref (H.length + 10) 0 2 2 1),(iv 1,.sref (H.length + 13) 0 1 1 1)],.cells [.map (H.length + 7)],x1,.cells [iv 0,iv 1],x2,x3,.cells [iv 2],X]) hK
  rw [show k - 1 + 1=k by omega] at h
  simp -implicitDefEqProofs only [sw0,sw1,sw2,sw3,sw4,sw5,reduceCtorEq,Nat.reduceEqDiff,Nat.reduceAdd,Nat.reduceDiv,Nat.reduceLeDiff,dw0,Int.reduceAdd,Int.reduceSub,Int.reduceMul,Int.reduceLT,Int.reduceLE,Int.reduceNeg,Int.reduceEq,Int.reduceToNat,Nat.reduceLT,Nat.reduceMul,Nat.reduceSub,Nat.reduceBEq,Nat.reduceLeDiff,xw0,eApp,rowOf,appRow,lkL,lkN,eMupd,vLook,mapSh,findE,putE,keqL,hasSh,fits,shb,Int.reduceBEq,eMksl,vSlc,boundsOf,boundOf,cleanL,Nat.reduceGT,Int.reduceGT,Int.reduceGE,Int.reduceDiv,Int.reduceTDiv,vAidx,rdc,Nat.add_assoc] at h
  refine h _ _ ?_
  clear h
  simp -implicitDefEqProofs only [sw0,sw1,sw2,sw3,sw4,sw5,reduceCtorEq,Nat.reduceEqDiff,Nat.reduceAdd,Nat.reduceDiv,Nat.reduceLeDiff,dw0,Int.reduceAdd,Int.reduceSub,Int.reduceMul,Int.reduceLT,Int.reduceLE,Int.reduceNeg,Int.reduceEq,Int.reduceToNat,Nat.reduceLT,Nat.reduceMul,Nat.reduceSub,Nat.reduceBEq,Nat.reduceLeDiff,xw0,eApp,rowOf,appRow,lkL,lkN,eMupd,vLook,mapSh,findE,putE,keqL,hasSh,fits,shb,Int.reduceBEq,eMksl,vSlc,boundsOf,boundOf,cleanL,Nat.reduceGT,Int.reduceGT,Int.reduceGE,Int.reduceDiv,Int.reduceTDiv,vAidx,rdc,q16.n16_w,q16.n17_w]
  rw [wl_1 (by omega)]
  simp -implicitDefEqProofs only [q16.n12_w,sw0,sw1,sw2,sw3,sw4,sw5,reduceCtorEq,Nat.reduceEqDiff,Nat.reduceAdd,Nat.reduceDiv,Nat.reduceLeDiff,dw0,Int.reduceAdd,Int.reduceSub,Int.reduceMul,Int.reduceLT,Int.reduceLE,Int.reduceNeg,Int.reduceEq,Int.reduceToNat,Nat.reduceLT,Nat.reduceMul,Nat.reduceSub,Nat.reduceBEq,Nat.reduceLeDiff,xw0,eApp,rowOf,appRow,lkL,lkN,eMupd,vLook,mapSh,findE,putE,keqL,hasSh,fits,shb,Int.reduceBEq,eMksl,vSlc,boundsOf,boundOf,cleanL,Nat.reduceGT,Int.reduceGT,Int.reduceGE,Int.reduceDiv,Int.reduceTDiv,vAidx,rdc,YK]
  exact hK
theorem yA1 (hk:1000≤k) {r0 r1 r6 r9 r10 r11 r12 r13 r14 r15 r16 r17 r18 r19 r20 r21 r22 r23 r24 r25 r26 r27 r28 r29 r30 r31 r32 r33 r34 r35 r36 r37 r38 r39 r40 r41 r42 r43 r44 r45 r46 r47 r48 r49 r50 r51 r52 r53 r54 r55 r56 r57 r58 r59 r60 r61 r62 r63 r64 r65 r66:AV} {x1 x2 x3:AObj} (hK:K (.bool true) ⟨H ++ [.cells [vA],.cells [iv 1],.cells [.slice true 0 []],.cells [iv 0],.cells [iv 0,iv 0,iv 1],.cells [.sref (H.length + 4) 0 3 3 1],.cells [.sref (H.length + 15) 0 1 2 1,.fn F_q17 [.ptr H.length 0 1]],.map shI 3 [(iv 0,.sref (H.length + 10) 0 2 2 1),(iv 1,.sref (H.length + 13) 0 1 1 1)],.cells [.map (H.length + 7)],x1,.cells [iv 0,iv 1],x2,x3,.cells [iv 2],.loop [r0,r1,.ptr H.length 0 1,.ptr (H.length + 1) 0 1,.ptr (H.length + 2) 0 1,.ptr (H.length + 3) 0 1,r6,.ptr (H.length + 5) 0 1,.ptr (H.length + 6) 0 2,r9,r10,r11,r12,r13,r14,r15,r16,r17,r18,r19,r20,r21,r22,r23,r24,r25,r26,r27,r28,r29,r30,r31,r32,r33,r34,r35,r36,r37,r38,r39,r40,r41,r42,r43,r44,r45,r46,r47,r48,r49,r50,r51,r52,r53,r54,r55,r56,r57,r58,r59,r60,r61,r62,r63,r64,r65,r66] [28,29] q16.n4 q16.n5 true none,.cells [iv 0,iv 0]],true⟩):YC ⟨prog,k + 1,b⟩ (H.length + 14) [iv 1,.sref (H.length + 13) 0 1 1 1] ⟨H ++ [.cells [vA],.cells [iv 1],.cells [.slice true 0 []],.cells [iv 0],.cells [iv 0,iv 0,iv 0],.cells [.sref (H.length + 4) 0 3 3 1],.cells [.sref (H.length + 15) 0 1 2 1,.fn F_q17 [.ptr H.length 0 1]],.map shI 3 [(iv 0,.sref (H.length + 10) 0 2 2 1),(iv 1,.sref (H.length + 13) 0 1 1 1)],.cells [.map (H.length + 7)],x1,.cells [iv 0,iv 1],x2,x3,.cells [iv 2],.loop [r0,r1,.ptr H.length 0 1,.ptr (H.length + 1) 0 1,.ptr (H.length + 2) 0 1,.ptr (H.length + 3) 0 1,r6,.ptr (H.length + 5) 0 1,.ptr (H.length + 6) 0 2,r9,r10,r11,r12,r13,r14,r15,r16,r17,r18,r19,r20,r21,r22,r23,r24,r25,r26,r27,r28,r29,r30,r31,r32,r33,r34,r35,r36,r37,r38,r39,r40,r41,r42,r43,r44,r45,r46,r47,r48,r49,r50,r51,r52,r53,r54,r55,r56,r57,r58,r59,r60,r61,r62,r63,r64,r65,r66] [28,29] q16.n4 q16.n5 true none,.cells [iv 0,iv 0]],true⟩ K:=by
  have hk1:100≤k:=by omega
  have hk2:100≤k - 1:=by omega
  refine YC_go (by simp -implicitDefEqProofs only [sw0,sw1,sw2,sw3,sw4,sw5,reduceCtorEq,Nat.reduceEqDiff,Nat.reduceAdd,Nat.reduceDiv,Nat.reduceLeDiff,dw0,Int.reduceAdd,Int.reduceSub,Int.reduceMul,Int.reduceLT,Int.reduceLE,Int.reduceNeg,Int.reduceEq,Int.reduceToNat,Nat.reduceLT,Nat.reduceMul,Nat.reduceSub,Nat.reduceBEq,Nat.reduceLeDiff,xw0,eApp,rowOf,appRow,lkL,lkN,eMupd,vLook,mapSh,findE,putE,keqL,hasSh,fits,shb,Int.reduceBEq,eMksl,vSlc,boundsOf,boundOf,cleanL,Nat.reduceGT,Int.reduceGT,Int.reduceGE,Int.reduceDiv,Int.reduceTDiv,vAidx,rdc]; rfl) rfl ?_
  simp -implicitDefEqProofs only [sw0,sw1,sw2,sw3,sw4,sw5,reduceCtorEq,Nat.reduceEqDiff,Nat.reduceAdd,Nat.reduceDiv,Nat.reduceLeDiff,dw0,Int.reduceAdd,Int.reduceSub,Int.reduceMul,Int.reduceLT,Int.reduceLE,Int.reduceNeg,Int.reduceEq,Int.reduceToNat,Nat.reduceLT,Nat.reduceMul,Nat.reduceSub,Nat.reduceBEq,Nat.reduceLeDiff,xw0,eApp,rowOf,appRow,lkL,lkN,eMupd,vLook,mapSh,findE,putE,keqL,hasSh,fits,shb,Int.reduceBEq,eMksl,vSlc,boundsOf,boundOf,cleanL,Nat.reduceGT,Int.reduceGT,Int.reduceGE,Int.reduceDiv,Int.reduceTDiv,vAidx,rdc,q16.n4_w,q16.n5_w,YK,Plan_u6]
  refine ⟨⟨_,_,_,_,rfl⟩,?_⟩
  rw [wl_1 (by omega)]
  simp -implicitDefEqProofs only [q16.n7_w,sw0,sw1,sw2,sw3,sw4,sw5,reduceCtorEq,Nat.reduceEqDiff,Nat.reduceAdd,Nat.reduceDiv,Nat.reduceLeDiff,dw0,Int.reduceAdd,Int.reduceSub,Int.reduceMul,Int.reduceLT,Int.reduceLE,Int.reduceNeg,Int.reduceEq,Int.reduceToNat,Nat.reduceLT,Nat.reduceMul,Nat.reduceSub,Nat.reduceBEq,Nat.reduceLeDiff,xw0,eApp,rowOf,appRow,lkL,lkN,eMupd,vLook,mapSh,findE,putE,keqL,hasSh,fits,shb,Int.reduceBEq,eMksl,vSlc,boundsOf,boundOf,cleanL,Nat.reduceGT,Int.reduceGT,Int.reduceGE,Int.reduceDiv,Int.reduceTDiv,vAidx,rdc,q16.n9_w]
  have h:=fun (K:AV→St→Prop) X (hK)=>put1'_2 (k:=k) (b:=none) (lk:=true) (K:=K) (n:=2) (m:=0) (z:=iv 0) (qs:=jA) (cl:=H.length) (v:=vA) hk1 (H:=H ++ [.cells [vA],.cells [iv 1],.cells [.slice true 0 []],.cells [iv 0],.cells [iv 0,iv 0,iv 0],.cells [.sref (H.length + 4) 0 3 3 1]]) (L:=[.map shI 3 [(iv 0,.sref (H.length + 10) 0 2 2 1),(iv 1,.sref (H.length + 13) 0 1 1 1)],.cells [.map (H.length + 7)],x1,.cells [iv 0,iv 1],x2,x3,.cells [iv 2],X]) vA_sl (by simp -implicitDefEqProofs only [sw0,sw1,sw2,sw3,sw4,sw5,reduceCtorEq,Nat.reduceEqDiff,Nat.reduceAdd,Nat.reduceDiv,Nat.reduceLeDiff,dw0,Int.reduceAdd,Int.reduceSub,Int.reduceMul,Int.reduceLT,Int.reduceLE,Int.reduceNeg,Int.reduceEq,Int.reduceToNat,Nat.reduceLT,Nat.reduceMul,Nat.reduceSub,Nat.reduceBEq,Nat.reduceLeDiff,xw0,eApp,rowOf,appRow,lkL,lkN,eMupd,vLook,mapSh,findE,putE,keqL,hasSh,fits,shb,Int.reduceBEq,eMksl,vSlc,boundsOf,boundOf,cleanL,Nat.reduceGT,Int.reduceGT,Int.reduceGE,Int.reduceDiv,Int.reduceTDiv,vAidx,rdc]) (by decide) (by decide) hK
  simp -implicitDefEqProofs only [sw0,sw1,sw2,sw3,sw4,sw5,reduceCtorEq,Nat.reduceEqDiff,Nat.reduceAdd,Nat.reduceDiv,Nat.reduceLeDiff,dw0,Int.reduceAdd,Int.reduceSub,Int.reduceMul,Int.reduceLT,Int.reduceLE,Int.reduceNeg,Int.reduceEq,Int.reduceToNat,Nat.reduceLT,Nat.reduceMul,Nat.reduceSub,Nat.reduceBEq,Nat.reduceLeDiff,xw0,eApp,rowOf,appRow,lkL,lkN,eMupd,vLook,mapSh,findE,putE,keqL,hasSh,fits,shb,Int.reduceBEq,eMksl,vSlc,boundsOf,boundOf,cleanL,Nat.reduceGT,Int.reduceGT,Int.reduceGE,Int.reduceDiv,Int.reduceTDiv,vAidx,rdc,jA,Nat.add_assoc] at h
  refine h _ _ ?_
  clear h
  rw [wl_1 (by omega)]
  simp -implicitDefEqProofs only [q16.n7_w,sw0,sw1,sw2,sw3,sw4,sw5,reduceCtorEq,Nat.reduceEqDiff,Nat.reduceAdd,Nat.reduceDiv,Nat.reduceLeDiff,dw0,Int.reduceAdd,Int.reduceSub,Int.reduceMul,Int.reduceLT,Int.reduceLE,Int.reduceNeg,Int.reduceEq,Int.reduceToNat,Nat.reduceLT,Nat.reduceMul,Nat.reduceSub,Nat.reduceBEq,Nat.reduceLeDiff,xw0,eApp,rowOf,appRow,lkL,lkN,eMupd,vLook,mapSh,findE,putE,keqL,hasSh,fits,shb,Int.reduceBEq,eMksl,vSlc,boundsOf,boundOf,cleanL,Nat.reduceGT,Int.reduceGT,Int.reduceGE,Int.reduceDiv,Int.reduceTDiv,vAidx,rdc,q16.n10_w,Plan_u11]
  rw [wl_1 (by omega)]
  simp -implicitDefEqProofs only [q16.n12_w,sw0,sw1,sw2,sw3,sw4,sw5,reduceCtorEq,Nat.reduceEqDiff,Nat.reduceAdd,Nat.reduceDiv,Nat.reduceLeDiff,dw0,Int.reduceAdd,Int.reduceSub,Int.reduceMul,Int.reduceLT,Int.reduceLE,Int.reduceNeg,Int.reduceEq,Int.reduceToNat,Nat.reduceLT,Nat.reduceMul,Nat.reduceSub,Nat.reduceBEq,Nat.reduceLeDiff,xw0,eApp,rowOf,appRow,lkL,lkN,eMupd,vLook,mapSh,findE,putE,keqL,hasSh,fits,shb,Int.reduceBEq,eMksl,vSlc,boundsOf,boundOf,cleanL,Nat.reduceGT,Int.reduceGT,Int.reduceGE,Int.reduceDiv,Int.reduceTDiv,vAidx,rdc,q16.n14_w]
  have h:=fun (K:AV→St→Prop) X (hK)=>take2 (k:=k - 1) (b:=none) (K:=K) (n:=2) (m:=0) (f:=.fn F_q17 [.ptr H.length 0 1]) hk2 (H:=H ++ [.cells [vA],.cells [iv 1],.cells [.slice true 0 []],.cells [iv 0],.cells [iv 0,iv 0,iv 0],.cells [.sref (H.length + 4) 0 3 3 1]]) (L:=[.map shI 3 [(iv 0,.sref (H.length + 10) 0 2 2 1),(iv 1,.sref (H.length + 13) 0 1 1 1)],.cells [.map (H.length + 7)],x1,.cells [iv 0,iv 1],x2,x3,.cells [iv 2],X]) hK
  rw [show k - 1 + 1=k by omega] at h
  simp -implicitDefEqProofs only [sw0,sw1,sw2,sw3,sw4,sw5,reduceCtorEq,Nat.reduceEqDiff,Nat.reduceAdd,Nat.reduceDiv,Nat.reduceLeDiff,dw0,Int.reduceAdd,Int.reduceSub,Int.reduceMul,Int.reduceLT,Int.reduceLE,Int.reduceNeg,Int.reduceEq,Int.reduceToNat,Nat.reduceLT,Nat.reduceMul,Nat.reduceSub,Nat.reduceBEq,Nat.reduceLeDiff,xw0,eApp,rowOf,appRow,lkL,lkN,eMupd,vLook,mapSh,findE,putE,keqL,hasSh,fits,shb,Int.reduceBEq,eMksl,vSlc,boundsOf,boundOf,cleanL,Nat.reduceGT,Int.reduceGT,Int.reduceGE,Int.reduceDiv,Int.reduceTDiv,vAidx,rdc,Nat.add_assoc] at h
  refine h _ _ ?_
  clear h
  simp -implicitDefEqProofs only [sw0,sw1,sw2,sw3,sw4,sw5,reduceCtorEq,Nat.reduceEqDiff,Nat.reduceAdd,Nat.reduceDiv,Nat.reduceLeDiff,dw0,Int.reduceAdd,Int.reduceSub,Int.reduceMul,Int.reduceLT,Int.reduceLE,Int.reduceNeg,Int.reduceEq,Int.reduceToNat,Nat.reduceLT,Nat.reduceMul,Nat.reduceSub,Nat.reduceBEq,Nat.reduceLeDiff,xw0,eApp,rowOf,appRow,lkL,lkN,eMupd,vLook,mapSh,findE,putE,keqL,hasSh,fits,shb,Int.reduceBEq,eMksl,vSlc,boundsOf,boundOf,cleanL,Nat.reduceGT,Int.reduceGT,Int.reduceGE,Int.reduceDiv,Int.reduceTDiv,vAidx,rdc,q16.n16_w,q16.n17_w]
  rw [wl_1 (by omega)]
  simp -implicitDefEqProofs only [q16.n12_w,sw0,sw1,sw2,sw3,sw4,sw5,reduceCtorEq,Nat.reduceEqDiff,Nat.reduceAdd,Nat.reduceDiv,Nat.reduceLeDiff,dw0,Int.reduceAdd,Int.reduceSub,Int.reduceMul,Int.reduceLT,Int.reduceLE,Int.reduceNeg,Int.reduceEq,Int.reduceToNat,Nat.reduceLT,Nat.reduceMul,Nat.reduceSub,Nat.reduceBEq,Nat.reduceLeDiff,xw0,eApp,rowOf,appRow,lkL,lkN,eMupd,vLook,mapSh,findE,putE,keqL,hasSh,fits,shb,Int.reduceBEq,eMksl,vSlc,boundsOf,boundOf,cleanL,Nat.reduceGT,Int.reduceGT,Int.reduceGE,Int.reduceDiv,Int.reduceTDiv,vAidx,rdc,YK]
  exact hK
theorem yA2 (hk:1000≤k) {r0 r1 r6 r9 r10 r11 r12 r13 r14 r15 r16 r17 r18 r19 r20 r21 r22 r23 r24 r25 r26 r27 r28 r29 r30 r31 r32 r33 r34 r35 r36 r37 r38 r39 r40 r41 r42 r43 r44 r45 r46 r47 r48 r49 r50 r51 r52 r53 r54 r55 r56 r57 r58 r59 r60 r61 r62 r63 r64 r65 r66:AV} {x1 x2 x3:AObj} (hK:K (.bool true) ⟨H ++ [.cells [vA],.cells [iv 1],.cells [.slice true 0 []],.cells [iv 0],.cells [iv 2,iv 0,iv 1],.cells [.sref (H.length + 4) 0 3 3 1],.cells [.slice false 1 [],.fn F_q17 [.ptr H.length 0 1]],.map shI 3 [(iv 0,.sref (H.length + 10) 0 2 2 1),(iv 1,.sref (H.length + 13) 0 1 1 1)],.cells [.map (H.length + 7)],x1,.cells [iv 0,iv 1],x2,x3,.cells [iv 2],.loop [r0,r1,.ptr H.length 0 1,.ptr (H.length + 1) 0 1,.ptr (H.length + 2) 0 1,.ptr (H.length + 3) 0 1,r6,.ptr (H.length + 5) 0 1,.ptr (H.length + 6) 0 2,r9,r10,r11,r12,r13,r14,r15,r16,r17,r18,r19,r20,r21,r22,r23,r24,r25,r26,r27,r28,r29,r30,r31,r32,r33,r34,r35,r36,r37,r38,r39,r40,r41,r42,r43,r44,r45,r46,r47,r48,r49,r50,r51,r52,r53,r54,r55,r56,r57,r58,r59,r60,r61,r62,r63,r64,r65,r66] [28,29] q16.n4 q16.n5 true none,.cells [iv 0,iv 0]],true⟩):YC ⟨prog,k + 1,b⟩ (H.length + 14) [iv 2,.slice true 0 []] ⟨H ++ [.cells [vA],.cells [iv 1],.cells [.slice true 0 []],.cells [iv 0],.cells [iv 0,iv 0,iv 1],.cells [.sref (H.length + 4) 0 3 3 1],.cells [.sref (H.length + 15) 0 1 2 1,.fn F_q17 [.ptr H.length 0 1]],.map shI 3 [(iv 0,.sref (H.length + 10) 0 2 2 1),(iv 1,.sref (H.length + 13) 0 1 1 1)],.cells [.map (H.length + 7)],x1,.cells [iv 0,iv 1],x2,x3,.cells [iv 2],.loop [r0,r1,.ptr H.length 0 1,.ptr (H.length + 1) 0 1,.ptr (H.length + 2) 0 1,.ptr (H.length + 3) 0 1,r6,.ptr (H.length + 5) 0 1,.ptr (H.length + 6) 0 2,r9,r10,r11,r12,r13,r14,r15,r16,r17,r18,r19,r20,r21,r22,r23,r24,r25,r26,r27,r28,r29,r30,r31,r32,r33,r34,r35,r36,r37,r38,r39,r40,r41,r42,r43,r44,r45,r46,r47,r48,r49,r50,r51,r52,r53,r54,r55,r56,r57,r58,r59,r60,r61,r62,r63,r64,r65,r66] [28,29] q16.n4 q16.n5 true none,.cells [iv 0,iv 0]],true⟩ K:=by
  have hk1:100≤k:=by omega
  have hk2:100≤k - 1:=by omega
  refine YC_go (by simp -implicitDefEqProofs only [sw0,sw1,sw2,sw3,sw4,sw5,reduceCtorEq,Nat.reduceEqDiff,Nat.reduceAdd,Nat.reduceDiv,Nat.reduceLeDiff,dw0,Int.reduceAdd,Int.reduceSub,Int.reduceMul,Int.reduceLT,Int.reduceLE,Int.reduceNeg,Int.reduceEq,Int.reduceToNat,Nat.reduceLT,Nat.reduceMul,Nat.reduceSub,Nat.reduceBEq,Nat.reduceLeDiff,xw0,eApp,rowOf,appRow,lkL,lkN,eMupd,vLook,mapSh,findE,putE,keqL,hasSh,fits,shb,Int.reduceBEq,eMksl,vSlc,boundsOf,boundOf,cleanL,Nat.reduceGT,Int.reduceGT,Int.reduceGE,Int.reduceDiv,Int.reduceTDiv,vAidx,rdc]; rfl) rfl ?_
  simp -implicitDefEqProofs only [sw0,sw1,sw2,sw3,sw4,sw5,reduceCtorEq,Nat.reduceEqDiff,Nat.reduceAdd,Nat.reduceDiv,Nat.reduceLeDiff,dw0,Int.reduceAdd,Int.reduceSub,Int.reduceMul,Int.reduceLT,Int.reduceLE,Int.reduceNeg,Int.reduceEq,Int.reduceToNat,Nat.reduceLT,Nat.reduceMul,Nat.reduceSub,Nat.reduceBEq,Nat.reduceLeDiff,xw0,eApp,rowOf,appRow,lkL,lkN,eMupd,vLook,mapSh,findE,putE,keqL,hasSh,fits,shb,Int.reduceBEq,eMksl,vSlc,boundsOf,boundOf,cleanL,Nat.reduceGT,Int.reduceGT,Int.reduceGE,Int.reduceDiv,Int.reduceTDiv,vAidx,rdc,q16.n4_w,q16.n5_w,YK,Plan_u6]
  refine ⟨⟨_,_,_,_,rfl⟩,?_⟩
  rw [wl_1 (by omega)]
  simp -implicitDefEqProofs only [q16.n7_w,sw0,sw1,sw2,sw3,sw4,sw5,reduceCtorEq,Nat.reduceEqDiff,Nat.reduceAdd,Nat.reduceDiv,Nat.reduceLeDiff,dw0,Int.reduceAdd,Int.reduceSub,Int.reduceMul,Int.reduceLT,Int.reduceLE,Int.reduceNeg,Int.reduceEq,Int.reduceToNat,Nat.reduceLT,Nat.reduceMul,Nat.reduceSub,Nat.reduceBEq,Nat.reduceLeDiff,xw0,eApp,rowOf,appRow,lkL,lkN,eMupd,vLook,mapSh,findE,putE,keqL,hasSh,fits,shb,Int.reduceBEq,eMksl,vSlc,boundsOf,boundOf,cleanL,Nat.reduceGT,Int.reduceGT,Int.reduceGE,Int.reduceDiv,Int.reduceTDiv,vAidx,rdc,q16.n10_w,Plan_u11]
  rw [wl_1 (by omega)]
  simp -implicitDefEqProofs only [q16.n12_w,sw0,sw1,sw2,sw3,sw4,sw5,reduceCtorEq,Nat.reduceEqDiff,Nat.reduceAdd,Nat.reduceDiv,Nat.reduceLeDiff,dw0,Int.reduceAdd,Int.reduceSub,Int.reduceMul,Int.reduceLT,Int.reduceLE,Int.reduceNeg,Int.reduceEq,Int.reduceToNat,Nat.reduceLT,Nat.reduceMul,Nat.reduceSub,Nat.reduceBEq,Nat.reduceLeDiff,xw0,eApp,rowOf,appRow,lkL,lkN,eMupd,vLook,mapSh,findE,putE,keqL,hasSh,fits,shb,Int.reduceBEq,eMksl,vSlc,boundsOf,boundOf,cleanL,Nat.reduceGT,Int.reduceGT,Int.reduceGE,Int.reduceDiv,Int.reduceTDiv,vAidx,rdc,q16.n14_w]
  have h:=fun (K:AV→St→Prop) X (hK)=>take1 (k:=k - 1) (b:=none) (K:=K) (ver:=2) (R:=[iv 0]) (n:=0) (f:=.fn F_q17 [.ptr H.length 0 1]) hk2 rfl (H:=H ++ [.cells [vA],.cells [iv 1],.cells [.slice true 0 []],.cells [iv 0],.cells [iv 0,iv 0,iv 1],.cells [.sref (H.length + 4) 0 3 3 1]]) (L:=[.map shI 3 [(iv 0,.sref (H.length + 10) 0 2 2 1),(iv 1,.sref (H.length + 13) 0 1 1 1)],.cells [.map (H.length + 7)],x1,.cells [iv 0,iv 1],x2,x3,.cells [iv 2],X]) hK
  rw [show k - 1 + 1=k by omega] at h
  simp -implicitDefEqProofs only [sw0,sw1,sw2,sw3,sw4,sw5,reduceCtorEq,Nat.reduceEqDiff,Nat.reduceAdd,Nat.reduceDiv,Nat.reduceLeDiff,dw0,Int.reduceAdd,Int.reduceSub,Int.reduceMul,Int.reduceLT,Int.reduceLE,Int.reduceNeg,Int.reduceEq,Int.reduceToNat,Nat.reduceLT,Nat.reduceMul,Nat.reduceSub,Nat.reduceBEq,Nat.reduceLeDiff,xw0,eApp,rowOf,appRow,lkL,lkN,eMupd,vLook,mapSh,findE,putE,keqL,hasSh,fits,shb,Int.reduceBEq,eMksl,vSlc,boundsOf,boundOf,cleanL,Nat.reduceGT,Int.reduceGT,Int.reduceGE,Int.reduceDiv,Int.reduceTDiv,vAidx,rdc,Nat.add_assoc] at h
  refine h _ _ ?_
  clear h
  simp -implicitDefEqProofs only [sw0,sw1,sw2,sw3,sw4,sw5,reduceCtorEq,Nat.reduceEqDiff,Nat.reduceAdd,Nat.reduceDiv,Nat.reduceLeDiff,dw0,Int.reduceAdd,Int.reduceSub,Int.reduceMul,Int.reduceLT,Int.reduceLE,Int.reduceNeg,Int.reduceEq,Int.reduceToNat,Nat.reduceLT,Nat.reduceMul,Nat.reduceSub,Nat.reduceBEq,Nat.reduceLeDiff,xw0,eApp,rowOf,appRow,lkL,lkN,eMupd,vLook,mapSh,findE,putE,keqL,hasSh,fits,shb,Int.reduceBEq,eMksl,vSlc,boundsOf,boundOf,cleanL,Nat.reduceGT,Int.reduceGT,Int.reduceGE,Int.reduceDiv,Int.reduceTDiv,vAidx,rdc,q16.n16_w,q16.n17_w]
  rw [wl_1 (by omega)]
  simp -implicitDefEqProofs only [q16.n12_w,sw0,sw1,sw2,sw3,sw4,sw5,reduceCtorEq,Nat.reduceEqDiff,Nat.reduceAdd,Nat.reduceDiv,Nat.reduceLeDiff,dw0,Int.reduceAdd,Int.reduceSub,Int.reduceMul,Int.reduceLT,Int.reduceLE,Int.reduceNeg,Int.reduceEq,Int.reduceToNat,Nat.reduceLT,Nat.reduceMul,Nat.reduceSub,Nat.reduceBEq,Nat.reduceLeDiff,xw0,eApp,rowOf,appRow,lkL,lkN,eMupd,vLook,mapSh,findE,putE,keqL,hasSh,fits,shb,Int.reduceBEq,eMksl,vSlc,boundsOf,boundOf,cleanL,Nat.reduceGT,Int.reduceGT,Int.reduceGE,Int.reduceDiv,Int.reduceTDiv,vAidx,rdc,YK]
  exact hK
theorem yA3 (hk:1000≤k) {r0 r1 r6 r9 r10 r11 r12 r13 r14 r15 r16 r17 r18 r19 r20 r21 r22 r23 r24 r25 r26 r27 r28 r29 r30 r31 r32 r33 r34 r35 r36 r37 r38 r39 r40 r41 r42 r43 r44 r45 r46 r47 r48 r49 r50 r51 r52 r53 r54 r55 r56 r57 r58 r59 r60 r61 r62 r63 r64 r65 r66:AV} {x1 x2 x3:AObj} {t:Nat} (hK:K (.bool true) ⟨H ++ [.cells [vA],.cells [iv 1],.cells [.slice true 0 []],.cells [iv 0],.cells [iv 2,iv 0,iv 1],.cells [.sref (H.length + 4) 0 3 3 1],.cells [.slice false 1 [],.fn F_q17 [.ptr H.length 0 1]],.map shI 3 [(iv 0,.sref (H.length + 10) 0 2 2 1),(iv 1,.sref (H.length + 13) 0 1 1 1)],.cells [.map (H.length + 7)],x1,.cells [iv 0,iv 1],x2,x3,.cells [iv 2],.loop [r0,r1,.ptr H.length 0 1,.ptr (H.length + 1) 0 1,.ptr (H.length + 2) 0 1,.ptr (H.length + 3) 0 1,r6,.ptr (H.length + 5) 0 1,.ptr (H.length + 6) 0 2,r9,r10,r11,r12,r13,r14,r15,r16,r17,r18,r19,r20,r21,r22,r23,r24,r25,r26,r27,r28,r29,r30,r31,r32,r33,r34,r35,r36,r37,r38,r39,r40,r41,r42,r43,r44,r45,r46,r47,r48,r49,r50,r51,r52,r53,r54,r55,r56,r57,r58,r59,r60,r61,r62,r63,r64,r65,r66] [28,29] q16.n4 q16.n5 true none,.cells [iv 0,iv 0]],true⟩):YC ⟨prog,k + 1,b⟩ (H.length + 14) [iv t,.slice true 0 []] ⟨H ++ [.cells [vA],.cells [iv 1],.cells [.slice true 0 []],.cells [iv 0],.cells [iv 2,iv 0,iv 1],.cells [.sref (H.length + 4) 0 3 3 1],.cells [.slice false 1 [],.fn F_q17 [.ptr H.length 0 1]],.map shI 3 [(iv 0,.sref (H.length + 10) 0 2 2 1),(iv 1,.sref (H.length + 13) 0 1 1 1)],.cells [.map (H.length + 7)],x1,.cells [iv 0,iv 1],x2,x3,.cells [iv 2],.loop [r0,r1,.ptr H.length 0 1,.ptr (H.length + 1) 0 1,.ptr (H.length + 2) 0 1,.ptr (H.length + 3) 0 1,r6,.ptr (H.length + 5) 0 1,.ptr (H.length + 6) 0 2,r9,r10,r11,r12,r13,r14,r15,r16,r17,r18,r19,r20,r21,r22,r23,r24,r25,r26,r27,r28,r29,r30,r31,r32,r33,r34,r35,r36,r37,r38,r39,r40,r41,r42,r43,r44,r45,r46,r47,r48,r49,r50,r51,r52,r53,r54,r55,r56,r57,r58,r59,r60,r61,r62,r63,r64,r65,r66] [28,29] q16.n4 q16.n5 true none,.cells [iv 0,iv 0]],true⟩ K:=by
  have hk1:100≤k:=by omega
  have hk2:100≤k - 1:=by omega
  refine YC_go (by simp -implicitDefEqProofs only [sw0,sw1,sw2,sw3,sw4,sw5,reduceCtorEq,Nat.reduceEqDiff,Nat.reduceAdd,Nat.reduceDiv,Nat.reduceLeDiff,dw0,Int.reduceAdd,Int.reduceSub,Int.reduceMul,Int.reduceLT,Int.reduceLE,Int.reduceNeg,Int.reduceEq,Int.reduceToNat,Nat.reduceLT,Nat.reduceMul,Nat.reduceSub,Nat.reduceBEq,Nat.reduceLeDiff,xw0,eApp,rowOf,appRow,lkL,lkN,eMupd,vLook,mapSh,findE,putE,keqL,hasSh,fits,shb,Int.reduceBEq,eMksl,vSlc,boundsOf,boundOf,cleanL,Nat.reduceGT,Int.reduceGT,Int.reduceGE,Int.reduceDiv,Int.reduceTDiv,vAidx,rdc]; rfl) rfl ?_
  simp -implicitDefEqProofs only [sw0,sw1,sw2,sw3,sw4,sw5,reduceCtorEq,Nat.reduceEqDiff,Nat.reduceAdd,Nat.reduceDiv,Nat.reduceLeDiff,dw0,Int.reduceAdd,Int.reduceSub,Int.reduceMul,Int.reduceLT,Int.reduceLE,Int.reduceNeg,Int.reduceEq,Int.reduceToNat,Nat.reduceLT,Nat.reduceMul,Nat.reduceSub,Nat.reduceBEq,Nat.reduceLeDiff,xw0,eApp,rowOf,appRow,lkL,lkN,eMupd,vLook,mapSh,findE,putE,keqL,hasSh,fits,shb,Int.reduceBEq,eMksl,vSlc,boundsOf,boundOf,cleanL,Nat.reduceGT,Int.reduceGT,Int.reduceGE,Int.reduceDiv,Int.reduceTDiv,vAidx,rdc,q16.n4_w,q16.n5_w,YK,Plan_u6]
  refine ⟨⟨_,_,_,_,rfl⟩,?_⟩
  rw [wl_1 (by omega)]
  simp -implicitDefEqProofs only [q16.n7_w,sw0,sw1,sw2,sw3,sw4,sw5,reduceCtorEq,Nat.reduceEqDiff,Nat.reduceAdd,Nat.reduceDiv,Nat.reduceLeDiff,dw0,Int.reduceAdd,Int.reduceSub,Int.reduceMul,Int.reduceLT,Int.reduceLE,Int.reduceNeg,Int.reduceEq,Int.reduceToNat,Nat.reduceLT,Nat.reduceMul,Nat.reduceSub,Nat.reduceBEq,Nat.reduceLeDiff,xw0,eApp,rowOf,appRow,lkL,lkN,eMupd,vLook,mapSh,findE,putE,keqL,hasSh,fits,shb,Int.reduceBEq,eMksl,vSlc,boundsOf,boundOf,cleanL,Nat.reduceGT,Int.reduceGT,Int.reduceGE,Int.reduceDiv,Int.reduceTDiv,vAidx,rdc,q16.n10_w,Plan_u11]
  rw [wl_1 (by omega)]
  simp -implicitDefEqProofs only [q16.n12_w,sw0,sw1,sw2,sw3,sw4,sw5,reduceCtorEq,Nat.reduceEqDiff,Nat.reduceAdd,Nat.reduceDiv,Nat.reduceLeDiff,dw0,Int.reduceAdd,Int.reduceSub,Int.reduceMul,Int.reduceLT,Int.reduceLE,Int.reduceNeg,Int.reduceEq,Int.reduceToNat,Nat.reduceLT,Nat.reduceMul,Nat.reduceSub,Nat.reduceBEq,Nat.reduceLeDiff,xw0,eApp,rowOf,appRow,lkL,lkN,eMupd,vLook,mapSh,findE,putE,keqL,hasSh,fits,shb,Int.reduceBEq,eMksl,vSlc,boundsOf,boundOf,cleanL,Nat.reduceGT,Int.reduceGT,Int.reduceGE,Int.reduceDiv,Int.reduceTDiv,vAidx,rdc,YK]
  exact hK
theorem runA (hk:1000≤k) {r0 r1 r6 r9 r10 r11 r12 r13 r14 r15 r16 r17 r18 r19 r20 r21 r22 r23 r24 r25 r26 r27 r28 r29 r30 r31 r32 r33 r34 r35 r36 r37 r38 r39 r40 r41 r42 r43 r44 r45 r46 r47 r48 r49 r50 r51 r52 r53 r54 r55 r56 r57 r58 r59 r60 r61 r62 r63 r64 r65 r66:AV} {x1 x2 x3:AObj} (hK:K (.tup []) ⟨H ++ [.cells [vA],.cells [iv 1],.cells [.slice true 0 []],.cells [iv 0],.cells [iv 2,iv 0,iv 1],.cells [.sref (H.length + 4) 0 3 3 1],.cells [.slice false 1 [],.fn F_q17 [.ptr H.length 0 1]],.map shI 3 [(iv 0,.sref (H.length + 10) 0 2 2 1),(iv 1,.sref (H.length + 13) 0 1 1 1)],.cells [.map (H.length + 7)],x1,.cells [iv 0,iv 1],x2,x3,.cells [iv 2],.loop [r0,r1,.ptr H.length 0 1,.ptr (H.length + 1) 0 1,.ptr (H.length + 2) 0 1,.ptr (H.length + 3) 0 1,r6,.ptr (H.length + 5) 0 1,.ptr (H.length + 6) 0 2,r9,r10,r11,r12,r13,r14,r15,r16,r17,r18,r19,r20,r21,r22,r23,r24,r25,r26,r27,r28,r29,r30,r31,r32,r33,r34,r35,r36,r37,r38,r39,r40,r41,r42,r43,r44,r45,r46,r47,r48,r49,r50,r51,r52,r53,r54,r55,r56,r57,r58,r59,r60,r61,r62,r63,r64,r65,r66] [28,29] q16.n4 q16.n5 true none,.cells [iv 0,iv 0]],true⟩):VC ⟨prog,k + 2,b⟩ F_q41 [.yield (H.length + 14),.ptr (H.length + 8) 0 1] ⟨H ++ [.cells [vA],.cells [iv 1],.cells [.slice true 0 []],.cells [iv 0],.cells [iv 0,iv 0,iv 0],.cells [.sref (H.length + 4) 0 3 3 1],.cells [.slice true 0 [],.fn F_q17 [.ptr H.length 0 1]],.map shI 3 [(iv 0,.sref (H.length + 10) 0 2 2 1),(iv 1,.sref (H.length + 13) 0 1 1 1)],.cells [.map (H.length + 7)],x1,.cells [iv 0,iv 1],x2,x3,.cells [iv 2],.loop [r0,r1,.ptr H.length 0 1,.ptr (H.length + 1) 0 1,.ptr (H.length + 2) 0 1,.ptr (H.length + 3) 0 1,r6,.ptr (H.length + 5) 0 1,.ptr (H.length + 6) 0 2,r9,r10,r11,r12,r13,r14,r15,r16,r17,r18,r19,r20,r21,r22,r23,r24,r25,r26,r27,r28,r29,r30,r31,r32,r33,r34,r35,r36,r37,r38,r39,r40,r41,r42,r43,r44,r45,r46,r47,r48,r49,r50,r51,r52,r53,r54,r55,r56,r57,r58,r59,r60,r61,r62,r63,r64,r65,r66] [28,29] q16.n4 q16.n5 true none],lk⟩ K:=by
  refine slots_1_s (k:=k + 1) (J:=fun t s=>(t=0∧∃ lk,s=⟨H ++ [.cells [vA],.cells [iv 1],.cells [.slice true 0 []],.cells [iv 0],.cells [iv 0,iv 0,iv 0],.cells [.sref (H.length + 4) 0 3 3 1],.cells [.slice true 0 [],.fn F_q17 [.ptr H.length 0 1]],.map shI 3 [(iv 0,.sref (H.length + 10) 0 2 2 1),(iv 1,.sref (H.length + 13) 0 1 1 1)],.cells [.map (H.length + 7)],x1,.cells [iv 0,iv 1],x2,x3,.cells [iv 2],.loop [r0,r1,.ptr H.length 0 1,.ptr (H.length + 1) 0 1,.ptr (H.length + 2) 0 1,.ptr (H.length + 3) 0 1,r6,.ptr (H.length + 5) 0 1,.ptr (H.length + 6) 0 2,r9,r10,r11,r12,r13,r14,r15,r16,r17,r18,r19,r20,r21,r22,r23,r24,r25,r26,r27,r28,r29,r30,r31,r32,r33,r34,r35,r36,r37,r38,r39,r40,r41,r42,r43,r44,r45,r46,r47,r48,r49,r50,r51,r52,r53,r54,r55,r56,r57,r58,r59,r60,r61,r62,r63,r64,r65,r66] [28,29] q16.n4 q16.n5 true none],lk⟩)∨(t=1∧s=⟨H ++ [.cells [vA],.cells [iv 1],.cells [.slice true 0 []],.cells [iv 0],.cells [iv 0,iv 0,iv 0],.cells [.sref (H.length + 4) 0 3 3 1],.cells [.sref (H.length + 15) 0 1 2 1,.fn F_q17 [.ptr H.length 0 1]],.map shI 3 [(iv 0,.sref (H.length + 10) 0 2 2 1),(iv 1,.sref (H.length + 13) 0 1 1 1)],.cells [.map (H.length + 7)],x1,.cells [iv 0,iv 1],x2,x3,.cells [iv 2],.loop [r0,r1,.ptr H.length 0 1,.ptr (H.length + 1) 0 1,.ptr (H.length + 2) 0 1,.ptr (H.length + 3) 0 1,r6,.ptr (H.length + 5) 0 1,.ptr (H.length + 6) 0 2,r9,r10,r11,r12,r13,r14,r15,r16,r17,r18,r19,r20,r21,r22,r23,r24,r25,r26,r27,r28,r29,r30,r31,r32,r33,r34,r35,r36,r37,r38,r39,r40,r41,r42,r43,r44,r45,r46,r47,r48,r49,r50,r51,r52,r53,r54,r55,r56,r57,r58,r59,r60,r61,r62,r63,r64,r65,r66] [28,29] q16.n4 q16.n5 true none,.cells [iv 0,iv 0]],true⟩)∨(t=2∧s=⟨H ++ [.cells [vA],.cells [iv 1],.cells [.slice true 0 []],.cells [iv 0],.cells [iv 0,iv 0,iv 1],.cells [.sref (H.length + 4) 0 3 3 1],.cells [.sref (H.length + 15) 0 1 2 1,.fn F_q17 [.ptr H.length 0 1]],.map shI 3 [(iv 0,.sref (H.length + 10) 0 2 2 1),(iv 1,.sref (H.length + 13) 0 1 1 1)],.cells [.map (H.length + 7)],x1,.cells [iv 0,iv 1],x2,x3,.cells [iv 2],.loop [r0,r1,.ptr H.length 0 1,.ptr (H.length + 1) 0 1,.ptr (H.length + 2) 0 1,.ptr (H.length + 3) 0 1,r6,.ptr (H.length + 5) 0 1,.ptr (H.length + 6) 0 2,r9,r10,r11,r12,r13,r14,r15,r16,r17,r18,r19,r20,r21,r22,r23,r24,r25,r26,r27,r28,r29,r30,r31,r32,r33,r34,r35,r36,r37,r38,r39,r40,r41,r42,r43,r44,r45,r46,r47,r48,r49,r50,r51,r52,r53,r54,r55,r56,r57,r58,r59,r60,r61,r62,r63,r64,r65,r66] [28,29] q16.n4 q16.n5 true none,.cells [iv 0,iv 0]],true⟩)∨(3≤t∧s=⟨H ++ [.cells [vA],.cells [iv 1],.cells [.slice true 0 []],.cells [iv 0],.cells [iv 2,iv 0,iv 1],.cells [.sref (H.length + 4) 0 3 3 1],.cells [.slice false 1 [],.fn F_q17 [.ptr H.length 0 1]],.map shI 3 [(iv 0,.sref (H.length + 10) 0 2 2 1),(iv 1,.sref (H.length + 13) 0 1 1 1)],.cells [.map (H.length + 7)],x1,.cells [iv 0,iv 1],x2,x3,.cells [iv 2],.loop [r0,r1,.ptr H.length 0 1,.ptr (H.length + 1) 0 1,.ptr (H.length + 2) 0 1,.ptr (H.length + 3) 0 1,r6,.ptr (H.length + 5) 0 1,.ptr (H.length + 6) 0 2,r9,r10,r11,r12,r13,r14,r15,r16,r17,r18,r19,r20,r21,r22,r23,r24,r25,r26,r27,r28,r29,r30,r31,r32,r33,r34,r35,r36,r37,r38,r39,r40,r41,r42,r43,r44,r45,r46,r47,r48,r49,r50,r51,r52,r53,r54,r55,r56,r57,r58,r59,r60,r61,r62,r63,r64,r65,r66] [28,29] q16.n4 q16.n5 true none,.cells [iv 0,iv 0]],true⟩)) (R:=fun s=>s=⟨H ++ [.cells [vA],.cells [iv 1],.cells [.slice true 0 []],.cells [iv 0],.cells [iv 2,iv 0,iv 1],.cells [.sref (H.length + 4) 0 3 3 1],.cells [.slice false 1 [],.fn F_q17 [.ptr H.length 0 1]],.map shI 3 [(iv 0,.sref (H.length + 10) 0 2 2 1),(iv 1,.sref (H.length + 13) 0 1 1 1)],.cells [.map (H.length + 7)],x1,.cells [iv 0,iv 1],x2,x3,.cells [iv 2],.loop [r0,r1,.ptr H.length 0 1,.ptr (H.length + 1) 0 1,.ptr (H.length + 2) 0 1,.ptr (H.length + 3) 0 1,r6,.ptr (H.length + 5) 0 1,.ptr (H.length + 6) 0 2,r9,r10,r11,r12,r13,r14,r15,r16,r17,r18,r19,r20,r21,r22,r23,r24,r25,r26,r27,r28,r29,r30,r31,r32,r33,r34,r35,r36,r37,r38,r39,r40,r41,r42,r43,r44,r45,r46,r47,r48,r49,r50,r51,r52,r53,r54,r55,r56,r57,r58,r59,r60,r61,r62,r63,r64,r65,r66] [28,29] q16.n4 q16.n5 true none,.cells [iv 0,iv 0]],true⟩) (by omega) ?_ (.inl ⟨rfl,_,rfl⟩) (fun s h=>by rcases h with ⟨h,_⟩ | ⟨h,_⟩ | ⟨h,_⟩ | ⟨_,h⟩ <;> first | omega | exact h) (fun s h=>by subst h; exact ⟨rfl,hK⟩)
  rintro t s ht (⟨rfl,lk',rfl⟩ | ⟨rfl,rfl⟩ | ⟨rfl,rfl⟩ | ⟨h3,rfl⟩)
  · refine ⟨.map (H.length + 7),.sref (H.length + 10) 0 2 2 1,by simp -implicitDefEqProofs only [sw0,sw1,sw2,sw3,sw4,sw5,reduceCtorEq,Nat.reduceEqDiff,Nat.reduceAdd,Nat.reduceDiv,Nat.reduceLeDiff,dw0,Int.reduceAdd,Int.reduceSub,Int.reduceMul,Int.reduceLT,Int.reduceLE,Int.reduceNeg,Int.reduceEq,Int.reduceToNat,Nat.reduceLT,Nat.reduceMul,Nat.reduceSub,Nat.reduceBEq,Nat.reduceLeDiff,xw0,eApp,rowOf,appRow,lkL,lkN,eMupd,vLook,mapSh,findE,putE,keqL,hasSh,fits,shb,Int.reduceBEq,eMksl,vSlc,boundsOf,boundOf,cleanL,Nat.reduceGT,Int.reduceGT,Int.reduceGE,Int.reduceDiv,Int.reduceTDiv,vAidx,rdc],by simp -implicitDefEqProofs only [sw0,sw1,sw2,sw3,sw4,sw5,reduceCtorEq,Nat.reduceEqDiff,Nat.reduceAdd,Nat.reduceDiv,Nat.reduceLeDiff,dw0,Int.reduceAdd,Int.reduceSub,Int.reduceMul,Int.reduceLT,Int.reduceLE,Int.reduceNeg,Int.reduceEq,Int.reduceToNat,Nat.reduceLT,Nat.reduceMul,Nat.reduceSub,Nat.reduceBEq,Nat.reduceLeDiff,xw0,eApp,rowOf,appRow,lkL,lkN,eMupd,vLook,mapSh,findE,putE,keqL,hasSh,fits,shb,Int.reduceBEq,eMksl,vSlc,boundsOf,boundOf,cleanL,Nat.reduceGT,Int.reduceGT,Int.reduceGE,Int.reduceDiv,Int.reduceTDiv,vAidx,rdc],fun b=>yA0 hk ?_⟩
    exact .inl ⟨rfl,.inr (.inl ⟨rfl,rfl⟩)⟩
  · refine ⟨.map (H.length + 7),.sref (H.length + 13) 0 1 1 1,by simp -implicitDefEqProofs only [sw0,sw1,sw2,sw3,sw4,sw5,reduceCtorEq,Nat.reduceEqDiff,Nat.reduceAdd,Nat.reduceDiv,Nat.reduceLeDiff,dw0,Int.reduceAdd,Int.reduceSub,Int.reduceMul,Int.reduceLT,Int.reduceLE,Int.reduceNeg,Int.reduceEq,Int.reduceToNat,Nat.reduceLT,Nat.reduceMul,Nat.reduceSub,Nat.reduceBEq,Nat.reduceLeDiff,xw0,eApp,rowOf,appRow,lkL,lkN,eMupd,vLook,mapSh,findE,putE,keqL,hasSh,fits,shb,Int.reduceBEq,eMksl,vSlc,boundsOf,boundOf,cleanL,Nat.reduceGT,Int.reduceGT,Int.reduceGE,Int.reduceDiv,Int.reduceTDiv,vAidx,rdc],by simp -implicitDefEqProofs only [sw0,sw1,sw2,sw3,sw4,sw5,reduceCtorEq,Nat.reduceEqDiff,Nat.reduceAdd,Nat.reduceDiv,Nat.reduceLeDiff,dw0,Int.reduceAdd,Int.reduceSub,Int.reduceMul,Int.reduceLT,Int.reduceLE,Int.reduceNeg,Int.reduceEq,Int.reduceToNat,Nat.reduceLT,Nat.reduceMul,Nat.reduceSub,Nat.reduceBEq,Nat.reduceLeDiff,xw0,eApp,rowOf,appRow,lkL,lkN,eMupd,vLook,mapSh,findE,putE,keqL,hasSh,fits,shb,Int.reduceBEq,eMksl,vSlc,boundsOf,boundOf,cleanL,Nat.reduceGT,Int.reduceGT,Int.reduceGE,Int.reduceDiv,Int.reduceTDiv,vAidx,rdc],fun b=>yA1 hk ?_⟩
    exact .inl ⟨rfl,.inr (.inr (.inl ⟨rfl,rfl⟩))⟩
  · refine ⟨.map (H.length + 7),.slice true 0 [],by simp -implicitDefEqProofs only [sw0,sw1,sw2,sw3,sw4,sw5,reduceCtorEq,Nat.reduceEqDiff,Nat.reduceAdd,Nat.reduceDiv,Nat.reduceLeDiff,dw0,Int.reduceAdd,Int.reduceSub,Int.reduceMul,Int.reduceLT,Int.reduceLE,Int.reduceNeg,Int.reduceEq,Int.reduceToNat,Nat.reduceLT,Nat.reduceMul,Nat.reduceSub,Nat.reduceBEq,Nat.reduceLeDiff,xw0,eApp,rowOf,appRow,lkL,lkN,eMupd,vLook,mapSh,findE,putE,keqL,hasSh,fits,shb,Int.reduceBEq,eMksl,vSlc,boundsOf,boundOf,cleanL,Nat.reduceGT,Int.reduceGT,Int.reduceGE,Int.reduceDiv,Int.reduceTDiv,vAidx,rdc],by simp -implicitDefEqProofs only [sw0,sw1,sw2,sw3,sw4,sw5,reduceCtorEq,Nat.reduceEqDiff,Nat.reduceAdd,Nat.reduceDiv,Nat.reduceLeDiff,dw0,Int.reduceAdd,Int.reduceSub,Int.reduceMul,Int.reduceLT,Int.reduceLE,Int.reduceNeg,Int.reduceEq,Int.reduceToNat,Nat.reduceLT,Nat.reduceMul,Nat.reduceSub,Nat.reduceBEq,Nat.reduceLeDiff,xw0,eApp,rowOf,appRow,lkL,lkN,eMupd,vLook,mapSh,findE,putE,keqL,hasSh,fits,shb,Int.reduceBEq,eMksl,vSlc,boundsOf,boundOf,cleanL,Nat.reduceGT,Int.reduceGT,Int.reduceGE,Int.reduceDiv,Int.reduceTDiv,vAidx,rdc],fun b=>yA2 hk ?_⟩
    exact .inl ⟨rfl,.inr (.inr (.inr ⟨by omega,rfl⟩))⟩
  · have e0:((t:Int) == 0)=false:=by simp; omega
    have e1:((t:Int) == 1)=false:=by simp; omega
    refine ⟨.map (H.length + 7),.slice true 0 [],by simp -implicitDefEqProofs only [sw0,sw1,sw2,sw3,sw4,sw5,reduceCtorEq,Nat.reduceEqDiff,Nat.reduceAdd,Nat.reduceDiv,Nat.reduceLeDiff,dw0,Int.reduceAdd,Int.reduceSub,Int.reduceMul,Int.reduceLT,Int.reduceLE,Int.reduceNeg,Int.reduceEq,Int.reduceToNat,Nat.reduceLT,Nat.reduceMul,Nat.reduceSub,Nat.reduceBEq,Nat.reduceLeDiff,xw0,eApp,rowOf,appRow,lkL,lkN,eMupd,vLook,mapSh,findE,putE,keqL,hasSh,fits,shb,Int.reduceBEq,eMksl,vSlc,boundsOf,boundOf,cleanL,Nat.reduceGT,Int.reduceGT,Int.reduceGE,Int.reduceDiv,Int.reduceTDiv,vAidx,rdc],by simp -implicitDefEqProofs only [sw0,sw1,sw2,sw3,sw4,sw5,reduceCtorEq,Nat.reduceEqDiff,Nat.reduceAdd,Nat.reduceDiv,Nat.reduceLeDiff,dw0,Int.reduceAdd,Int.reduceSub,Int.reduceMul,Int.reduceLT,Int.reduceLE,Int.reduceNeg,Int.reduceEq,Int.reduceToNat,Nat.reduceLT,Nat.reduceMul,Nat.reduceSub,Nat.reduceBEq,Nat.reduceLeDiff,xw0,eApp,rowOf,appRow,lkL,lkN,eMupd,vLook,mapSh,findE,putE,keqL,hasSh,fits,shb,Int.reduceBEq,eMksl,vSlc,boundsOf,boundOf,cleanL,Nat.reduceGT,Int.reduceGT,Int.reduceGE,Int.reduceDiv,Int.reduceTDiv,vAidx,rdc,e0,e1],fun b=>yA3 hk ?_⟩
    exact .inl ⟨rfl,.inr (.inr (.inr ⟨by omega,rfl⟩))⟩
theorem slotsA (hk:200≤k) (hK:K (.fn F_q41 [.ptr (H.length + 1) 0 1]) ⟨H ++ [.map shI 3 [(iv 0,.sref (H.length + 3) 0 2 2 1),(iv 1,.sref (H.length + 6) 0 1 1 1)],.cells [.map H.length],.cells [iv 0,iv 0,iv 3],.cells [iv 0,iv 1],.cells [iv 1,iv 0,iv 2],.cells [iv 2,iv 1,iv 2],.cells [iv 2]],false⟩):VC ⟨prog,k + 1,b⟩ F_q40 [vA] ⟨H,false⟩ K:=by
  apply q40.enter
  have hu:AV.under H.length (AV.fn F_q41 [AV.ptr (H.length + 1) 0 1])=false:=by simp [AV.under,underL]
  simp -implicitDefEqProofs only [q40.n0_w,sw0,sw1,sw2,sw3,sw4,sw5,reduceCtorEq,Nat.reduceEqDiff,Nat.reduceAdd,Nat.reduceDiv,Nat.reduceLeDiff,dw0,Int.reduceAdd,Int.reduceSub,Int.reduceMul,Int.reduceLT,Int.reduceLE,Int.reduceNeg,Int.reduceEq,Int.reduceToNat,Nat.reduceLT,Nat.reduceMul,Nat.reduceSub,Nat.reduceBEq,Nat.reduceLeDiff,xw0,eApp,rowOf,appRow,lkL,lkN,eMupd,vLook,mapSh,findE,putE,keqL,hasSh,fits,shb,Int.reduceBEq,eMksl,vSlc,boundsOf,boundOf,cleanL,Nat.reduceGT,Int.reduceGT,Int.reduceGE,Int.reduceDiv,Int.reduceTDiv,vAidx,rdc,slots_u1]
  rw [wl_1 (by omega)]
  simp -implicitDefEqProofs only [q40.n2_w,sw0,sw1,sw2,sw3,sw4,sw5,reduceCtorEq,Nat.reduceEqDiff,Nat.reduceAdd,Nat.reduceDiv,Nat.reduceLeDiff,dw0,Int.reduceAdd,Int.reduceSub,Int.reduceMul,Int.reduceLT,Int.reduceLE,Int.reduceNeg,Int.reduceEq,Int.reduceToNat,Nat.reduceLT,Nat.reduceMul,Nat.reduceSub,Nat.reduceBEq,Nat.reduceLeDiff,xw0,eApp,rowOf,appRow,lkL,lkN,eMupd,vLook,mapSh,findE,putE,keqL,hasSh,fits,shb,Int.reduceBEq,eMksl,vSlc,boundsOf,boundOf,cleanL,Nat.reduceGT,Int.reduceGT,Int.reduceGE,Int.reduceDiv,Int.reduceTDiv,vAidx,rdc,q40.n4_w]
  rw [wl_1 (by omega)]
  simp -implicitDefEqProofs only [q40.n2_w,sw0,sw1,sw2,sw3,sw4,sw5,reduceCtorEq,Nat.reduceEqDiff,Nat.reduceAdd,Nat.reduceDiv,Nat.reduceLeDiff,dw0,Int.reduceAdd,Int.reduceSub,Int.reduceMul,Int.reduceLT,Int.reduceLE,Int.reduceNeg,Int.reduceEq,Int.reduceToNat,Nat.reduceLT,Nat.reduceMul,Nat.reduceSub,Nat.reduceBEq,Nat.reduceLeDiff,xw0,eApp,rowOf,appRow,lkL,lkN,eMupd,vLook,mapSh,findE,putE,keqL,hasSh,fits,shb,Int.reduceBEq,eMksl,vSlc,boundsOf,boundOf,cleanL,Nat.reduceGT,Int.reduceGT,Int.reduceGE,Int.reduceDiv,Int.reduceTDiv,vAidx,rdc,q40.n4_w]
  rw [wl_1 (by omega)]
  simp -implicitDefEqProofs only [q40.n2_w,sw0,sw1,sw2,sw3,sw4,sw5,reduceCtorEq,Nat.reduceEqDiff,Nat.reduceAdd,Nat.reduceDiv,Nat.reduceLeDiff,dw0,Int.reduceAdd,Int.reduceSub,Int.reduceMul,Int.reduceLT,Int.reduceLE,Int.reduceNeg,Int.reduceEq,Int.reduceToNat,Nat.reduceLT,Nat.reduceMul,Nat.reduceSub,Nat.reduceBEq,Nat.reduceLeDiff,xw0,eApp,rowOf,appRow,lkL,lkN,eMupd,vLook,mapSh,findE,putE,keqL,hasSh,fits,shb,Int.reduceBEq,eMksl,vSlc,boundsOf,boundOf,cleanL,Nat.reduceGT,Int.reduceGT,Int.reduceGE,Int.reduceDiv,Int.reduceTDiv,vAidx,rdc,q40.n4_w]
  rw [wl_1 (by omega)]
  simp -implicitDefEqProofs only [q40.n2_w,sw0,sw1,sw2,sw3,sw4,sw5,reduceCtorEq,Nat.reduceEqDiff,Nat.reduceAdd,Nat.reduceDiv,Nat.reduceLeDiff,dw0,Int.reduceAdd,Int.reduceSub,Int.reduceMul,Int.reduceLT,Int.reduceLE,Int.reduceNeg,Int.reduceEq,Int.reduceToNat,Nat.reduceLT,Nat.reduceMul,Nat.reduceSub,Nat.reduceBEq,Nat.reduceLeDiff,xw0,eApp,rowOf,appRow,lkL,lkN,eMupd,vLook,mapSh,findE,putE,keqL,hasSh,fits,shb,Int.reduceBEq,eMksl,vSlc,boundsOf,boundOf,cleanL,Nat.reduceGT,Int.reduceGT,Int.reduceGE,Int.reduceDiv,Int.reduceTDiv,vAidx,rdc,q40.n5_w,q40.ret,hu]
  exact hK
theorem PlanA (hk:3000≤k) (hK:∀ L n,SI (H ++ L) n [2,0,1]→K (.tup [n,iv 0]) ⟨H ++ L,true⟩):VC ⟨prog,k,b⟩ F_q16 [vA,iv 1] ⟨H,lk⟩ K:=by
  obtain ⟨k,rfl⟩:∃ j,k=j + 1:=⟨k - 1,by omega⟩
  apply q16.enter
  have hjb:(decide (jA.length≤200) && jA.all jobOk)=true:=by decide
  have h11:((1:Int)≤1∧(1:Int)≤8)=True:=by simp
  have hask:=fun (H':List AObj) (K:AV→St→Prop)=>asked_s (K:=K) (k:=k) (b:=some H.length) (lk:=false) (by omega) (H:=H') vA_sl (c:=1) (by decide)
  simp -implicitDefEqProofs only [hjb,if_true,h11] at hask
  have hmk:∀ (H':List AObj),eMksl ⟨H',false⟩ 1 8 [iv 0] (iv 3) (iv 3)=some (.sref H'.length 0 3 (3 * 1) 1,⟨H' ++ [.cells [iv 0,iv 0,iv 0]],false⟩):=fun H'=>by simp [eMksl,push]
  simp -implicitDefEqProofs only [q16.n0_w,sw0,sw1,sw2,sw3,sw4,sw5,reduceCtorEq,Nat.reduceEqDiff,Nat.reduceAdd,Nat.reduceDiv,Nat.reduceLeDiff,dw0,Int.reduceAdd,Int.reduceSub,Int.reduceMul,Int.reduceLT,Int.reduceLE,Int.reduceNeg,Int.reduceEq,Int.reduceToNat,Nat.reduceLT,Nat.reduceMul,Nat.reduceSub,Nat.reduceBEq,Nat.reduceLeDiff,hask,q16.n2_w,hmk]
  obtain ⟨k1,hk1⟩:∃ j,k=j + 1:=⟨k - 1,by omega⟩
  have hsl:=fun (H':List AObj) (K:AV→St→Prop) (b:Option Nat) (hK)=>@slotsA k1 b H' K (by omega) hK
  rw [← hk1] at hsl
  refine hsl _ _ _ ?_
  simp -implicitDefEqProofs only [sw0,sw1,sw2,sw3,sw4,sw5,reduceCtorEq,Nat.reduceEqDiff,Nat.reduceAdd,Nat.reduceDiv,Nat.reduceLeDiff,dw0,Int.reduceAdd,Int.reduceSub,Int.reduceMul,Int.reduceLT,Int.reduceLE,Int.reduceNeg,Int.reduceEq,Int.reduceToNat,Nat.reduceLT,Nat.reduceMul,Nat.reduceSub,Nat.reduceBEq,Nat.reduceLeDiff,xw0,eApp,rowOf,appRow,lkL,lkN,eMupd,vLook,mapSh,findE,putE,keqL,hasSh,fits,shb,Int.reduceBEq,eMksl,vSlc,boundsOf,boundOf,cleanL,Nat.reduceGT,Int.reduceGT,Int.reduceGE,Int.reduceDiv,Int.reduceTDiv,vAidx,rdc]
  refine WC_rf (f:=F_q41) (caps:=[.ptr (H.length + 8) 0 1]) rfl ?_
  obtain ⟨k',hk'⟩:∃ j,k=j + 2:=⟨k - 2,by omega⟩
  simp -implicitDefEqProofs only [sw0,sw1,sw2,sw3,sw4,sw5,reduceCtorEq,Nat.reduceEqDiff,Nat.reduceAdd,Nat.reduceDiv,Nat.reduceLeDiff,dw0,Int.reduceAdd,Int.reduceSub,Int.reduceMul,Int.reduceLT,Int.reduceLE,Int.reduceNeg,Int.reduceEq,Int.reduceToNat,Nat.reduceLT,Nat.reduceMul,Nat.reduceSub,Nat.reduceBEq,Nat.reduceLeDiff,xw0,eApp,rowOf,appRow,lkL,lkN,eMupd,vLook,mapSh,findE,putE,keqL,hasSh,fits,shb,Int.reduceBEq,eMksl,vSlc,boundsOf,boundOf,cleanL,Nat.reduceGT,Int.reduceGT,Int.reduceGE,Int.reduceDiv,Int.reduceTDiv,vAidx,rdc]
  have hrun:=fun (K:AV→St→Prop) (b:Option Nat)=>@runA k' b H false K (by omega)
  rw [← hk'] at hrun
  refine hrun _ _ ?_
  simp -implicitDefEqProofs only [RF,sw0,sw1,sw2,sw3,sw4,sw5,reduceCtorEq,Nat.reduceEqDiff,Nat.reduceAdd,Nat.reduceDiv,Nat.reduceLeDiff,dw0,Int.reduceAdd,Int.reduceSub,Int.reduceMul,Int.reduceLT,Int.reduceLE,Int.reduceNeg,Int.reduceEq,Int.reduceToNat,Nat.reduceLT,Nat.reduceMul,Nat.reduceSub,Nat.reduceBEq,Nat.reduceLeDiff,xw0,eApp,rowOf,appRow,lkL,lkN,eMupd,vLook,mapSh,findE,putE,keqL,hasSh,fits,shb,Int.reduceBEq,eMksl,vSlc,boundsOf,boundOf,cleanL,Nat.reduceGT,Int.reduceGT,Int.reduceGE,Int.reduceDiv,Int.reduceTDiv,vAidx,rdc,q16.n18_w,q16.n20_w]
  simp -implicitDefEqProofs only [RK_r,q16.res,resultsOf,resultOf,sw0,sw1,sw2,sw3,sw4,sw5,reduceCtorEq,Nat.reduceEqDiff,Nat.reduceAdd,Nat.reduceDiv,Nat.reduceLeDiff,dw0,Int.reduceAdd,Int.reduceSub,Int.reduceMul,Int.reduceLT,Int.reduceLE,Int.reduceNeg,Int.reduceEq,Int.reduceToNat,Nat.reduceLT,Nat.reduceMul,Nat.reduceSub,Nat.reduceBEq,Nat.reduceLeDiff,xw0,eApp,rowOf,appRow,lkL,lkN,eMupd,vLook,mapSh,findE,putE,keqL,hasSh,fits,shb,Int.reduceBEq,eMksl,vSlc,boundsOf,boundOf,cleanL,Nat.reduceGT,Int.reduceGT,Int.reduceGE,Int.reduceDiv,Int.reduceTDiv,vAidx,rdc]
  refine hK _ _ ⟨Nat.one_pos,ic_len,.inr ⟨H.length + 4,0,3,[iv 2,iv 0,iv 1],rfl,by simp -implicitDefEqProofs only [sw0,sw1,sw2,sw3,sw4,sw5,reduceCtorEq,Nat.reduceEqDiff,Nat.reduceAdd,Nat.reduceDiv,Nat.reduceLeDiff,dw0,Int.reduceAdd,Int.reduceSub,Int.reduceMul,Int.reduceLT,Int.reduceLE,Int.reduceNeg,Int.reduceEq,Int.reduceToNat,Nat.reduceLT,Nat.reduceMul,Nat.reduceSub,Nat.reduceBEq,Nat.reduceLeDiff,xw0,eApp,rowOf,appRow,lkL,lkN,eMupd,vLook,mapSh,findE,putE,keqL,hasSh,fits,shb,Int.reduceBEq,eMksl,vSlc,boundsOf,boundOf,cleanL,Nat.reduceGT,Int.reduceGT,Int.reduceGE,Int.reduceDiv,Int.reduceTDiv,vAidx,rdc],rfl⟩⟩
end Go.Proofs.YtcebebhaahpoiaaDoor
end
section
namespace Go.Proofs.YtcebebhaahpoiaaDoor
open Go Go.Ai Go.W
attribute [local irreducible] VC YC WC
set_option linter.unusedSimpArgs false
set_option linter.unusedVariables false
set_option maxRecDepth 10000
variable {k:Nat} {b:Option Nat} {H:List AObj} {lk:Bool} {K:AV→St→Prop}
theorem eqs_kc {p q:Int × Int}:vEqs true (.sh (.mk true [.int .i64,.int .i64])) (.agg (kc p)) (.agg (kc q))=some (.bool (!decide (p=q))):=by
  show vEqs true (.sh (.mk true [.int .i64,.int .i64])) (ev2 p) (ev2 q)=_
  simp -implicitDefEqProofs only [vEqs,evEq,key_iv2.sh,key_iv2.keq,Bool.and_self,if_true,Option.bind_some]
theorem SamePairs_s (hk:1005≤k) {v w:AV} {xs ys:List (Int × Int)} (hs:Sl H 2 kc v xs) (ht:Sl H 2 kc w ys) (hl:xs.length≤1000):VC ⟨prog,k,b⟩ F_q48 [v,w] ⟨H,lk⟩ K=K (.bool (decide (xs=ys))) ⟨H,lk⟩:=by
  obtain ⟨k,rfl⟩:∃ j,k=j + 1:=⟨k - 1,by omega⟩
  apply VC_iff
  apply q48.enter
  simp -implicitDefEqProofs only [q48.n0_w,sw0,sw1,sw2,sw3,sw4,sw5,reduceCtorEq,Nat.reduceEqDiff,Nat.reduceAdd,Nat.reduceDiv,Nat.reduceLeDiff,hs.len,ht.len]
  split
  · rename_i hne
    have:xs ≠ ys:=fun e=>hne (by rw [e])
    simp -implicitDefEqProofs only [q48.n1_w,sw0,sw1,sw2,sw3,sw4,sw5,reduceCtorEq,Nat.reduceEqDiff,Nat.reduceAdd,Nat.reduceDiv,Nat.reduceLeDiff,q48.ret,decide_eq_false this]
  · rename_i heq
    have hlen:xs.length=ys.length:=by omega
    simp -implicitDefEqProofs only [q48.n2_w,sw0,sw1,sw2,sw3,sw4,sw5,reduceCtorEq,Nat.reduceEqDiff,Nat.reduceAdd,Nat.reduceDiv,Nat.reduceLeDiff]
    refine q48.n3_l (fun m r3 s=>∃ i:Nat,r3=iv i∧s=⟨H,false⟩∧m=xs.length - i∧i≤xs.length∧∀ j (h:j < xs.length) (h':j < ys.length),j < i→xs[j]=ys[j]) xs.length (by simp -implicitDefEqProofs only []; omega) ⟨0,rfl,rfl,by omega,by omega,fun j _ _ h=>by omega⟩ ?_
    rintro m r2 r3 r4 r5 s ⟨i,rfl,rfl,rfl,hi,hno⟩
    simp -implicitDefEqProofs only [q48.n4_w,sw0,sw1,sw2,sw3,sw4,sw5,reduceCtorEq,Nat.reduceEqDiff,Nat.reduceAdd,Nat.reduceDiv,Nat.reduceLeDiff,hs.len]
    split
    · rename_i hlt
      have hlt:i < xs.length:=by omega
      have hlt':i < ys.length:=by omega
      simp -implicitDefEqProofs only [q48.n6_w,sw0,sw1,sw2,sw3,sw4,sw5,reduceCtorEq,Nat.reduceEqDiff,Nat.reduceAdd,Nat.reduceDiv,Nat.reduceLeDiff,hs.at,ht.at,hlt,hlt',hs.lda hlt,ht.lda hlt',eqs_kc]
      split
      · rename_i hne
        have:xs ≠ ys:=fun e=>hne (by subst e; rfl)
        simp -implicitDefEqProofs only [q48.n7_w,sw0,sw1,sw2,sw3,sw4,sw5,reduceCtorEq,Nat.reduceEqDiff,Nat.reduceAdd,Nat.reduceDiv,Nat.reduceLeDiff,q48.ret,decide_eq_false this]
      · rename_i he
        simp -implicitDefEqProofs only [q48.n8_w,sw0,sw1,sw2,sw3,sw4,sw5,reduceCtorEq,Nat.reduceEqDiff,Nat.reduceAdd,Nat.reduceDiv,Nat.reduceLeDiff]
        refine q48.n3_go (m':=xs.length - (i + 1)) (by omega) ⟨i + 1,by rw [wrap64 (by omega)]; rfl,rfl,rfl,by omega,?_⟩
        intro j h h' hj
        by_cases hji:j=i
        · subst hji; simpa using he
        · exact hno j h h' (by omega)
    · rename_i hge
      have:xs=ys:=List.ext_getElem hlen fun j h h'=>hno j h h' (by omega)
      simp -implicitDefEqProofs only [q48.n9_w,sw0,sw1,sw2,sw3,sw4,sw5,reduceCtorEq,Nat.reduceEqDiff,Nat.reduceAdd,Nat.reduceDiv,Nat.reduceLeDiff,q48.ret,decide_eq_true this]
def plA:Plt:={ heat:=5,low:=0,high:=10,loads:=[4,4,4],prices:=[1,3,1],machs:=[⟨6,2,1⟩] }
abbrev csA:List AV:=[iv 5,iv 0,iv 10,.slice true 1 [[iv 4],[iv 4],[iv 4]],.slice true 1 [[iv 1],[iv 3],[iv 1]],.slice true 3 [[iv 6,iv 2,iv 1]]]
theorem plA_pv:PV H csA plA:=⟨_,_,_,rfl,Sl.lit Nat.one_pos ic_len rfl,Sl.lit Nat.one_pos ic_len rfl,Sl.lit (by omega) (fun _=>rfl) rfl⟩
theorem plA_cool:plA.cool=[.slice false 1 [[iv 1],[iv 0],[iv 1]],iv 6,iv 0]:=by rfl
theorem plA_sched:plA.sched [1,0,1]=true:=by rfl
def msA:List (Int × Int):=[(0,0),(10,0),(11,0),(1,0)]
theorem msA_ans:matchAns msA=[.slice false 2 [[iv 0,iv 3],[iv 1,iv 2]],iv 2,iv 0]:=by rfl
theorem nxA:nextAns 2 [(.slice true 1 [[iv 0],[iv 1]],[0,1])]=[.slice false 1 [[iv 1],[iv 0]],iv 0]:=by rfl
theorem awake_s (hk:16 ^ 53≤k) (hK:∀ s,K (.bool true) s):VC ⟨prog,k,b⟩ F_q2 [] ⟨H,lk⟩ K:=by
  have e53:(16:Nat) ^ 53=6582018229284824168619876730229402019930943462534319453394436096:=by decide
  have e52:(16:Nat) ^ 52=411376139330301510538742295639337626245683966408394965837152256:=by decide
  obtain ⟨k,rfl⟩:∃ j,k=j + 1:=⟨k - 1,by omega⟩
  apply q2.enter
  have hp:PV (H ++ [.cells csA]) csA plA:=plA_pv
  have hcool:=fun (K:AV→St→Prop)=>Cool_s (K:=K) (k:=k) (b:=some H.length) (lk:=false) (by omega) hp (by decide)
  rw [plA_cool] at hcool
  have hS:SI (H ++ [.cells csA]) (.slice true 1 [[iv 1],[iv 0],[iv 1]]) [1,0,1]:=Sl.lit Nat.one_pos ic_len rfl
  have hheats:=fun (K:AV→St→Prop)=>Heats_s (K:=K) (k:=k) (b:=some H.length) (lk:=false) (by omega) hp hS (by decide) (by decide)
  have e1:heatsFrom plA 0 plA.heat [1,0,1]=[3,7,5]:=by rfl
  rw [if_pos plA_sched,e1] at hheats
  simp -implicitDefEqProofs only [List.map_cons,List.map_nil,ic] at hheats
  simp -implicitDefEqProofs only [q2.n0_w,sw0,sw1,sw2,sw3,sw4,sw5,reduceCtorEq,Nat.reduceEqDiff,Nat.reduceAdd,Nat.reduceDiv,Nat.reduceLeDiff,hcool,hheats]
  refine PlanA (by omega) ?_
  intro L n hn
  simp -implicitDefEqProofs only [sw0,sw1,sw2,sw3,sw4,sw5,reduceCtorEq,Nat.reduceEqDiff,Nat.reduceAdd,Nat.reduceDiv,Nat.reduceLeDiff]
  refine PlanB (by omega) ?_
  intro L2
  simp -implicitDefEqProofs only [sw0,sw1,sw2,sw3,sw4,sw5,reduceCtorEq,Nat.reduceEqDiff,Nat.reduceAdd,Nat.reduceDiv,Nat.reduceLeDiff,CrowdB (k:=k) (by omega)]
  obtain ⟨G,hG⟩:∃ G,G=H ++ AObj.cells csA :: (L ++ L2):=⟨_,rfl⟩
  have hn':SI G n [2,0,1]:=by
    have:=hn.app (L:=L2)
    rw [hG]
    simpa using this
  rw [← hG]
  have hm:=fun (K:AV→St→Prop)=>Match_s (K:=K) (k:=k) (b:=some H.length) (lk:=true) (H:=G) (by omega) (show Sl G 2 kc (.slice true 2 [[iv 0,iv 0],[iv 10,iv 0],[iv 11,iv 0],[iv 1,iv 0]]) msA from Sl.lit (by omega) kc_len rfl) (by decide)
  rw [msA_ans] at hm
  have hx:=fun (K:AV→St→Prop)=>Next_s (K:=K) (k:=k) (b:=some H.length) (lk:=true) (H:=G) (n:=2) (by omega) (show RD G (.slice true 1 [[.slice true 1 [[iv 0],[iv 1]]]]) [(.slice true 1 [[iv 0],[iv 1]],[0,1])] from ⟨Sl.lit Nat.one_pos rc_len rfl,fun q hq=>by simp -implicitDefEqProofs only [List.mem_singleton] at hq; subst hq; exact Sl.lit Nat.one_pos ic_len rfl⟩) (by decide) (by decide)
  rw [nxA] at hx
  have hI:∀ {v w:AV} {xs:List Int},SI G v xs→SI G w xs→xs.length≤1000→∀ (K:AV→St→Prop),VC ⟨prog,k,some H.length⟩ F_q44 [v,w] ⟨G,true⟩ K=K (.bool true) ⟨G,true⟩:=fun h1 h2 h3 K=>by
    rw [r02_Ints_s (k:=k) (by omega) h1 h2 h3,decide_eq_true rfl]
  have hV:∀ (f:Bool) (xs:List Int),SI G (.slice f 1 (xs.map ic)) xs:=fun f xs=>Sl.val Nat.one_pos ic_len
  have i1:=hI (hV false [1,0,1]) (hV true [1,0,1]) (by decide)
  have i2:=hI (hV false [3,7,5]) (hV true [3,7,5]) (by decide)
  have i3:=hI hn' (hV true [2,0,1]) (by decide)
  have i4:=hI (hV false [1,0]) (hV true [1,0]) (by decide)
  have hsp:=fun (K:AV→St→Prop)=>SamePairs_s (K:=K) (k:=k) (b:=some H.length) (lk:=true) (H:=G) (v:=.slice false 2 [[iv 0,iv 3],[iv 1,iv 2]]) (w:=.slice true 2 [[iv 0,iv 3],[iv 1,iv 2]]) (xs:=[(0,3),(1,2)]) (ys:=[(0,3),(1,2)]) (by omega) (Sl.lit (by omega) kc_len rfl) (Sl.lit (by omega) kc_len rfl) (by decide)
  rw [decide_eq_true rfl] at hsp
  simp -implicitDefEqProofs only [List.map_cons,List.map_nil,ic] at i1 i2 i3 i4
  simp -implicitDefEqProofs only [sw0,sw1,sw2,sw3,sw4,sw5,reduceCtorEq,Nat.reduceEqDiff,Nat.reduceAdd,Nat.reduceDiv,Nat.reduceLeDiff,hm,hx,i1,i2,i3,i4,hsp,q2.ret,lv_t]
  exact hK _
end Go.Proofs.YtcebebhaahpoiaaDoor
end
section
namespace Go.Proofs.YtcebebhaahpoiaaDoor
open Go Go.Ai Go.W
attribute [local irreducible] VC YC WC
set_option linter.unusedSimpArgs false
set_option linter.unusedVariables false
set_option maxRecDepth 10000
variable {k:Nat} {b:Option Nat} {H:List AObj} {lk:Bool} {K:AV→St→Prop}
end Go.Proofs.YtcebebhaahpoiaaDoor
end
section
namespace Go.Proofs.YtcebebhaahpoiaaDoor
open Go Go.Ai Go.W
attribute [local irreducible] VC YC WC
set_option linter.unusedVariables false
set_option maxRecDepth 100000
theorem c3:Tryd.prog.cellsOf 3=1:=by kernel_rfl
theorem wt_int {d:Nat} {xs:List AV} (h:Wt Tryd.prog (d + 1) 3 xs):∃ n,xs=[iv n]:=by
  unfold Wt at h
  rw [Tryd.underlying3] at h
  obtain ⟨n,rfl,_⟩:=h
  exact ⟨n,rfl⟩
end Go.Proofs.YtcebebhaahpoiaaDoor
end
section
namespace Go.Proofs.YtcebebhaahpoiaaDoor
open Go Go.Ai Go.W
attribute [local irreducible] VC YC WC
set_option linter.unusedSimpArgs false
set_option linter.unusedVariables false
set_option maxRecDepth 10000
variable {k:Nat} {b:Option Nat} {H:List AObj} {lk:Bool} {K:AV→St→Prop}
theorem PV.set {H:List AObj} {cs:List AV} {p:Plt} (h:PV H cs p) {c:Nat} {o:AObj} (hc:∀ cs,H[c]? ≠ some (AObj.cells cs)):PV (H.set c o) cs p:=by
  obtain ⟨vl,vp,vm,e,h1,h2,h3⟩:=h.how
  exact ⟨vl,vp,vm,e,slset h1 hc,slset h2 hc,slset h3 hc⟩
end Go.Proofs.YtcebebhaahpoiaaDoor
end
section
namespace Go.Proofs.YtcebebhaahpoiaaDoor
open Go Go.Ai Go.W
attribute [local irreducible] VC YC WC
set_option linter.unusedSimpArgs false
set_option linter.unusedVariables false
set_option maxRecDepth 10000
variable {k:Nat} {b:Option Nat} {H:List AObj} {lk:Bool} {K:AV→St→Prop}
end Go.Proofs.YtcebebhaahpoiaaDoor
end
section
namespace Go.Proofs.YtcebebhaahpoiaaDoor
open Go Go.Ai Go.W
attribute [local irreducible] VC YC WC
set_option linter.unusedSimpArgs false
set_option linter.unusedVariables false
set_option maxRecDepth 10000
variable {k:Nat} {b:Option Nat} {H:List AObj} {lk:Bool} {K:AV→St→Prop}
end Go.Proofs.YtcebebhaahpoiaaDoor
end
section
namespace Go.Proofs.YtcebebhaahpoiaaDoor
open Go Go.Ai Go.W
attribute [local irreducible] VC YC WC
set_option linter.unusedSimpArgs false
set_option linter.unusedVariables false
set_option maxRecDepth 10000
variable {k:Nat} {b:Option Nat} {H:List AObj} {lk:Bool} {K:AV→St→Prop}
theorem Differ_s (hk:2≤k) {q w:Int × Int} (hq:0≤q.1∧q.1≤1000000∧0≤q.2∧q.2≤1000000) (hw:0≤w.1∧w.1≤1000000∧0≤w.2∧w.2≤1000000) :
    VC ⟨prog,k,b⟩ F_q45 [.agg (kc q),.agg (kc w)] ⟨H,lk⟩ K=K (iv (diff q w)) ⟨H,lk⟩:=by
  obtain ⟨k,rfl⟩:∃ j,k=j + 1:=⟨k - 1,by omega⟩
  apply VC_iff
  apply q45.enter
  have hw1:=wrap64 (n:=q.1 - w.1) (by omega)
  have hw2:=wrap64 (n:=q.2 - w.2) (by omega)
  have hs1:=fun (G:List AObj) (K:AV→St→Prop)=>r12_size_s (H:=G) (K:=K) (lk:=false) (b:=some H.length) (k:=k) (by omega) (show -4000000≤q.1 - w.1∧q.1 - w.1≤4000000 by omega)
  have hs2:=fun (G:List AObj) (K:AV→St→Prop)=>r12_size_s (H:=G) (K:=K) (lk:=false) (b:=some H.length) (k:=k) (by omega) (show -4000000≤q.2 - w.2∧q.2 - w.2≤4000000 by omega)
  have hz1:0≤sz (q.1 - w.1)∧sz (q.1 - w.1)≤4000000:=by unfold sz; omega
  have hz2:0≤sz (q.2 - w.2)∧sz (q.2 - w.2)≤4000000:=by unfold sz; omega
  have hw3:=wrap64 (n:=sz (q.1 - w.1) + sz (q.2 - w.2)) (by omega)
  simp -implicitDefEqProofs only [q45.n0_w,sw0,sw1,sw2,sw3,sw4,sw5,reduceCtorEq,Nat.reduceEqDiff,Nat.reduceAdd,Nat.reduceDiv,Nat.reduceLeDiff,kc,hw1,hs1,hw2,hs2,hw3,q45.ret,diff]
theorem Marks_s (hk:1010≤k) {v:AV} {ms:List (Int × Int)} (hs:Sl H 2 kc v ms) (hl:ms.length≤1000):VC ⟨prog,k,b⟩ F_q46 [v] ⟨H,lk⟩ K=K (.bool (matched ms)) ⟨H,lk⟩:=by
  obtain ⟨k,rfl⟩:∃ j,k=j + 1:=⟨k - 1,by omega⟩
  apply VC_iff
  apply q46.enter
  simp -implicitDefEqProofs only [q46.n0_w,sw0,sw1,sw2,sw3,sw4,sw5,reduceCtorEq,Nat.reduceEqDiff,Nat.reduceAdd,Nat.reduceDiv,Nat.reduceLeDiff]
  refine q46.n1_l (fun m r2 s=>∃ i:Nat,r2=iv i∧s=⟨H,false⟩∧m=ms.length - i∧i≤ms.length∧∀ j (h:j < ms.length),j < i→(amt ms[j].1 && amt ms[j].2)=true) ms.length (by simp -implicitDefEqProofs only []; omega) ⟨0,rfl,rfl,by omega,by omega,fun j _ h=>by omega⟩ ?_
  rintro m r1 r2 r3 r4 r5 s ⟨i,rfl,rfl,hm,hi,hno⟩
  simp -implicitDefEqProofs only [q46.n2_w,sw0,sw1,sw2,sw3,sw4,sw5,reduceCtorEq,Nat.reduceEqDiff,Nat.reduceAdd,Nat.reduceDiv,Nat.reduceLeDiff,hs.len]
  split
  · rename_i hlt
    have hlt:i < ms.length:=by omega
    have hz:q46.n4=q46.n4:=rfl
    cases ha:amt ms[i].1 with
    | false =>
      have hbad:matched ms=false:=by
        unfold matched
        rw [Bool.and_eq_false_iff]
        right
        unfold okM
        rw [List.all_eq_false]
        exact ⟨ms[i],List.getElem_mem hlt,by rw [ha]; simp⟩
      have ha':¬ (0≤ms[i].1∧ms[i].1≤1000000):=by unfold amt at ha; simpa using ha
      simp -implicitDefEqProofs only [q46.n4_w,sw0,sw1,sw2,sw3,sw4,sw5,reduceCtorEq,Nat.reduceEqDiff,Nat.reduceAdd,Nat.reduceDiv,Nat.reduceLeDiff,hs.at',hlt,hs.off,hs.ld hlt (show 0 < 2 by omega),kc,r12_in_s (k:=k) (by omega),eq_false ha',gO_u,q46.n5_w,q46.ret,hbad]
    | true =>
      have ha':(0≤ms[i].1∧ms[i].1≤1000000):=by unfold amt at ha; simpa using ha
      cases hb:amt ms[i].2 with
      | false =>
        have hbad:matched ms=false:=by
          unfold matched
          rw [Bool.and_eq_false_iff]
          right
          unfold okM
          rw [List.all_eq_false]
          exact ⟨ms[i],List.getElem_mem hlt,by rw [hb]; simp⟩
        have hb':¬ (0≤ms[i].2∧ms[i].2≤1000000):=by unfold amt at hb; simpa using hb
        simp -implicitDefEqProofs only [q46.n4_w,sw0,sw1,sw2,sw3,sw4,sw5,reduceCtorEq,Nat.reduceEqDiff,Nat.reduceAdd,Nat.reduceDiv,Nat.reduceLeDiff,hs.at',hlt,hs.off,hs.ld hlt (show 0 < 2 by omega),hs.ld hlt (show 1 < 2 by omega),kc,r12_in_s (k:=k) (by omega),eq_true ha',eq_false hb',gO_u,q46.n5_w,q46.ret,hbad]
      | true =>
        have hb':(0≤ms[i].2∧ms[i].2≤1000000):=by unfold amt at hb; simpa using hb
        simp -implicitDefEqProofs only [q46.n4_w,sw0,sw1,sw2,sw3,sw4,sw5,reduceCtorEq,Nat.reduceEqDiff,Nat.reduceAdd,Nat.reduceDiv,Nat.reduceLeDiff,hs.at',hlt,hs.off,hs.ld hlt (show 0 < 2 by omega),hs.ld hlt (show 1 < 2 by omega),kc,r12_in_s (k:=k) (by omega),eq_true ha',eq_true hb',gO_u,q46.n6_w]
        rw [wrap64 (by omega)]
        refine q46.n1_go (m':=ms.length - (i + 1)) (by omega) ⟨i + 1,rfl,rfl,rfl,by omega,fun j h hj=>?_⟩
        rcases Nat.lt_or_ge j i with h1 | h1
        · exact hno j h h1
        · have:j=i:=by omega
          subst this
          rw [ha,hb]; rfl
  · have hie:i=ms.length:=by omega
    have hok:okM ms=true:=by
      unfold okM
      rw [List.all_eq_true]
      intro x hx
      obtain ⟨j,hj,rfl⟩:=List.getElem_of_mem hx
      exact hno j hj (by omega)
    have hm2:matched ms=decide (ms.length % 2=0∧ms.length≤16):=by unfold matched; rw [hok,Bool.and_true]
    have h2:¬ (2:Int)=0:=by omega
    by_cases c1:ms.length % 2=0
    · have htm:(ms.length:Int).tmod 2=((ms.length % 2:Nat):Int):=(Int.ofNat_tmod _ 2).symm
      have c1':(ms.length:Int).tmod 2=0:=by omega
      by_cases c2:ms.length≤16
      · have c2':(ms.length:Int)≤16:=by omega
        have:matched ms=true:=by rw [hm2]; simp [c1,c2]
        simp -implicitDefEqProofs only [q46.n7_w,sw0,sw1,sw2,sw3,sw4,sw5,reduceCtorEq,Nat.reduceEqDiff,Nat.reduceAdd,Nat.reduceDiv,Nat.reduceLeDiff,hs.len,h2,eq_true c1',eq_true c2',q46.ret,this]
      · have c2':¬ (ms.length:Int)≤16:=by omega
        have:matched ms=false:=by rw [hm2]; simp [c2]
        simp -implicitDefEqProofs only [q46.n7_w,sw0,sw1,sw2,sw3,sw4,sw5,reduceCtorEq,Nat.reduceEqDiff,Nat.reduceAdd,Nat.reduceDiv,Nat.reduceLeDiff,hs.len,h2,eq_true c1',eq_false c2',q46.ret,this]
    · have htm:(ms.length:Int).tmod 2=((ms.length % 2:Nat):Int):=(Int.ofNat_tmod _ 2).symm
      have c1':¬ (ms.length:Int).tmod 2=0:=by omega
      have:matched ms=false:=by rw [hm2]; simp [c1]
      simp -implicitDefEqProofs only [q46.n7_w,sw0,sw1,sw2,sw3,sw4,sw5,reduceCtorEq,Nat.reduceEqDiff,Nat.reduceAdd,Nat.reduceDiv,Nat.reduceLeDiff,hs.len,h2,eq_false c1',gO_u,q46.ret,this]
theorem wo_cut {S:List Nat} (hn:S.Nodup) {j:Nat} (hj:j < S.length):wo S[j] S=S.take j ++ S.drop (j + 1):=by
  have h1:S=S.take j ++ S[j] :: S.drop (j + 1):=by rw [← List.drop_eq_getElem_cons hj,List.take_append_drop]
  have h2:=hn
  rw [h1,List.nodup_append] at h2
  obtain ⟨_,h3,h4⟩:=h2
  rw [List.nodup_cons] at h3
  have e1:wo S[j] (S.take j)=S.take j:=wo_self fun h=>h4 _ h _ List.mem_cons_self rfl
  have e2:wo S[j] (S.drop (j + 1))=S.drop (j + 1):=wo_self h3.1
  have e3:wo S[j] S=wo S[j] (S.take j) ++ wo S[j] (S[j] :: S.drop (j + 1)):=by
    unfold wo
    rw [← List.filter_append,← h1]
  rw [e3,e1,wo_cons,if_pos rfl,e2]
abbrev nint (S:List Nat):List Int:=S.map fun i:Nat=>(i:Int)
theorem kc_one (q:Int × Int):(kc q).all AV.one=true:=rfl
theorem kc_clean (q:Int × Int):cleanL (kc q)=true:=rfl
theorem prs_len {D:Nat→Nat→Int}:∀ {r:Nat} {S:List Nat},(prs D r S).length≤r
  | 0,_=>by simp [prs]
  | r + 1,[]=>by simp [prs]
  | r + 1,a :: S=>by have:=@prs_len D r (wo (pv D (a :: S)).2 S); simp -implicitDefEqProofs only [prs,List.length_cons]; omega
theorem prs_fuel {D:Nat→Nat→Int}:∀ {r r':Nat} {S:List Nat},S.Nodup→S.length≤r→S.length≤r'→prs D r S=prs D r' S
  | 0,r',S,_,h,_=>by
    have:S=[]:=List.eq_nil_of_length_eq_zero (by omega)
    subst this
    cases r' <;> rfl
  | r + 1,0,S,_,_,h=>by
    have:S=[]:=List.eq_nil_of_length_eq_zero (by omega)
    subst this
    rfl
  | r + 1,r' + 1,[],_,_,_=>rfl
  | r + 1,r' + 1,a :: S,hn,h,h'=>by
    simp -implicitDefEqProofs only [List.length_cons] at h h'
    rw [List.nodup_cons] at hn
    have hl:(wo (pv D (a :: S)).2 S).length≤S.length:=List.length_filter_le _ _
    simp -implicitDefEqProofs only [prs]
    rw [prs_fuel (r':=r') (wo_nodup hn.2) (by omega) (by omega)]
theorem fold_nonneg {D:Nat→Nat→Int} (hD:∀ a c,0≤D a c) {f:List Nat→Int} {a:Nat} {S0:List Nat}:∀ (S:List Nat) (z:Int × Nat),(∀ c,c ∈ S→0≤f (wo c S0))→(0≤z.1∨S ≠ [])→0≤(S.foldl (pstep D f a S0) z).1
  | [],z,_,h=>h.resolve_right (fun e=>e rfl)
  | c :: S,z,hf,h=>by
    rw [List.foldl_cons]
    refine fold_nonneg hD S _ (fun d hd=>hf d (by simp [hd])) (.inl ?_)
    have h1:=hf c (by simp)
    have h2:=hD a c
    unfold pstep
    split
    · dsimp only; omega
    · omega
theorem pv_nonneg {D:Nat→Nat→Int} (hD:∀ a c,0≤D a c):∀ (r:Nat) (S:List Nat),S.Nodup→S.length=2 * r→r≤32→0≤(pv D S).1
  | 0,S,_,hl,_=>by
    have:S=[]:=List.eq_nil_of_length_eq_zero (by omega)
    subst this
    rw [pv_nil]; decide
  | r + 1,[],_,hl,_=>by simp at hl
  | r + 1,a :: S,hn,hl,hr=>by
    simp -implicitDefEqProofs only [List.length_cons] at hl
    have hn2:=List.nodup_cons.1 hn
    rw [pv_cons hn (by simp -implicitDefEqProofs only [List.length_cons]; omega)]
    refine fold_nonneg hD S _ (fun c hc=>pv_nonneg hD r _ (wo_nodup hn2.2) ?_ (by omega)) (.inr ?_)
    · have:=wo_len hn2.2 hc; omega
    · rintro rfl; simp at hl; omega
theorem paired_s {ms:List (Int × Int)} (hms:okM ms=true) {vl:AV}:∀ (r:Nat) {k:Nat} {b:Option Nat} {H:List AObj} {lk:Bool} {K:AV→St→Prop} {v:AV} {left:List Nat} (hk:r + 100≤k) (hn:left.Nodup) (hr:left.length=2 * r) (hr2:r≤8) (hb:∀ i,i ∈ left→i < ms.length) (hl:Sl H 2 kc vl ms) (hv:SI H v (nint left))
    (hK:∀ u,VS 2 kc u (prs (dm ms) (2 * r) left)→K (.tup [u,iv (pv (dm ms) left).1]) ⟨H,lk⟩),VC ⟨prog,k,b⟩ F_q50 [vl,v] ⟨H,lk⟩ K:=by
  intro r
  induction r with
  | zero =>
    intro k b H lk K v left hk hn hr hr2 hb hl hv hK
    obtain ⟨k,rfl⟩:∃ j,k=j + 1:=⟨k - 1,by omega⟩
    have:left=[]:=List.eq_nil_of_length_eq_zero (by omega)
    subst this
    apply q50.enter
    have:=hK (.slice true 0 []) VS.nil
    have hlen:=hv.len
    simp -implicitDefEqProofs only [nint,List.map_nil,List.length_nil,Int.natCast_zero] at hlen
    simp -implicitDefEqProofs only [q50.n0_w,sw0,sw1,sw2,sw3,sw4,sw5,reduceCtorEq,Nat.reduceEqDiff,Nat.reduceAdd,Nat.reduceDiv,Nat.reduceLeDiff,hlen,q50.n1_w,q50.ret]
    exact this
  | succ r ih =>
    intro k b H lk K v left hk hn hr hr2 hb hl hv hK
    obtain ⟨k,rfl⟩:∃ j,k=j + 1:=⟨k - 1,by omega⟩
    match left,hr with
    | a :: S,hr =>
    simp -implicitDefEqProofs only [List.length_cons] at hr
    have hn2:=List.nodup_cons.1 hn
    have hlen:(nint (a :: S)).length=S.length + 1:=by simp
    have hz:¬ ((S.length + 1:Nat):Int)=0:=by omega
    apply q50.enter
    simp -implicitDefEqProofs only [q50.n0_w,sw0,sw1,sw2,sw3,sw4,sw5,reduceCtorEq,Nat.reduceEqDiff,Nat.reduceAdd,Nat.reduceDiv,Nat.reduceLeDiff,hv.len,hlen,eq_false hz,q50.n2_w]
    have hpv:=pv_cons (D:=dm ms) (a:=a) (S:=S) hn (by simp -implicitDefEqProofs only [List.length_cons]; omega)
    have hM:∀ x y,0≤dm ms x y∧dm ms x y≤2000000:=dm_le hms
    have hle:=fun T:List Nat=>pm_le hM 64 T
    refine q50.n3_l (fun m r4 r5 r6 s=>∃ (j:Nat) (X:List AObj) (acc:Int × Nat),r6=iv ((j + 1:Nat):Int)∧r5=iv acc.1∧s=⟨H ++ X,false⟩∧m=S.length - j∧j≤S.length∧acc=(S.take j).foldl (pstep (dm ms) (fun l=>(pv (dm ms) l).1) a S) (-1,0) ∧
      (j=0→r4=.slice true 0 [])∧(0 < j→0≤acc.1∧acc.2 ∈ S∧Own H X 2 kc r4 (((a:Int),(acc.2:Int)) :: prs (dm ms) (2 * r) (wo acc.2 S)))) S.length (by simp -implicitDefEqProofs only []; omega)
      ⟨0,[],(-1,0),rfl,rfl,by rw [List.append_nil],by omega,by omega,rfl,fun _=>rfl,fun h=>absurd h (by omega)⟩ ?_
    rintro m r4 r5 r6 r7 r8 r9 r10 r11 r12 r13 r14 r15 r16 r17 s ⟨j,X,acc,rfl,rfl,rfl,rfl,hj,hacc,h40,h41⟩
    simp -implicitDefEqProofs only [q50.n4_w,sw0,sw1,sw2,sw3,sw4,sw5,reduceCtorEq,Nat.reduceEqDiff,Nat.reduceAdd,Nat.reduceDiv,Nat.reduceLeDiff,(hv.app (L:=X)).len,hlen]
    split
    · rename_i hlt
      have hlt:j < S.length:=by omega
      have hvX:=hv.app (L:=X)
      have hb1:boundsOf (nint (a :: S)).length (some (iv 1)) (some (iv ((j + 1:Nat):Int)))=some (1,j + 1):=bnd_lh (l:=1) (u:=j + 1) (by omega) (by omega)
      obtain ⟨v1,hs1,hv1⟩:=hvX.slc hb1
      have ht1:((nint (a :: S)).take (j + 1)).drop 1=nint (S.take j):=by simp [List.map_take]
      rw [ht1] at hv1
      obtain ⟨w1,X1,ha1,ho1,_⟩:=(Own.nil (H:=H ++ X) (X:=[]) (f:=ic) (z:=1) Nat.one_pos ic_len).app (lk:=false) (m:=H.length) (y:=v1) (bytes:=8) (by simp) (hv1.app (L:=[])).rowOf ic_one (by simp; omega)
      have hb2:boundsOf (nint (a :: S)).length (some (iv ((j + 1 + 1:Nat):Int))) none=some (j + 2,(nint (a :: S)).length):=bnd_lo (l:=j + 2) (by omega)
      obtain ⟨v2,hs2,hv2⟩:=hvX.slc hb2
      have ht2:((nint (a :: S)).take (nint (a :: S)).length).drop (j + 2)=nint (S.drop (j + 1)):=by rw [List.take_length]; simp [List.map_drop]
      rw [ht2] at hv2
      have hs2':=slc_app (L:=X1) hs2
      obtain ⟨w2,X2,ha2,ho2,_⟩:=ho1.app (lk:=false) (m:=H.length) (y:=v2) (bytes:=8) (by simp) (hv2.app (L:=X1)).rowOf ic_one (by simp; omega)
      have hc:((j + 1:Nat):Int) + 1=((j + 1 + 1:Nat):Int):=rfl
      have hw:=wrap64 (n:=((j + 1 + 1:Nat):Int)) (by omega)
      simp -implicitDefEqProofs only [List.nil_append,List.append_nil,List.append_assoc] at ha1 ha2 hs2'
      simp -implicitDefEqProofs only [q50.n6_w,sw0,sw1,sw2,sw3,sw4,sw5,reduceCtorEq,Nat.reduceEqDiff,Nat.reduceAdd,Nat.reduceDiv,Nat.reduceLeDiff,hs1,ha1,hw,hc,hs2',ha2,ck_sl,ck_nsl,hs2,Option.map_some,Option.map_none]
      have hcS:S[j] ∈ S:=List.getElem_mem hlt
      have hwl:=wo_len hn2.2 hcS
      have hwn:=wo_nodup (b:=S[j]) hn2.2
      have hwc:=wo_cut hn2.2 hlt
      have hlw:nint (wo S[j] S)=nint (S.take j) ++ nint (S.drop (j + 1)):=by rw [hwc]; simp
      have hw2:SI (H ++ (X ++ X2)) w2 (nint (wo S[j] S)):=by
        have:=ho2.sl
        rw [List.append_assoc,List.nil_append,← hlw] at this
        exact this
      refine ih (k:=k) (by omega) (left:=wo S[j] S) hwn (by omega) (by omega) (fun i hi=>hb i (by simp [(mem_wo.1 hi).1])) hl.app hw2 ?_
      intro u hu
      obtain ⟨c,hc'⟩:∃ c,c=S[j]:=⟨_,rfl⟩
      rw [← hc'] at hu hcS hwl hwn hwc hlw hw2 ⊢
      have ham:=hb a (by simp)
      have hcm:=hb c (by simp [hcS])
      have hga:ms.getD a (0,0)=ms[a]:=by rw [List.getD_eq_getElem?_getD,List.getElem?_eq_getElem ham]; rfl
      have hgc:ms.getD c (0,0)=ms[c]:=by rw [List.getD_eq_getElem?_getD,List.getElem?_eq_getElem hcm]; rfl
      have hoa:=okM_at hms a
      have hoc:=okM_at hms c
      rw [hga] at hoa
      rw [hgc] at hoc
      have hdm:dm ms a c=diff ms[a] ms[c]:=by unfold dm; rw [hga,hgc]
      have hdl:=hM a c
      have hvG:=hv.app (L:=X ++ X2)
      have hlG:=hl.app (L:=X ++ X2)
      have hi0:vIaddr (H ++ (X ++ X2)) 1 none v (.int .i64 0)=some (adr 1 v 0 0):=hvG.at' (i:=0) (by simp)
      have hi1:=hvG.at' (k:=.i64) (i:=j + 1) (by omega)
      have hl0:ld (H ++ (X ++ X2)) none (adr 1 v 0 0)=some (iv a):=by rw [hvG.ld (i:=0) (by simp) (by omega)]; rfl
      have hl1:ld (H ++ (X ++ X2)) none (adr 1 v (j + 1) 0)=some (iv c):=by
        have e:(nint (a :: S))[j + 1]'(by omega)=(c:Int):=by simp [hc']
        rw [hvG.ld (i:=j + 1) (by omega) (by omega),e]; rfl
      have hma:=hlG.at' (k:=.i64) ham
      have hmc:=hlG.at' (k:=.i64) hcm
      have hla:=hlG.lda ham
      have hlc:=hlG.lda hcm
      have hdf:=fun (K:AV→St→Prop)=>Differ_s (k:=k) (b:=some H.length) (lk:=false) (H:=H ++ (X ++ X2)) (K:=K) (q:=ms[a]) (w:=ms[c]) (by omega) (by omega) (by omega)
      have hpn:=pv_nonneg (D:=dm ms) (fun a c=>(hM a c).1) r (wo c S) hwn (by omega) (by omega)
      have hpl:=hle (wo c S)
      have hpl2:(pv (dm ms) (wo c S)).1≤128000000:=by unfold pv; omega
      have hw3:=wrap64 (n:=(pv (dm ms) (wo c S)).1 + diff ms[a] ms[c]) (by rw [← hdm]; omega)
      simp -implicitDefEqProofs only [sw0,sw1,sw2,sw3,sw4,sw5,reduceCtorEq,Nat.reduceEqDiff,Nat.reduceAdd,Nat.reduceDiv,Nat.reduceLeDiff,hi0,hl0,hma,hla,hi1,hl1,hmc,hlc,hdf,hw3]
      have hst:(S.take (j + 1)).foldl (pstep (dm ms) (fun l=>(pv (dm ms) l).1) a S) (-1,0)=pstep (dm ms) (fun l=>(pv (dm ms) l).1) a S acc c:=by
        rw [← List.take_append_getElem hlt,List.foldl_append,← hacc,← hc']; rfl
      have hps:pstep (dm ms) (fun l=>(pv (dm ms) l).1) a S acc c=if acc.1 < 0∨(pv (dm ms) (wo c S)).1 + diff ms[a] ms[c] < acc.1 then ((pv (dm ms) (wo c S)).1 + diff ms[a] ms[c],c) else acc:=by
        unfold pstep; rw [hdm]
      rw [hps] at hst
      have hw4:=wrap64 (n:=((j + 1 + 1:Nat):Int)) (by omega)
      have hul:=hu.sl (H:=(H ++ (X ++ X2)) ++ []) (by omega) kc_len
      obtain ⟨w3,X3,ha3,ho3,_⟩:=(Own.lit (H:=H ++ (X ++ X2)) (X:=[]) (f:=kc) (xs:=[((a:Int),(c:Int))]) (by omega) kc_len).app (lk:=false) (m:=H.length) (y:=u) (bytes:=16) (by simp) hul.rowOf kc_one (by
        have:(prs (dm ms) (2 * r) (wo c S)).length≤2 * r:=prs_len
        simp; omega)
      simp -implicitDefEqProofs only [List.append_nil,List.append_assoc,List.map_cons,List.map_nil,kc] at ha3
      have hwj:IntKind.i64.wrap (((j + 1:Nat):Int) + 1)=((j + 1 + 1:Nat):Int):=wrap64 (by omega)
      have hown:Own H (X ++ (X2 ++ X3)) 2 kc w3 (((a:Int),(c:Int)) :: prs (dm ms) (2 * r) (wo c S)):=by
        have:=ho3.pre
        rw [List.append_assoc] at this
        exact this
      have h0n:0≤(pv (dm ms) (wo c S)).1 + diff ms[a] ms[c]:=by rw [← hdm]; omega
      by_cases c1:acc.1 < 0
      · rw [if_pos (.inl c1)] at hst
        simp -implicitDefEqProofs only [eq_true c1,sw0,sw1,sw2,sw3,sw4,sw5,reduceCtorEq,Nat.reduceEqDiff,Nat.reduceAdd,Nat.reduceDiv,Nat.reduceLeDiff,q50.n7_w,hi0,hl0,hi1,hl1,ha3,q50.n8_w,hwj]
        exact q50.n3_go (m':=S.length - (j + 1)) (by omega) ⟨j + 1,X ++ (X2 ++ X3),((pv (dm ms) (wo c S)).1 + diff ms[a] ms[c],c),rfl,rfl,rfl,rfl,by omega,hst.symm,fun h=>absurd h (by omega),fun _=>⟨h0n,hcS,hown⟩⟩
      · by_cases c2:(pv (dm ms) (wo c S)).1 + diff ms[a] ms[c] < acc.1
        · rw [if_pos (.inr c2)] at hst
          simp -implicitDefEqProofs only [eq_false c1,eq_true c2,sw0,sw1,sw2,sw3,sw4,sw5,reduceCtorEq,Nat.reduceEqDiff,Nat.reduceAdd,Nat.reduceDiv,Nat.reduceLeDiff,q50.n7_w,hi0,hl0,hi1,hl1,ha3,q50.n8_w,hwj]
          exact q50.n3_go (m':=S.length - (j + 1)) (by omega) ⟨j + 1,X ++ (X2 ++ X3),((pv (dm ms) (wo c S)).1 + diff ms[a] ms[c],c),rfl,rfl,rfl,rfl,by omega,hst.symm,fun h=>absurd h (by omega),fun _=>⟨h0n,hcS,hown⟩⟩
        · rw [if_neg (by omega)] at hst
          have hj0:0 < j:=by
            rcases Nat.eq_zero_or_pos j with h | h
            · subst h
              rw [hacc] at c1
              exact absurd (by simp) c1
            · exact h
          obtain ⟨g1,g2,g3⟩:=h41 hj0
          simp -implicitDefEqProofs only [eq_false c1,eq_false c2,sw0,sw1,sw2,sw3,sw4,sw5,reduceCtorEq,Nat.reduceEqDiff,Nat.reduceAdd,Nat.reduceDiv,Nat.reduceLeDiff,q50.n8_w,hwj]
          exact q50.n3_go (m':=S.length - (j + 1)) (by omega) ⟨j + 1,X ++ X2,acc,rfl,rfl,rfl,rfl,by omega,hst.symm,fun h=>absurd h (by omega),fun _=>⟨g1,g2,g3.ext⟩⟩
    · have hjl:j=S.length:=by omega
      subst hjl
      obtain ⟨g1,g2,g3⟩:=h41 (by omega)
      rw [List.take_length,← hpv] at hacc
      subst hacc
      have hvs:=g3.fz (m:=H.length) (Nat.le_refl _) kc_clean
      have hu:VS 2 kc (frz H.length (H ++ X) 2 r4) (prs (dm ms) (2 * (r + 1)) (a :: S)):=by
        rw [show 2 * (r + 1)=(2 * r + 1) + 1 from rfl]
        simp -implicitDefEqProofs only [prs]
        have hpl:prs (dm ms) (2 * r + 1) (wo (pv (dm ms) (a :: S)).2 S)=prs (dm ms) (2 * r) (wo (pv (dm ms) (a :: S)).2 S):=prs_fuel (wo_nodup hn2.2) (by have:=wo_len hn2.2 g2; omega) (by have:=wo_len hn2.2 g2; omega)
        rw [hpl]
        exact hvs
      have:=hK _ hu
      simp -implicitDefEqProofs only [q50.n9_w,sw0,sw1,sw2,sw3,sw4,sw5,reduceCtorEq,Nat.reduceEqDiff,Nat.reduceAdd,Nat.reduceDiv,Nat.reduceLeDiff,q50.ret,hu.under]
      exact this
end Go.Proofs.YtcebebhaahpoiaaDoor
end
section
namespace Go.Proofs.YtcebebhaahpoiaaDoor
open Go Go.Ai Go.W
attribute [local irreducible] VC YC WC
set_option linter.unusedSimpArgs false
set_option linter.unusedVariables false
set_option maxRecDepth 10000
variable {k:Nat} {b:Option Nat} {H:List AObj} {lk:Bool} {K:AV→St→Prop}
theorem r12_Match_s (hk:1100≤k) {v:AV} {ms:List (Int × Int)} (hs:Sl H 2 kc v ms) (hl:ms.length≤1000)
    (hK:∀ u,VS 2 kc u (if matched ms then prs (dm ms) ms.length (List.range ms.length) else [])→K (.tup [u,iv (if matched ms then (pv (dm ms) (List.range ms.length)).1 else 0),iv (if matched ms then 0 else 2)]) ⟨H,lk⟩) :
    VC ⟨prog,k,b⟩ F_q47 [v] ⟨H,lk⟩ K:=by
  obtain ⟨k,rfl⟩:∃ j,k=j + 1:=⟨k - 1,by omega⟩
  apply q47.enter
  have hmk:=fun (K:AV→St→Prop)=>Marks_s (k:=k) (b:=some H.length) (lk:=false) (K:=K) (by omega) hs hl
  simp -implicitDefEqProofs only [q47.n0_w,sw0,sw1,sw2,sw3,sw4,sw5,reduceCtorEq,Nat.reduceEqDiff,Nat.reduceAdd,Nat.reduceDiv,Nat.reduceLeDiff,hmk]
  cases hm:matched ms with
  | false =>
    have:=hK (.slice true 0 []) (by rw [hm]; exact VS.nil)
    rw [hm] at this
    simp -implicitDefEqProofs only [sw0,sw1,sw2,sw3,sw4,sw5,reduceCtorEq,Nat.reduceEqDiff,Nat.reduceAdd,Nat.reduceDiv,Nat.reduceLeDiff,q47.n1_w,q47.ret]
    exact this
  | true =>
    have hm2:=hm
    simp -implicitDefEqProofs only [matched,Bool.and_eq_true,decide_eq_true_eq] at hm2
    obtain ⟨⟨he,hl16⟩,hok⟩:=hm2
    simp -implicitDefEqProofs only [sw0,sw1,sw2,sw3,sw4,sw5,reduceCtorEq,Nat.reduceEqDiff,Nat.reduceAdd,Nat.reduceDiv,Nat.reduceLeDiff,q47.n2_w]
    refine q47.n3_l (fun m r4 r5 s=>∃ i:Nat,r5=iv i∧r4=.sref H.length 0 i (i * 1) 1∧s=⟨H ++ [.cells ((nint (List.range i)).map ic).flatten],false⟩∧m=ms.length - i∧i≤ms.length) ms.length (by simp -implicitDefEqProofs only []; omega) ⟨0,rfl,rfl,rfl,by omega,by omega⟩ ?_
    rintro m r4 r5 r6 s ⟨i,rfl,rfl,rfl,hmm,hi⟩
    have hsX:=hs.app (L:=[.cells ((nint (List.range i)).map ic).flatten])
    have hnl:(nint (List.range i)).length=i:=by simp
    simp -implicitDefEqProofs only [q47.n4_w,sw0,sw1,sw2,sw3,sw4,sw5,reduceCtorEq,Nat.reduceEqDiff,Nat.reduceAdd,Nat.reduceDiv,Nat.reduceLeDiff,hsX.len]
    split
    · rename_i hlt
      have happ:=app_own (base:=some H.length) (lk:=false) (fl:=true) (bytes:=8) (xs:=nint (List.range i)) (x:=(i:Int)) (c:=H.length) (H:=H ++ [.cells ((nint (List.range i)).map ic).flatten]) Nat.one_pos ic_len (ic_one _) (ic_clean _) rfl (by simp -implicitDefEqProofs only [sw0,sw1,sw2,sw3,sw4,sw5,reduceCtorEq,Nat.reduceEqDiff,Nat.reduceAdd,Nat.reduceDiv,Nat.reduceLeDiff,row_hd,ic_flat,Nat.mul_one]) (by rw [hnl]; omega)
      rw [hnl] at happ
      simp -implicitDefEqProofs only [ic] at happ
      simp -implicitDefEqProofs only [q47.n6_w,sw0,sw1,sw2,sw3,sw4,sw5,reduceCtorEq,Nat.reduceEqDiff,Nat.reduceAdd,Nat.reduceDiv,Nat.reduceLeDiff,happ]
      rw [wrap64 (by omega)]
      refine q47.n3_go (m':=ms.length - (i + 1)) (by omega) ⟨i + 1,rfl,rfl,?_,rfl,by omega⟩
      simp [List.range_succ]
    · rename_i hge
      have hie:i=ms.length:=by omega
      subst hie
      have hv:SI (H ++ [.cells ((nint (List.range ms.length)).map ic).flatten]) (.sref H.length 0 ms.length (ms.length * 1) 1) (nint (List.range ms.length)):=by
        refine ⟨Nat.one_pos,ic_len,.inr ⟨H.length,0,ms.length * 1,((nint (List.range ms.length)).map ic).flatten,by rw [hnl],?_,?_⟩⟩
        · simp -implicitDefEqProofs only [sw0,sw1,sw2,sw3,sw4,sw5,reduceCtorEq,Nat.reduceEqDiff,Nat.reduceAdd,Nat.reduceDiv,Nat.reduceLeDiff,row_hd,ic_flat,hnl,Nat.mul_one]
        · rw [List.drop_zero,Nat.mul_one,← ic_flat,List.take_length]
      simp -implicitDefEqProofs only [q47.n7_w,sw0,sw1,sw2,sw3,sw4,sw5,reduceCtorEq,Nat.reduceEqDiff,Nat.reduceAdd,Nat.reduceDiv,Nat.reduceLeDiff]
      refine paired_s hok (ms.length / 2) (k:=k) (left:=List.range ms.length) (by omega) List.nodup_range (by simp; omega) (by omega) (fun i hi=>by simpa using hi) hsX hv ?_
      intro u hu
      rw [show 2 * (ms.length / 2)=ms.length by omega] at hu
      have:=hK u (by rw [hm]; exact hu)
      rw [hm] at this
      simp -implicitDefEqProofs only [sw0,sw1,sw2,sw3,sw4,sw5,reduceCtorEq,Nat.reduceEqDiff,Nat.reduceAdd,Nat.reduceDiv,Nat.reduceLeDiff,q47.ret,hu.under]
      exact this
end Go.Proofs.YtcebebhaahpoiaaDoor
end
section
namespace Go.Proofs.YtcebebhaahpoiaaDoor
open Go Go.Ai Go.W
attribute [local irreducible] VC YC WC
set_option linter.unusedVariables false
set_option linter.unusedSimpArgs false
set_option maxRecDepth 100000
def i64 (n:Int):Prop:=-9223372036854775808≤n∧n≤9223372036854775807
theorem len2 {xs:List AV} (h:xs.length=2):∃ a b,xs=[a,b]:=by
  match xs,h with
  | [a,b],_=>exact ⟨a,b,rfl⟩
theorem wt_list {α:Type} {d:Nat} {t:TypeId} {n:Nat} {f:α→List AV} {P:α→Prop} (hc:Tryd.prog.cellsOf t=n) (h1:∀ xs,xs.length=n→Wt Tryd.prog d t xs→∃ a,xs=f a∧P a):∀ {es:List (List AV)},(∀ l,l ∈ es→l.length=Tryd.prog.cellsOf t∧Wt Tryd.prog d t l)→∃ ys:List α,es=ys.map f∧∀ a,a ∈ ys→P a
  | [],_=>⟨[],rfl,fun a h=>by cases h⟩
  | e :: es,h=>by
    obtain ⟨ys,rfl,ha⟩:=wt_list hc h1 (es:=es) fun l hl=>h l (by simp [hl])
    obtain ⟨h2,h3⟩:=h e (by simp)
    rw [hc] at h2
    obtain ⟨a,rfl,hp⟩:=h1 e h2 h3
    exact ⟨a :: ys,rfl,fun x hx=>by rcases List.mem_cons.1 hx with rfl | h; exact hp; exact ha _ h⟩
theorem arg_of_slice {x:AV} {t:TypeId} {d:Nat} {z:Nat} {es:List (List AV)} (ha:isAggT Tryd.prog t=some false) (h:Arg Tryd.prog d t x) (he:x.cells=[.slice false z es]):x=.slice false z es:=by
  obtain ⟨_,_,h3⟩:=h
  cases x <;> first | exact absurd rfl (h3 ha _) | exact (List.cons.inj he).1
theorem c51:Tryd.prog.cellsOf 51=2:=by kernel_rfl
theorem wt_51 {d:Nat} {xs:List AV} (hl:xs.length=2) (h:Wt Tryd.prog (d + 2) 51 xs):∃ m:Int × Int,xs=kc m∧True:=by
  unfold Wt at h
  rw [Tryd.underlying51] at h
  obtain ⟨a,b,rfl⟩:=len2 hl
  obtain ⟨_,hf⟩:=h
  have f0:=hf _ (.head _)
  have f1:=hf _ (.tail _ (.head _))
  simp -implicitDefEqProofs only [c3,List.drop_zero,List.drop_succ_cons,List.take_succ_cons,List.take_zero] at f0 f1
  obtain ⟨x,hx⟩:=wt_int f0
  obtain ⟨y,hy⟩:=wt_int f1
  simp -implicitDefEqProofs only [List.cons.injEq,and_true] at hx hy
  exact ⟨(x,y),by rw [hx,hy],trivial⟩
theorem arg_marks {x:AV} (h:Arg Tryd.prog 8 42 x):∃ l:List (Int × Int),∀ H,Sl H 2 kc x l:=by
  have h1:=h.1
  unfold Wt at h1
  rw [Tryd.underlying42] at h1
  obtain ⟨es,he,_,h2⟩:=h1
  obtain ⟨l,rfl,_⟩:=wt_list c51 (fun xs hl hw=>wt_51 (d:=5) hl hw) h2
  rw [c51] at he
  rw [arg_of_slice (by kernel_rfl) h he]
  exact ⟨l,fun H=>Sl.val (by omega) kc_len⟩
variable {k:Nat} {b:Option Nat} {H:List AObj} {lk:Bool} {K:AV→St→Prop}
theorem PlantMatches_s (hk:16 ^ 54≤k) {v:AV} {ms:List (Int × Int)} (hs:Sl H 2 kc v ms) (hK:∀ s,K (.bool true) s):VC ⟨prog,k,b⟩ F_q1 [v] ⟨H,lk⟩ K:=by
  have e54:(16:Nat) ^ 54=105312291668557186697918027683670432318895095400549111254310977536:=by decide
  have e53:(16:Nat) ^ 53=6582018229284824168619876730229402019930943462534319453394436096:=by decide
  obtain ⟨k,rfl⟩:∃ j,k=j + 1:=⟨k - 1,by omega⟩
  apply q1.enter
  have d1:((¬ (10:Int) < ms.length∧(ms.length:Int)≤16∧¬ (20:Int) < ms.length)∨((10:Int) < ms.length∧¬ (ms.length:Int)≤16∧¬ (20:Int) < ms.length))∨((10:Int) < ms.length∧(ms.length:Int)≤16∧¬ (20:Int) < ms.length)∨((10:Int) < ms.length∧¬ (ms.length:Int)≤16∧(20:Int) < ms.length):=by omega
  have main:ms.length≤1000→∀ Z:List AV→List AV,∀ r1 r2 r3 r4 r5 r6:AV,WC ⟨prog,k,some H.length⟩ q1.n2 [v,r1,r2,r3,r4,r5,r6] ⟨H,false⟩ (RK H.length lk q1.res K):=by
    intro hl _ r1 r2 r3 r4 r5 r6
    have a1:=fun (K:AV→St→Prop)=>Match_s (K:=K) (k:=k) (b:=some H.length) (lk:=false) (by omega) hs hl
    simp -implicitDefEqProofs only [q1.n2_w,sw0,sw1,sw2,sw3,sw4,sw5,reduceCtorEq,Nat.reduceEqDiff,Nat.reduceAdd,Nat.reduceDiv,Nat.reduceLeDiff,a1]
    unfold matchAns
    have hpl:=prs_len (D:=dm ms) (r:=ms.length) (S:=List.range ms.length)
    cases hm:matched ms
    · simp -implicitDefEqProofs only [Bool.false_eq_true,if_false,sw0,sw1,sw2,sw3,sw4,sw5,reduceCtorEq,Nat.reduceEqDiff,Nat.reduceAdd,Nat.reduceDiv,Nat.reduceLeDiff]
      refine r12_Match_s (k:=k) (by omega) hs hl fun u hu=>?_
      rw [hm] at hu ⊢
      have i2:=fun (K:AV→St→Prop)=>SamePairs_s (K:=K) (k:=k) (b:=some H.length) (H:=H) (lk:=false) (v:=.slice false 2 []) (w:=u) (xs:=[]) (ys:=[]) (by omega) (Sl.nil (by omega) kc_len) (hu.sl (by omega) kc_len) (by simp)
      simp -implicitDefEqProofs only [sw0,sw1,sw2,sw3,sw4,sw5,reduceCtorEq,Nat.reduceEqDiff,Nat.reduceAdd,Nat.reduceDiv,Nat.reduceLeDiff,i2]
      refine awake_s (by omega) fun s=>?_
      obtain ⟨G,g⟩:=s
      cases g <;> simp -implicitDefEqProofs only [sw0,sw1,sw2,sw3,sw4,sw5,reduceCtorEq,Nat.reduceEqDiff,Nat.reduceAdd,Nat.reduceDiv,Nat.reduceLeDiff,q1.ret,lv_t,hK]
    · simp -implicitDefEqProofs only [if_true,sw0,sw1,sw2,sw3,sw4,sw5,reduceCtorEq,Nat.reduceEqDiff,Nat.reduceAdd,Nat.reduceDiv,Nat.reduceLeDiff]
      refine r12_Match_s (k:=k) (by omega) hs hl fun u hu=>?_
      rw [hm] at hu ⊢
      have i2:=fun (K:AV→St→Prop)=>SamePairs_s (K:=K) (k:=k) (b:=some H.length) (H:=H) (lk:=false) (v:=.slice false 2 ((prs (dm ms) ms.length (List.range ms.length)).map kc)) (w:=u) (xs:=prs (dm ms) ms.length (List.range ms.length)) (ys:=prs (dm ms) ms.length (List.range ms.length)) (by omega) (Sl.val (by omega) kc_len) (hu.sl (by omega) kc_len) (by omega)
      simp -implicitDefEqProofs only [sw0,sw1,sw2,sw3,sw4,sw5,reduceCtorEq,Nat.reduceEqDiff,Nat.reduceAdd,Nat.reduceDiv,Nat.reduceLeDiff,i2]
      refine awake_s (by omega) fun s=>?_
      obtain ⟨G,g⟩:=s
      cases g <;> simp -implicitDefEqProofs only [sw0,sw1,sw2,sw3,sw4,sw5,reduceCtorEq,Nat.reduceEqDiff,Nat.reduceAdd,Nat.reduceDiv,Nat.reduceLeDiff,q1.ret,lv_t,hK]
  rcases d1 with (⟨c1,c2,c3⟩ | ⟨c1,c2,c3⟩) | ⟨c1,c2,c3⟩ | ⟨c1,c2,c3⟩ <;> simp -implicitDefEqProofs only [q1.n0_w,sw0,sw1,sw2,sw3,sw4,sw5,reduceCtorEq,Nat.reduceEqDiff,Nat.reduceAdd,Nat.reduceDiv,Nat.reduceLeDiff,hs.len,c1,c2,c3,gO_u]
  · exact main (by omega) id _ _ _ _ _ _
  · exact main (by omega) id _ _ _ _ _ _
  · simp -implicitDefEqProofs only [q1.n1_w,sw0,sw1,sw2,sw3,sw4,sw5,reduceCtorEq,Nat.reduceEqDiff,Nat.reduceAdd,Nat.reduceDiv,Nat.reduceLeDiff]
    refine awake_s (by omega) fun s=>?_
    obtain ⟨G,g⟩:=s
    cases g <;> simp -implicitDefEqProofs only [sw0,sw1,sw2,sw3,sw4,sw5,reduceCtorEq,Nat.reduceEqDiff,Nat.reduceAdd,Nat.reduceDiv,Nat.reduceLeDiff,q1.ret,lv_t,hK]
  · simp -implicitDefEqProofs only [q1.n1_w,sw0,sw1,sw2,sw3,sw4,sw5,reduceCtorEq,Nat.reduceEqDiff,Nat.reduceAdd,Nat.reduceDiv,Nat.reduceLeDiff]
    refine awake_s (by omega) fun s=>?_
    obtain ⟨G,g⟩:=s
    cases g <;> simp -implicitDefEqProofs only [sw0,sw1,sw2,sw3,sw4,sw5,reduceCtorEq,Nat.reduceEqDiff,Nat.reduceAdd,Nat.reduceDiv,Nat.reduceLeDiff,q1.ret,lv_t,hK]
end Go.Proofs.YtcebebhaahpoiaaDoor
end
section
namespace Go.Proofs.YtcebebhaahpoiaaDoor
open Go Go.Ai Go.W Go.RowKit Go.ChangeShapes Go.WideShapes Go.ChangeAt Go.Lib
set_option maxRecDepth 100000
theorem plantmatches_law (xs:List AV) (hl:xs.length=Tryd.f5.params.toList.length) (hx:∀ (j:Nat) t x,Tryd.f5.params.toList[j]?=some t→xs[j]?=some x→Arg Tryd.prog 8 t x) :
    ∃ k,(ev prog k (.fn 5) xs ⟨[],false⟩).All fun p=>p.1=.val (.bool true):=by
  have hl2:xs.length=1:=hl
  match xs,hl2 with
  | [a],_ =>
    obtain ⟨l,hl⟩:=arg_marks (hx 0 42 a rfl rfl)
    refine ⟨16 ^ 54,?_⟩
    have h:=PlantMatches_s (k:=16 ^ 54) (b:=none) (H:=[]) (lk:=false) (K:=fun v _=>v=.bool true) (Nat.le_refl _) (hl []) (fun _=>rfl)
    unfold VC at h
    refine Res.All.mono (fun r hr=>?_) h
    obtain ⟨v,s⟩:=r
    cases v with
    | val v=>exact congrArg _ hr
    | panic v=>exact hr.elim
theorem plantmatches_lifted (os:Os) (started:os.Started) (X:Type) (enc:TypeId × Value→X) :
    ReturnsInHanded {} Tryd.checked os 5 .any (fun w args=>(Rows.plantMatchesSpec.pre enc Tryd.prog Tryd.f5 [] false w args∧laidMetH Tryd.prog laidL w)∧sizedMet enc Tryd.prog Tryd.f5 (OpenSpec.ofChange Rows.plantMatchesSpec) false w args)
      (Rows.plantMatchesSpec.post enc Tryd.prog Tryd.f5 false true false false):=by
  refine returnsInHanded_of_change_and (C:=Tryd.checked) (X:=fun w _=>laidMetH Tryd.prog laidL w) (fun _ _ _ hh h=>h.of_heap hh) own started (by kernel_rfl) Tryd.func5
    (ChangeSpec.witness_shaped (enc:=enc) (C:=Tryd.checked) (os:=os) (X:=fun w _=>laidMetH Tryd.prog laidL w) false (World.laidAll Tryd.prog os laidL) #[.slice none 0 0] 8 (World.laidAll_os _ _ _)
      (World.shaped_of_ZipB (by kernel_rfl) (by kernel_rfl)) (by kernel_rfl) (by kernel_rfl) (by kernel_rfl)
      (by rw [MakeChecks.laidMetH_plain _ _ _ (by kernel_rfl)]; exact laidMet_laidAll _ (by kernel_rfl) (by kernel_rfl))) ?_
  intro W base args ds gs before hval0 hW _ _ hL _
  have hval:∀ (j:Nat) t v,Tryd.f5.params.toList[j]?=some t→args.toList[j]?=some v→Value.okWide Tryd.prog W .any base t v:=fun j t v h1 h2=>hval0 j t v (by simpa using h1) (by simpa using h2)
  have hW':=hW
  obtain ⟨p,q,hA0,hV,rfl,_,_⟩:=hW
  have hA:DataW.TrodAll enc Tryd.prog W 0 (fun _=>true) true Tryd.f5.params.toList args.toList ds p:=hA0
  obtain ⟨rfl,rfl⟩:=trodVars_none hV
  rw [MakeChecks.laidMetH_plain _ _ _ (by kernel_rfl)] at hL
  obtain ⟨o,ho,hTab⟩:=tab_of_laid hL
  have hpl:(Tryd.f5.params.toList.all fun t=>plainT Tryd.prog 8 t)=true:=by kernel_rfl
  obtain ⟨xs,hLR,hxl,hxa⟩:=read_args (d:=8) hA hval (fun t ht=>List.all_eq_true.1 hpl t ht)
  obtain ⟨k,hk⟩:=plantmatches_law xs hxl hxa
  have hrd:(Tryd.f5.params.toList.all fun t=>Tryd.prog.readableRec t && decide (t < Tryd.prog.types.size))=true:=by kernel_rfl
  have hlen:ds.length=1:=(trodAll_len hA).trans (by kernel_rfl)
  have hcall:=law_call (progOK hTab) mixedP k 5 W args.toList xs hLR (fun p hp=>by simp -implicitDefEqProofs only [List.mem_singleton] at hp; subst hp; exact ho) hk
  refine hcall.mono fun e W' ⟨he,hb⟩=>⟨_,he,?_⟩
  refine post_of_law laidOutP (fun t ht=>by have:=List.all_eq_true.1 hrd t ht; simp -implicitDefEqProofs only [Bool.and_eq_true,decide_eq_true_eq] at this; exact this) (tb:=4) (by kernel_rfl) Tryd.underlying4 rfl hW' ?_ hb
  match ds,hlen with
  | [d1],_=>exact ⟨rfl,rfl,rfl⟩
theorem plantmatches_holds:Rows.PlantMatchesSaid :=
  OpenClaim.holds_of_wide 5 Tryd.f5 rfl rfl rfl rfl rfl rfl rfl ⟨rfl,rfl,rfl,rfl,rfl⟩ rfl rfl rfl rfl rfl (by kernel_rfl) Tryd.func5 (by kernel_rfl)
    (of_decide_eq_true (by kernel_rfl)) (by unfold Func.isWrapper; first | (rw [if_pos (by decide +kernel)]; kernel_rfl) | (rw [if_neg (by decide +kernel)]; exact ⟨rfl,rfl⟩))
    (fun os started H enc _=>plantmatches_lifted os started H enc)
theorem plantmatches_card:Rows.PlantMatchesCardSaid :=
  Claim7.holds_tied_plain_at .later [] [.data, .data] true (true, "98e795a669b5da70fd090277ed8c58b8aa4305f620608e823b1754817605947f") false plantmatches_holds (fun _ h => by cases h) (by kernel_rfl) (fun _ h => by cases h) plantMatches_row_tie rfl ⟨rfl, rfl⟩ (by kernel_rfl) rfl
    (fun f fn hf hfn=>by
      obtain rfl : f = 5 := Option.some.inj ((show Tryd.prog.funcNamed "besom/besomlaw12.PlantMatches" = some 5 by kernel_rfl).symm.trans hf) |>.symm
      obtain rfl:fn=Tryd.f5:=(Option.some.inj (Tryd.func5.symm.trans hfn)).symm
      exact ⟨by kernel_rfl,fun j t ht=>by
        have hall:(Tryd.f5.params.toList.all fun u=>!Tryd.prog.wantsStandIn u)=true:=by kernel_rfl
        have hm:t ∈ Tryd.f5.params.toList:=by simpa using Array.mem_of_getElem? ht
        exact (show Tryd.prog.wantsStandIn t=false by simpa using List.all_eq_true.1 hall t hm)⟩)
    (by kernel_rfl)
end Go.Proofs.YtcebebhaahpoiaaDoor
end
#print axioms Go.Proofs.YtcebebhaahpoiaaDoor.plantmatches_card
