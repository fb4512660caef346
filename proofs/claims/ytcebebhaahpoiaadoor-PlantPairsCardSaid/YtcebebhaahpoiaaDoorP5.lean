/- PlantPairs: for all marks and bytes the law answers true and turns nothing, with no condition. Part 5 of 5. -/
import Derived.KernelRfl
import Derived.Test.YtcebebhaahpoiaaDoorP4
set_option maxHeartbeats 2000000
set_option linter.unusedSimpArgs false
set_option linter.unusedVariables false
set_option linter.deprecated false
set_option linter.all false
section
namespace Go.Proofs.YtcebebhaahpoiaaDoor
open Go Go.Ai Go.W
attribute [local irreducible] VC YC WC
set_option linter.unusedSimpArgs false
set_option linter.unusedVariables false
set_option maxRecDepth 10000
variable {k:Nat} {b:Option Nat} {H:List AObj} {lk:Bool} {K:AV→St→Prop}
def jA:List (Int × Int × Int):=[(0,0,3),(1,0,2),(2,1,2)]
abbrev vA:AV:=.slice true 3 [[iv 0,iv 0,iv 3],[iv 1,iv 0,iv 2],[iv 2,iv 1,iv 2]]
theorem vA_sl:Sl H 3 jc vA jA:=Sl.lit (by omega) jc_len rfl
theorem yA0 (hk:1000≤k) {r0 r1 r6 r9 r10 r11 r12 r13 r14 r15 r16 r17 r18 r19 r20 r21 r22 r23 r24 r25 r26 r27 r28 r29 r30 r31 r32 r33 r34 r35 r36 r37 r38 r39 r40 r41 r42 r43 r44 r45 r46 r47 r48 r49 r50 r51 r52 r53 r54 r55 r56 r57 r58 r59 r60 r61 r62 r63 r64 r65 r66:AV} {x1 x2 x3:AObj} (hK:K (.bool true) ⟨H ++ [.cells [vA],.cells [iv 1],.cells [.slice true 0 []],.cells [iv 0],.cells [iv 0,iv 0,iv 0],.cells [.sref (H.length + 4) 0 3 3 1],.cells [.sref (H.length + 15) 0 1 2 1,.fn F_q17 [.ptr H.length 0 1]],.map shI 3 [(iv 0,.sref (H.length + 10) 0 2 2 1),(iv 1,.sref (H.length + 13) 0 1 1 1)],.cells [.map (H.length + 7)],x1,.cells [iv 0,iv 1],x2,x3,.cells [iv 2],.loop [r0,r1,.ptr H.length 0 1,.ptr (H.length + 1) 0 1,.ptr (H.length + 2) 0 1,.ptr (H.length + 3) 0 1,r6,.ptr (H.length + 5) 0 1,.ptr (H.length + 6) 0 2,r9,r10,r11,r12,r13,r14,r15,r16,r17,r18,r19,r20,r21,r22,r23,r24,r25,r26,r27,r28,r29,r30,r31,r32,r33,r34,r35,r36,r37,r38,r39,r40,r41,r42,r43,r44,r45,r46,r47,r48,r49,r50,r51,r52,r53,r54,r55,r56,r57,r58,r59,r60,r61,r62,r63,r64,r65,r66] [28,29] q16.n4 q16.n5 true none,.cells [iv 0,iv 0]],true⟩):YC ⟨prog,k + 1,b⟩ (H.length + 14) [iv 0,.sref (H.length + 10) 0 2 2 1] ⟨H ++ [.cells [vA],.cells [iv 1],.cells [.slice true 0 []],.cells [iv 0],.cells [iv 0,iv 0,iv 0],.cells [.sref (H.length + 4) 0 3 3 1],.cells [.slice true 0 [],.fn F_q17 [.ptr H.length 0 1]],.map shI 3 [(iv 0,.sref (H.length + 10) 0 2 2 1),(iv 1,.sref (H.length + 13) 0 1 1 1)],.cells [.map (H.length + 7)],x1,.cells [iv 0,iv 1],x2,x3,.cells [iv 2],.loop [r0,r1,.ptr H.length 0 1,.ptr (H.length + 1) 0 1,.ptr (H.length + 2) 0 1,.ptr (H.length + 3) 0 1,r6,.ptr (H.length + 5) 0 1,.ptr (H.length + 6) 0 2,r9,r10,r11,r12,r13,r14,r15,r16,r17,r18,r19,r20,r21,r22,r23,r24,r25,r26,r27,r28,r29,r30,r31,r32,r33,r34,r35,r36,r37,r38,r39,r40,r41,r42,r43,r44,r45,r46,r47,r48,r49,r50,r51,r52,r53,r54,r55,r56,r57,r58,r59,r60,r61,r62,r63,r64,r65,r66] [28,29] q16.n4 q16.n5 true none],lk⟩ K:=by
  have hk1:100≤k:=by omega
  have hk2:100≤k - 1:=by omega
  refine YC_go (by simp -implicitDefEqProofs only [sw0,sw1,sw2,sw3,sw4,sw5,reduceCtorEq,Nat.reduceEqDiff,Nat.reduceAdd,Nat.reduceDiv,Nat.reduceLeDiff,dw0,Int.reduceAdd,Int.reduceSub,Int.reduceMul,Int.reduceLT,Int.reduceLE,Int.reduceNeg,Int.reduceEq,Int.reduceToNat,Nat.reduceLT,Nat.reduceMul,Nat.reduceSub,Nat.reduceBEq,Nat.reduceLeDiff,xw0,eApp,rowOf,appRow,lkL,lkN,eMupd,vLook,mapSh,findE,putE,keqL,hasSh,fits,shb,Int.reduceBEq,eMksl,vSlc,boundsOf,boundOf,cleanL,Nat.reduceGT,Int.reduceGT,Int.reduceGE,Int.reduceDiv,Int.reduceTDiv,vAidx,rdc]; rfl) rfl ?_
  simp -implicitDefEqProofs only [sw0,sw1,sw2,sw3,sw4,sw5,reduceCtorEq,Nat.reduceEqDiff,Nat.reduceAdd,Nat.reduceDiv,Nat.reduceLeDiff,dw0,Int.reduceAdd,Int.reduceSub,Int.reduceMul,Int.reduceLT,Int.reduceLE,Int.reduceNeg,Int.reduceEq,Int.reduceToNat,Nat.reduceLT,Nat.reduceMul,Nat.reduceSub,Nat.reduceBEq,Nat.reduceLeDiff,xw0,eApp,rowOf,appRow,lkL,lkN,eMupd,vLook,mapSh,findE,putE,keqL,hasSh,fits,shb,Int.reduceBEq,eMksl,vSlc,boundsOf,boundOf,cleanL,Nat.reduceGT,Int.reduceGT,Int.reduceGE,Int.reduceDiv,Int.reduceTDiv,vAidx,rdc,q16.n4_w,q16.n5_w,YK,Plan_u6]
  refine ⟨⟨_,_,_,_,rfl⟩,?_⟩
  rw [wl_1 (by omega)]
  simp -implicitDefEqProofs only [q16.n7_w,sw0,sw1,sw2,sw3,sw4,sw5,reduceCtorEq,Nat.reduceEqDiff,Nat.reduceAdd,Nat.reduceDiv,Nat.reduceLeDiff,dw0,Int.reduceAdd,Int.reduceSub,Int.reduceMul,Int.reduceLT,Int.reduceLE,Int.reduceNeg,Int.reduceEq,Int.reduceToNat,Nat.reduceLT,Nat.reduceMul,Nat.reduceSub,Nat.reduceBEq,Nat.reduceLeDiff,xw0,eApp,rowOf,appRow,lkL,lkN,eMupd,vLook,mapSh,findE,putE,keqL,hasSh,fits,shb,Int.reduceBEq,eMksl,vSlc,boundsOf,boundOf,cleanL,Nat.reduceGT,Int.reduceGT,Int.reduceGE,Int.reduceDiv,Int.reduceTDiv,vAidx,rdc,q16.n9_w]
  have h:=fun (K:AV→St→Prop) X (hK)=>put0' (k:=k) (b:=none) (lk:=lk) (K:=K) (n:=0) (f:=.fn F_q17 [.ptr H.length 0 1]) hk1 (H:=H ++ [.cells [vA],.cells [iv 1],.cells [.slice true 0 []],.cells [iv 0],.cells [iv 0,iv 0,iv 0],.cells [.sref (H.length + 4) 0 3 3 1]]) (L:=[.map shI 3 [(iv 0,.sref (H.length + 10) 0 2 2 1),(iv 1,.sref (H.length + 13) 0 1 1 1)],.cells [.map (H.length + 7)],x1,.cells [iv 0,iv 1],x2,x3,.cells [iv 2],X]) hK
  simp -implicitDefEqProofs only [sw0,sw1,sw2,sw3,sw4,sw5,reduceCtorEq,Nat.reduceEqDiff,Nat.reduceAdd,Nat.reduceDiv,Nat.reduceLeDiff,Nat.add_assoc] at h
  refine h _ _ ?_
  clear h
  rw [wl_1 (by omega)]
  simp -implicitDefEqProofs only [q16.n7_w,sw0,sw1,sw2,sw3,sw4,sw5,reduceCtorEq,Nat.reduceEqDiff,Nat.reduceAdd,Nat.reduceDiv,Nat.reduceLeDiff,dw0,Int.reduceAdd,Int.reduceSub,Int.reduceMul,Int.reduceLT,Int.reduceLE,Int.reduceNeg,Int.reduceEq,Int.reduceToNat,Nat.reduceLT,Nat.reduceMul,Nat.reduceSub,Nat.reduceBEq,Nat.reduceLeDiff,xw0,eApp,rowOf,appRow,lkL,lkN,eMupd,vLook,mapSh,findE,putE,keqL,hasSh,fits,shb,Int.reduceBEq,eMksl,vSlc,boundsOf,boundOf,cleanL,Nat.reduceGT,Int.reduceGT,Int.reduceGE,Int.reduceDiv,Int.reduceTDiv,vAidx,rdc,q16.n9_w]
  have h:=fun (K:AV→St→Prop) X (hK)=>put1'_1 (k:=k) (b:=none) (lk:=true) (K:=K) (n:=1) (m:=0) (z:=.undef) (qs:=jA) (cl:=H.length) (v:=vA) hk1 (H:=H ++ [.cells [vA],.cells [iv 1],.cells [.slice true 0 []],.cells [iv 0],.cells [iv 0,iv 0,iv 0],.cells [.sref (H.length + 4) 0 3 3 1]]) (L:=[.map shI 3 [(iv 0,.sref (H.length + 10) 0 2 2 1),(iv 1,.sref (H.length + 13) 0 1 1 1)],.cells [.map (H.length + 7)],x1,.cells [iv 0,iv 1],x2,x3,.cells [iv 2],X]) vA_sl (by simp -implicitDefEqProofs only [sw0,sw1,sw2,sw3,sw4,sw5,reduceCtorEq,Nat.reduceEqDiff,Nat.reduceAdd,Nat.reduceDiv,Nat.reduceLeDiff,dw0,Int.reduceAdd,Int.reduceSub,Int.reduceMul,Int.reduceLT,Int.reduceLE,Int.reduceNeg,Int.reduceEq,Int.reduceToNat,Nat.reduceLT,Nat.reduceMul,Nat.reduceSub,Nat.reduceBEq,Nat.reduceLeDiff,xw0,eApp,rowOf,appRow,lkL,lkN,eMupd,vLook,mapSh,findE,putE,keqL,hasSh,fits,shb,Int.reduceBEq,eMksl,vSlc,boundsOf,boundOf,cleanL,Nat.reduceGT,Int.reduceGT,Int.reduceGE,Int.reduceDiv,Int.reduceTDiv,vAidx,rdc]) (by decide) (by decide) hK
  simp -implicitDefEqProofs only [sw0,sw1,sw2,sw3,sw4,sw5,reduceCtorEq,Nat.reduceEqDiff,Nat.reduceAdd,Nat.reduceDiv,Nat.reduceLeDiff,dw0,Int.reduceAdd,Int.reduceSub,Int.reduceMul,Int.reduceLT,Int.reduceLE,Int.reduceNeg,Int.reduceEq,Int.reduceToNat,Nat.reduceLT,Nat.reduceMul,Nat.reduceSub,Nat.reduceBEq,Nat.reduceLeDiff,xw0,eApp,rowOf,appRow,lkL,lkN,eMupd,vLook,mapSh,findE,putE,keqL,hasSh,fits,shb,Int.reduceBEq,eMksl,vSlc,boundsOf,boundOf,cleanL,Nat.reduceGT,Int.reduceGT,Int.reduceGE,Int.reduceDiv,Int.reduceTDiv,vAidx,rdc,jA,Nat.add_assoc] at h
  refine h _ _ ?_
  clear h
  rw [wl_1 (by omega)]
  simp -implicitDefEqProofs only [q16.n7_w,sw0,sw1,sw2,sw3,sw4,sw5,reduceCtorEq,Nat.reduceEqDiff,Nat.reduceAdd,Nat.reduceDiv,Nat.reduceLeDiff,dw0,Int.reduceAdd,Int.reduceSub,Int.reduceMul,Int.reduceLT,Int.reduceLE,Int.reduceNeg,Int.reduceEq,Int.reduceToNat,Nat.reduceLT,Nat.reduceMul,Nat.reduceSub,Nat.reduceBEq,Nat.reduceLeDiff,xw0,eApp,rowOf,appRow,lkL,lkN,eMupd,vLook,mapSh,findE,putE,keqL,hasSh,fits,shb,Int.reduceBEq,eMksl,vSlc,boundsOf,boundOf,cleanL,Nat.reduceGT,Int.reduceGT,Int.reduceGE,Int.reduceDiv,Int.reduceTDiv,vAidx,rdc,q16.n10_w,Plan_u11]
  rw [wl_1 (by omega)]
  simp -implicitDefEqProofs only [q16.n12_w,sw0,sw1,sw2,sw3,sw4,sw5,reduceCtorEq,Nat.reduceEqDiff,Nat.reduceAdd,Nat.reduceDiv,Nat.reduceLeDiff,dw0,Int.reduceAdd,Int.reduceSub,Int.reduceMul,Int.reduceLT,Int.reduceLE,Int.reduceNeg,Int.reduceEq,Int.reduceToNat,Nat.reduceLT,Nat.reduceMul,Nat.reduceSub,Nat.reduceBEq,Nat.reduceLeDiff,xw0,eApp,rowOf,appRow,lkL,lkN,eMupd,vLook,mapSh,findE,putE,keqL,hasSh,fits,shb,Int.reduceBEq,eMksl,vSlc,boundsOf,boundOf,cleanL,Nat.reduceGT,Int.reduceGT,Int.reduceGE,Int.reduceDiv,Int.reduceTDiv,vAidx,rdc,q16.n14_w]
  have h:=fun (K:AV→St→Prop) X (hK)=>take2 (k:=k - 1) (b:=none) (K:=K) (n:=1) (m:=0) (f:=.fn F_q17 [.ptr H.length 0 1]) hk2 (H:=H ++ [.cells [vA],.cells [iv 1],.cells [.slice true 0 []],.cells [iv 0],.cells [iv 0,iv 0,iv 0],.cells [.sref (H.length + 4) 0 3 3 1]]) (L:=[.map shI 3 [(iv 0,.sref (H.length + 10) 0 2 2 1),(iv 1,.sref (H.length + 13) 0 1 1 1)],.cells [.map (H.length + 7)],x1,.cells [iv 0,iv 1],x2,x3,.cells [iv 2],X]) hK
  rw [show k - 1 + 1=k by omega] at h
  simp -implicitDefEqProofs only [sw0,sw1,sw2,sw3,sw4,sw5,reduceCtorEq,Nat.reduceEqDiff,Nat.reduceAdd,Nat.reduceDiv,Nat.reduceLeDiff,dw0,Int.reduceAdd,Int.reduceSub,Int.reduceMul,Int.reduceLT,Int.reduceLE,Int.reduceNeg,Int.reduceEq,Int.reduceToNat,Nat.reduceLT,Nat.reduceMul,Nat.reduceSub,Nat.reduceBEq,Nat.reduceLeDiff,xw0,eApp,rowOf,appRow,lkL,lkN,eMupd,vLook,mapSh,findE,putE,keqL,hasSh,fits,shb,Int.reduceBEq,eMksl,vSlc,boundsOf,boundOf,cleanL,Nat.reduceGT,Int.reduceGT,Int.reduceGE,Int.reduceDiv,Int.reduceTDiv,vAidx,rdc,Nat.add_assoc] at h
  refine h _ _ ?_
  clear h
  simp -implicitDefEqProofs only [sw0,sw1,sw2,sw3,sw4,sw5,reduceCtorEq,Nat.reduceEqDiff,Nat.reduceAdd,Nat.reduceDiv,Nat.reduceLeDiff,dw0,Int.reduceAdd,Int.reduceSub,Int.reduceMul,Int.reduceLT,Int.reduceLE,Int.reduceNeg,Int.reduceEq,Int.reduceToNat,Nat.reduceLT,Nat.reduceMul,Nat.reduceSub,Nat.reduceBEq,Nat.reduceLeDiff,xw0,eApp,rowOf,appRow,lkL,lkN,eMupd,vLook,mapSh,findE,putE,keqL,hasSh,fits,shb,Int.reduceBEq,eMksl,vSlc,boundsOf,boundOf,cleanL,Nat.reduceGT,Int.reduceGT,Int.reduceGE,Int.reduceDiv,Int.reduceTDiv,vAidx,rdc,q16.n16_w,q16.n17_w]
  rw [wl_1 (by omega)]
  simp -implicitDefEqProofs only [q16.n12_w,sw0,sw1,sw2,sw3,sw4,sw5,reduceCtorEq,Nat.reduceEqDiff,Nat.reduceAdd,Nat.reduceDiv,Nat.reduceLeDiff,dw0,Int.reduceAdd,Int.reduceSub,Int.reduceMul,Int.reduceLT,Int.reduceLE,Int.reduceNeg,Int.reduceEq,Int.reduceToNat,Nat.reduceLT,Nat.reduceMul,Nat.reduceSub,Nat.reduceBEq,Nat.reduceLeDiff,xw0,eApp,rowOf,appRow,lkL,lkN,eMupd,vLook,mapSh,findE,putE,keqL,hasSh,fits,shb,Int.reduceBEq,eMksl,vSlc,boundsOf,boundOf,cleanL,Nat.reduceGT,Int.reduceGT,Int.reduceGE,Int.reduceDiv,Int.reduceTDiv,vAidx,rdc,YK]
  exact hK
theorem yA1 (hk:1000≤k) {r0 r1 r6 r9 r10 r11 r12 r13 r14 r15 r16 r17 r18 r19 r20 r21 r22 r23 r24 r25 r26 r27 r28 r29 r30 r31 r32 r33 r34 r35 r36 r37 r38 r39 r40 r41 r42 r43 r44 r45 r46 r47 r48 r49 r50 r51 r52 r53 r54 r55 r56 r57 r58 r59 r60 r61 r62 r63 r64 r65 r66:AV} {x1 x2 x3:AObj} (hK:K (.bool true) ⟨H ++ [.cells [vA],.cells [iv 1],.cells [.slice true 0 []],.cells [iv 0],.cells [iv 0,iv 0,iv 1],.cells [.sref (H.length + 4) 0 3 3 1],.cells [.sref (H.length + 15) 0 1 2 1,.fn F_q17 [.ptr H.length 0 1]],.map shI 3 [(iv 0,.sref (H.length + 10) 0 2 2 1),(iv 1,.sref (H.length + 13) 0 1 1 1)],.cells [.map (H.length + 7)],x1,.cells [iv 0,iv 1],x2,x3,.cells [iv 2],.loop [r0,r1,.ptr H.length 0 1,.ptr (H.length + 1) 0 1,.ptr (H.length + 2) 0 1,.ptr (H.length + 3) 0 1,r6,.ptr (H.length + 5) 0 1,.ptr (H.length + 6) 0 2,r9,r10,r11,r12,r13,r14,r15,r16,r17,r18,r19,r20,r21,r22,r23,r24,r25,r26,r27,r28,r29,r30,r31,r32,r33,r34,r35,r36,r37,r38,r39,r40,r41,r42,r43,r44,r45,r46,r47,r48,r49,r50,r51,r52,r53,r54,r55,r56,r57,r58,r59,r60,r61,r62,r63,r64,r65,r66] [28,29] q16.n4 q16.n5 true none,.cells [iv 0,iv 0]],true⟩):YC ⟨prog,k + 1,b⟩ (H.length + 14) [iv 1,.sref (H.length + 13) 0 1 1 1] ⟨H ++ [.cells [vA],.cells [iv 1],.cells [.slice true 0 []],.cells [iv 0],.cells [iv 0,iv 0,iv 0],.cells [.sref (H.length + 4) 0 3 3 1],.cells [.sref (H.length + 15) 0 1 2 1,.fn F_q17 [.ptr H.length 0 1]],.map shI 3 [(iv 0,.sref (H.length + 10) 0 2 2 1),(iv 1,.sref (H.length + 13) 0 1 1 1)],.cells [.map (H.length + 7)],x1,.cells [iv 0,iv 1],x2,x3,.cells [iv 2],.loop [r0,r1,.ptr H.length 0 1,.ptr (H.length + 1) 0 1,.ptr (H.length + 2) 0 1,.ptr (H.length + 3) 0 1,r6,.ptr (H.length + 5) 0 1,.ptr (H.length + 6) 0 2,r9,r10,r11,r12,r13,r14,r15,r16,r17,r18,r19,r20,r21,r22,r23,r24,r25,r26,r27,r28,r29,r30,r31,r32,r33,r34,r35,r36,r37,r38,r39,r40,r41,r42,r43,r44,r45,r46,r47,r48,r49,r50,r51,r52,r53,r54,r55,r56,r57,r58,r59,r60,r61,r62,r63,r64,r65,r66] [28,29] q16.n4 q16.n5 true none,.cells [iv 0,iv 0]],true⟩ K:=by
  have hk1:100≤k:=by omega
  have hk2:100≤k - 1:=by omega
  refine YC_go (by simp -implicitDefEqProofs only [sw0,sw1,sw2,sw3,sw4,sw5,reduceCtorEq,Nat.reduceEqDiff,Nat.reduceAdd,Nat.reduceDiv,Nat.reduceLeDiff,dw0,Int.reduceAdd,Int.reduceSub,Int.reduceMul,Int.reduceLT,Int.reduceLE,Int.reduceNeg,Int.reduceEq,Int.reduceToNat,Nat.reduceLT,Nat.reduceMul,Nat.reduceSub,Nat.reduceBEq,Nat.reduceLeDiff,xw0,eApp,rowOf,appRow,lkL,lkN,eMupd,vLook,mapSh,findE,putE,keqL,hasSh,fits,shb,Int.reduceBEq,eMksl,vSlc,boundsOf,boundOf,cleanL,Nat.reduceGT,Int.reduceGT,Int.reduceGE,Int.reduceDiv,Int.reduceTDiv,vAidx,rdc]; rfl) rfl ?_
  simp -implicitDefEqProofs only [sw0,sw1,sw2,sw3,sw4,sw5,reduceCtorEq,Nat.reduceEqDiff,Nat.reduceAdd,Nat.reduceDiv,Nat.reduceLeDiff,dw0,Int.reduceAdd,Int.reduceSub,Int.reduceMul,Int.reduceLT,Int.reduceLE,Int.reduceNeg,Int.reduceEq,Int.reduceToNat,Nat.reduceLT,Nat.reduceMul,Nat.reduceSub,Nat.reduceBEq,Nat.reduceLeDiff,xw0,eApp,rowOf,appRow,lkL,lkN,eMupd,vLook,mapSh,findE,putE,keqL,hasSh,fits,shb,Int.reduceBEq,eMksl,vSlc,boundsOf,boundOf,cleanL,Nat.reduceGT,Int.reduceGT,Int.reduceGE,Int.reduceDiv,Int.reduceTDiv,vAidx,rdc,q16.n4_w,q16.n5_w,YK,Plan_u6]
  refine ⟨⟨_,_,_,_,rfl⟩,?_⟩
  rw [wl_1 (by omega)]
  simp -implicitDefEqProofs only [q16.n7_w,sw0,sw1,sw2,sw3,sw4,sw5,reduceCtorEq,Nat.reduceEqDiff,Nat.reduceAdd,Nat.reduceDiv,Nat.reduceLeDiff,dw0,Int.reduceAdd,Int.reduceSub,Int.reduceMul,Int.reduceLT,Int.reduceLE,Int.reduceNeg,Int.reduceEq,Int.reduceToNat,Nat.reduceLT,Nat.reduceMul,Nat.reduceSub,Nat.reduceBEq,Nat.reduceLeDiff,xw0,eApp,rowOf,appRow,lkL,lkN,eMupd,vLook,mapSh,findE,putE,keqL,hasSh,fits,shb,Int.reduceBEq,eMksl,vSlc,boundsOf,boundOf,cleanL,Nat.reduceGT,Int.reduceGT,Int.reduceGE,Int.reduceDiv,Int.reduceTDiv,vAidx,rdc,q16.n9_w]
  have h:=fun (K:AV→St→Prop) X (hK)=>put1'_2 (k:=k) (b:=none) (lk:=true) (K:=K) (n:=2) (m:=0) (z:=iv 0) (qs:=jA) (cl:=H.length) (v:=vA) hk1 (H:=H ++ [.cells [vA],.cells [iv 1],.cells [.slice true 0 []],.cells [iv 0],.cells [iv 0,iv 0,iv 0],.cells [.sref (H.length + 4) 0 3 3 1]]) (L:=[.map shI 3 [(iv 0,.sref (H.length + 10) 0 2 2 1),(iv 1,.sref (H.length + 13) 0 1 1 1)],.cells [.map (H.length + 7)],x1,.cells [iv 0,iv 1],x2,x3,.cells [iv 2],X]) vA_sl (by simp -implicitDefEqProofs only [sw0,sw1,sw2,sw3,sw4,sw5,reduceCtorEq,Nat.reduceEqDiff,Nat.reduceAdd,Nat.reduceDiv,Nat.reduceLeDiff,dw0,Int.reduceAdd,Int.reduceSub,Int.reduceMul,Int.reduceLT,Int.reduceLE,Int.reduceNeg,Int.reduceEq,Int.reduceToNat,Nat.reduceLT,Nat.reduceMul,Nat.reduceSub,Nat.reduceBEq,Nat.reduceLeDiff,xw0,eApp,rowOf,appRow,lkL,lkN,eMupd,vLook,mapSh,findE,putE,keqL,hasSh,fits,shb,Int.reduceBEq,eMksl,vSlc,boundsOf,boundOf,cleanL,Nat.reduceGT,Int.reduceGT,Int.reduceGE,Int.reduceDiv,Int.reduceTDiv,vAidx,rdc]) (by decide) (by decide) hK
  simp -implicitDefEqProofs only [sw0,sw1,sw2,sw3,sw4,sw5,reduceCtorEq,Nat.reduceEqDiff,Nat.reduceAdd,Nat.reduceDiv,Nat.reduceLeDiff,dw0,Int.reduceAdd,Int.reduceSub,Int.reduceMul,Int.reduceLT,Int.reduceLE,Int.reduceNeg,Int.reduceEq,Int.reduceToNat,Nat.reduceLT,Nat.reduceMul,Nat.reduceSub,Nat.reduceBEq,Nat.reduceLeDiff,xw0,eApp,rowOf,appRow,lkL,lkN,eMupd,vLook,mapSh,findE,putE,keqL,hasSh,fits,shb,Int.reduceBEq,eMksl,vSlc,boundsOf,boundOf,cleanL,Nat.reduceGT,Int.reduceGT,Int.reduceGE,Int.reduceDiv,Int.reduceTDiv,vAidx,rdc,jA,Nat.add_assoc] at h
  refine h _ _ ?_
  clear h
  rw [wl_1 (by omega)]
  simp -implicitDefEqProofs only [q16.n7_w,sw0,sw1,sw2,sw3,sw4,sw5,reduceCtorEq,Nat.reduceEqDiff,Nat.reduceAdd,Nat.reduceDiv,Nat.reduceLeDiff,dw0,Int.reduceAdd,Int.reduceSub,Int.reduceMul,Int.reduceLT,Int.reduceLE,Int.reduceNeg,Int.reduceEq,Int.reduceToNat,Nat.reduceLT,Nat.reduceMul,Nat.reduceSub,Nat.reduceBEq,Nat.reduceLeDiff,xw0,eApp,rowOf,appRow,lkL,lkN,eMupd,vLook,mapSh,findE,putE,keqL,hasSh,fits,shb,Int.reduceBEq,eMksl,vSlc,boundsOf,boundOf,cleanL,Nat.reduceGT,Int.reduceGT,Int.reduceGE,Int.reduceDiv,Int.reduceTDiv,vAidx,rdc,q16.n10_w,Plan_u11]
  rw [wl_1 (by omega)]
  simp -implicitDefEqProofs only [q16.n12_w,sw0,sw1,sw2,sw3,sw4,sw5,reduceCtorEq,Nat.reduceEqDiff,Nat.reduceAdd,Nat.reduceDiv,Nat.reduceLeDiff,dw0,Int.reduceAdd,Int.reduceSub,Int.reduceMul,Int.reduceLT,Int.reduceLE,Int.reduceNeg,Int.reduceEq,Int.reduceToNat,Nat.reduceLT,Nat.reduceMul,Nat.reduceSub,Nat.reduceBEq,Nat.reduceLeDiff,xw0,eApp,rowOf,appRow,lkL,lkN,eMupd,vLook,mapSh,findE,putE,keqL,hasSh,fits,shb,Int.reduceBEq,eMksl,vSlc,boundsOf,boundOf,cleanL,Nat.reduceGT,Int.reduceGT,Int.reduceGE,Int.reduceDiv,Int.reduceTDiv,vAidx,rdc,q16.n14_w]
  have h:=fun (K:AV→St→Prop) X (hK)=>take2 (k:=k - 1) (b:=none) (K:=K) (n:=2) (m:=0) (f:=.fn F_q17 [.ptr H.length 0 1]) hk2 (H:=H ++ [.cells [vA],.cells [iv 1],.cells [.slice true 0 []],.cells [iv 0],.cells [iv 0,iv 0,iv 0],.cells [.sref (H.length + 4) 0 3 3 1]]) (L:=[.map shI 3 [(iv 0,.sref (H.length + 10) 0 2 2 1),(iv 1,.sref (H.length + 13) 0 1 1 1)],.cells [.map (H.length + 7)],x1,.cells [iv 0,iv 1],x2,x3,.cells [iv 2],X]) hK
  rw [show k - 1 + 1=k by omega] at h
  simp -implicitDefEqProofs only [sw0,sw1,sw2,sw3,sw4,sw5,reduceCtorEq,Nat.reduceEqDiff,Nat.reduceAdd,Nat.reduceDiv,Nat.reduceLeDiff,dw0,Int.reduceAdd,Int.reduceSub,Int.reduceMul,Int.reduceLT,Int.reduceLE,Int.reduceNeg,Int.reduceEq,Int.reduceToNat,Nat.reduceLT,Nat.reduceMul,Nat.reduceSub,Nat.reduceBEq,Nat.reduceLeDiff,xw0,eApp,rowOf,appRow,lkL,lkN,eMupd,vLook,mapSh,findE,putE,keqL,hasSh,fits,shb,Int.reduceBEq,eMksl,vSlc,boundsOf,boundOf,cleanL,Nat.reduceGT,Int.reduceGT,Int.reduceGE,Int.reduceDiv,Int.reduceTDiv,vAidx,rdc,Nat.add_assoc] at h
  refine h _ _ ?_
  clear h
  simp -implicitDefEqProofs only [sw0,sw1,sw2,sw3,sw4,sw5,reduceCtorEq,Nat.reduceEqDiff,Nat.reduceAdd,Nat.reduceDiv,Nat.reduceLeDiff,dw0,Int.reduceAdd,Int.reduceSub,Int.reduceMul,Int.reduceLT,Int.reduceLE,Int.reduceNeg,Int.reduceEq,Int.reduceToNat,Nat.reduceLT,Nat.reduceMul,Nat.reduceSub,Nat.reduceBEq,Nat.reduceLeDiff,xw0,eApp,rowOf,appRow,lkL,lkN,eMupd,vLook,mapSh,findE,putE,keqL,hasSh,fits,shb,Int.reduceBEq,eMksl,vSlc,boundsOf,boundOf,cleanL,Nat.reduceGT,Int.reduceGT,Int.reduceGE,Int.reduceDiv,Int.reduceTDiv,vAidx,rdc,q16.n16_w,q16.n17_w]
  rw [wl_1 (by omega)]
  simp -implicitDefEqProofs only [q16.n12_w,sw0,sw1,sw2,sw3,sw4,sw5,reduceCtorEq,Nat.reduceEqDiff,Nat.reduceAdd,Nat.reduceDiv,Nat.reduceLeDiff,dw0,Int.reduceAdd,Int.reduceSub,Int.reduceMul,Int.reduceLT,Int.reduceLE,Int.reduceNeg,Int.reduceEq,Int.reduceToNat,Nat.reduceLT,Nat.reduceMul,Nat.reduceSub,Nat.reduceBEq,Nat.reduceLeDiff,xw0,eApp,rowOf,appRow,lkL,lkN,eMupd,vLook,mapSh,findE,putE,keqL,hasSh,fits,shb,Int.reduceBEq,eMksl,vSlc,boundsOf,boundOf,cleanL,Nat.reduceGT,Int.reduceGT,Int.reduceGE,Int.reduceDiv,Int.reduceTDiv,vAidx,rdc,YK]
  exact hK
theorem yA2 (hk:1000≤k) {r0 r1 r6 r9 r10 r11 r12 r13 r14 r15 r16 r17 r18 r19 r20 r21 r22 r23 r24 r25 r26 r27 r28 r29 r30 r31 r32 r33 r34 r35 r36 r37 r38 r39 r40 r41 r42 r43 r44 r45 r46 r47 r48 r49 r50 r51 r52 r53 r54 r55 r56 r57 r58 r59 r60 r61 r62 r63 r64 r65 r66:AV} {x1 x2 x3:AObj} (hK:K (.bool true) ⟨H ++ [.cells [vA],.cells [iv 1],.cells [.slice true 0 []],.cells [iv 0],.cells [iv 2,iv 0,iv 1],.cells [.sref (H.length + 4) 0 3 3 1],.cells [.slice false 1 [],.fn F_q17 [.ptr H.length 0 1]],.map shI 3 [(iv 0,.sref (H.length + 10) 0 2 2 1),(iv 1,.sref (H.length + 13) 0 1 1 1)],.cells [.map (H.length + 7)],x1,.cells [iv 0,iv 1],x2,x3,.cells [iv 2],.loop [r0,r1,.ptr H.length 0 1,.ptr (H.length + 1) 0 1,.ptr (H.length + 2) 0 1,.ptr (H.length + 3) 0 1,r6,.ptr (H.length + 5) 0 1,.ptr (H.length + 6) 0 2,r9,r10,r11,r12,r13,r14,r15,r16,r17,r18,r19,r20,r21,r22,r23,r24,r25,r26,r27,r28,r29,r30,r31,r32,r33,r34,r35,r36,r37,r38,r39,r40,r41,r42,r43,r44,r45,r46,r47,r48,r49,r50,r51,r52,r53,r54,r55,r56,r57,r58,r59,r60,r61,r62,r63,r64,r65,r66] [28,29] q16.n4 q16.n5 true none,.cells [iv 0,iv 0]],true⟩):YC ⟨prog,k + 1,b⟩ (H.length + 14) [iv 2,.slice true 0 []] ⟨H ++ [.cells [vA],.cells [iv 1],.cells [.slice true 0 []],.cells [iv 0],.cells [iv 0,iv 0,iv 1],.cells [.sref (H.length + 4) 0 3 3 1],.cells [.sref (H.length + 15) 0 1 2 1,.fn F_q17 [.ptr H.length 0 1]],.map shI 3 [(iv 0,.sref (H.length + 10) 0 2 2 1),(iv 1,.sref (H.length + 13) 0 1 1 1)],.cells [.map (H.length + 7)],x1,.cells [iv 0,iv 1],x2,x3,.cells [iv 2],.loop [r0,r1,.ptr H.length 0 1,.ptr (H.length + 1) 0 1,.ptr (H.length + 2) 0 1,.ptr (H.length + 3) 0 1,r6,.ptr (H.length + 5) 0 1,.ptr (H.length + 6) 0 2,r9,r10,r11,r12,r13,r14,r15,r16,r17,r18,r19,r20,r21,r22,r23,r24,r25,r26,r27,r28,r29,r30,r31,r32,r33,r34,r35,r36,r37,r38,r39,r40,r41,r42,r43,r44,r45,r46,r47,r48,r49,r50,r51,r52,r53,r54,r55,r56,r57,r58,r59,r60,r61,r62,r63,r64,r65,r66] [28,29] q16.n4 q16.n5 true none,.cells [iv 0,iv 0]],true⟩ K:=by
  have hk1:100≤k:=by omega
  have hk2:100≤k - 1:=by omega
  refine YC_go (by simp -implicitDefEqProofs only [sw0,sw1,sw2,sw3,sw4,sw5,reduceCtorEq,Nat.reduceEqDiff,Nat.reduceAdd,Nat.reduceDiv,Nat.reduceLeDiff,dw0,Int.reduceAdd,Int.reduceSub,Int.reduceMul,Int.reduceLT,Int.reduceLE,Int.reduceNeg,Int.reduceEq,Int.reduceToNat,Nat.reduceLT,Nat.reduceMul,Nat.reduceSub,Nat.reduceBEq,Nat.reduceLeDiff,xw0,eApp,rowOf,appRow,lkL,lkN,eMupd,vLook,mapSh,findE,putE,keqL,hasSh,fits,shb,Int.reduceBEq,eMksl,vSlc,boundsOf,boundOf,cleanL,Nat.reduceGT,Int.reduceGT,Int.reduceGE,Int.reduceDiv,Int.reduceTDiv,vAidx,rdc]; rfl) rfl ?_
  simp -implicitDefEqProofs only [sw0,sw1,sw2,sw3,sw4,sw5,reduceCtorEq,Nat.reduceEqDiff,Nat.reduceAdd,Nat.reduceDiv,Nat.reduceLeDiff,dw0,Int.reduceAdd,Int.reduceSub,Int.reduceMul,Int.reduceLT,Int.reduceLE,Int.reduceNeg,Int.reduceEq,Int.reduceToNat,Nat.reduceLT,Nat.reduceMul,Nat.reduceSub,Nat.reduceBEq,Nat.reduceLeDiff,xw0,eApp,rowOf,appRow,lkL,lkN,eMupd,vLook,mapSh,findE,putE,keqL,hasSh,fits,shb,Int.reduceBEq,eMksl,vSlc,boundsOf,boundOf,cleanL,Nat.reduceGT,Int.reduceGT,Int.reduceGE,Int.reduceDiv,Int.reduceTDiv,vAidx,rdc,q16.n4_w,q16.n5_w,YK,Plan_u6]
  refine ⟨⟨_,_,_,_,rfl⟩,?_⟩
  rw [wl_1 (by omega)]
  simp -implicitDefEqProofs only [q16.n7_w,sw0,sw1,sw2,sw3,sw4,sw5,reduceCtorEq,Nat.reduceEqDiff,Nat.reduceAdd,Nat.reduceDiv,Nat.reduceLeDiff,dw0,Int.reduceAdd,Int.reduceSub,Int.reduceMul,Int.reduceLT,Int.reduceLE,Int.reduceNeg,Int.reduceEq,Int.reduceToNat,Nat.reduceLT,Nat.reduceMul,Nat.reduceSub,Nat.reduceBEq,Nat.reduceLeDiff,xw0,eApp,rowOf,appRow,lkL,lkN,eMupd,vLook,mapSh,findE,putE,keqL,hasSh,fits,shb,Int.reduceBEq,eMksl,vSlc,boundsOf,boundOf,cleanL,Nat.reduceGT,Int.reduceGT,Int.reduceGE,Int.reduceDiv,Int.reduceTDiv,vAidx,rdc,q16.n10_w,Plan_u11]
  rw [wl_1 (by omega)]
  simp -implicitDefEqProofs only [q16.n12_w,sw0,sw1,sw2,sw3,sw4,sw5,reduceCtorEq,Nat.reduceEqDiff,Nat.reduceAdd,Nat.reduceDiv,Nat.reduceLeDiff,dw0,Int.reduceAdd,Int.reduceSub,Int.reduceMul,Int.reduceLT,Int.reduceLE,Int.reduceNeg,Int.reduceEq,Int.reduceToNat,Nat.reduceLT,Nat.reduceMul,Nat.reduceSub,Nat.reduceBEq,Nat.reduceLeDiff,xw0,eApp,rowOf,appRow,lkL,lkN,eMupd,vLook,mapSh,findE,putE,keqL,hasSh,fits,shb,Int.reduceBEq,eMksl,vSlc,boundsOf,boundOf,cleanL,Nat.reduceGT,Int.reduceGT,Int.reduceGE,Int.reduceDiv,Int.reduceTDiv,vAidx,rdc,q16.n14_w]
  have h:=fun (K:AV→St→Prop) X (hK)=>take1 (k:=k - 1) (b:=none) (K:=K) (ver:=2) (R:=[iv 0]) (n:=0) (f:=.fn F_q17 [.ptr H.length 0 1]) hk2 rfl (H:=H ++ [.cells [vA],.cells [iv 1],.cells [.slice true 0 []],.cells [iv 0],.cells [iv 0,iv 0,iv 1],.cells [.sref (H.length + 4) 0 3 3 1]]) (L:=[.map shI 3 [(iv 0,.sref (H.length + 10) 0 2 2 1),(iv 1,.sref (H.length + 13) 0 1 1 1)],.cells [.map (H.length + 7)],x1,.cells [iv 0,iv 1],x2,x3,.cells [iv 2],X]) hK
  rw [show k - 1 + 1=k by omega] at h
  simp -implicitDefEqProofs only [sw0,sw1,sw2,sw3,sw4,sw5,reduceCtorEq,Nat.reduceEqDiff,Nat.reduceAdd,Nat.reduceDiv,Nat.reduceLeDiff,dw0,Int.reduceAdd,Int.reduceSub,Int.reduceMul,Int.reduceLT,Int.reduceLE,Int.reduceNeg,Int.reduceEq,Int.reduceToNat,Nat.reduceLT,Nat.reduceMul,Nat.reduceSub,Nat.reduceBEq,Nat.reduceLeDiff,xw0,eApp,rowOf,appRow,lkL,lkN,eMupd,vLook,mapSh,findE,putE,keqL,hasSh,fits,shb,Int.reduceBEq,eMksl,vSlc,boundsOf,boundOf,cleanL,Nat.reduceGT,Int.reduceGT,Int.reduceGE,Int.reduceDiv,Int.reduceTDiv,vAidx,rdc,Nat.add_assoc] at h
  refine h _ _ ?_
  clear h
  simp -implicitDefEqProofs only [sw0,sw1,sw2,sw3,sw4,sw5,reduceCtorEq,Nat.reduceEqDiff,Nat.reduceAdd,Nat.reduceDiv,Nat.reduceLeDiff,dw0,Int.reduceAdd,Int.reduceSub,Int.reduceMul,Int.reduceLT,Int.reduceLE,Int.reduceNeg,Int.reduceEq,Int.reduceToNat,Nat.reduceLT,Nat.reduceMul,Nat.reduceSub,Nat.reduceBEq,Nat.reduceLeDiff,xw0,eApp,rowOf,appRow,lkL,lkN,eMupd,vLook,mapSh,findE,putE,keqL,hasSh,fits,shb,Int.reduceBEq,eMksl,vSlc,boundsOf,boundOf,cleanL,Nat.reduceGT,Int.reduceGT,Int.reduceGE,Int.reduceDiv,Int.reduceTDiv,vAidx,rdc,q16.n16_w,q16.n17_w]
  rw [wl_1 (by omega)]
  simp -implicitDefEqProofs only [q16.n12_w,sw0,sw1,sw2,sw3,sw4,sw5,reduceCtorEq,Nat.reduceEqDiff,Nat.reduceAdd,Nat.reduceDiv,Nat.reduceLeDiff,dw0,Int.reduceAdd,Int.reduceSub,Int.reduceMul,Int.reduceLT,Int.reduceLE,Int.reduceNeg,Int.reduceEq,Int.reduceToNat,Nat.reduceLT,Nat.reduceMul,Nat.reduceSub,Nat.reduceBEq,Nat.reduceLeDiff,xw0,eApp,rowOf,appRow,lkL,lkN,eMupd,vLook,mapSh,findE,putE,keqL,hasSh,fits,shb,Int.reduceBEq,eMksl,vSlc,boundsOf,boundOf,cleanL,Nat.reduceGT,Int.reduceGT,Int.reduceGE,Int.reduceDiv,Int.reduceTDiv,vAidx,rdc,YK]
  exact hK
theorem yA3 (hk:1000≤k) {r0 r1 r6 r9 r10 r11 r12 r13 r14 r15 r16 r17 r18 r19 r20 r21 r22 r23 r24 r25 r26 r27 r28 r29 r30 r31 r32 r33 r34 r35 r36 r37 r38 r39 r40 r41 r42 r43 r44 r45 r46 r47 r48 r49 r50 r51 r52 r53 r54 r55 r56 r57 r58 r59 r60 r61 r62 r63 r64 r65 r66:AV} {x1 x2 x3:AObj} {t:Nat} (hK:K (.bool true) ⟨H ++ [.cells [vA],.cells [iv 1],.cells [.slice true 0 []],.cells [iv 0],.cells [iv 2,iv 0,iv 1],.cells [.sref (H.length + 4) 0 3 3 1],.cells [.slice false 1 [],.fn F_q17 [.ptr H.length 0 1]],.map shI 3 [(iv 0,.sref (H.length + 10) 0 2 2 1),(iv 1,.sref (H.length + 13) 0 1 1 1)],.cells [.map (H.length + 7)],x1,.cells [iv 0,iv 1],x2,x3,.cells [iv 2],.loop [r0,r1,.ptr H.length 0 1,.ptr (H.length + 1) 0 1,.ptr (H.length + 2) 0 1,.ptr (H.length + 3) 0 1,r6,.ptr (H.length + 5) 0 1,.ptr (H.length + 6) 0 2,r9,r10,r11,r12,r13,r14,r15,r16,r17,r18,r19,r20,r21,r22,r23,r24,r25,r26,r27,r28,r29,r30,r31,r32,r33,r34,r35,r36,r37,r38,r39,r40,r41,r42,r43,r44,r45,r46,r47,r48,r49,r50,r51,r52,r53,r54,r55,r56,r57,r58,r59,r60,r61,r62,r63,r64,r65,r66] [28,29] q16.n4 q16.n5 true none,.cells [iv 0,iv 0]],true⟩):YC ⟨prog,k + 1,b⟩ (H.length + 14) [iv t,.slice true 0 []] ⟨H ++ [.cells [vA],.cells [iv 1],.cells [.slice true 0 []],.cells [iv 0],.cells [iv 2,iv 0,iv 1],.cells [.sref (H.length + 4) 0 3 3 1],.cells [.slice false 1 [],.fn F_q17 [.ptr H.length 0 1]],.map shI 3 [(iv 0,.sref (H.length + 10) 0 2 2 1),(iv 1,.sref (H.length + 13) 0 1 1 1)],.cells [.map (H.length + 7)],x1,.cells [iv 0,iv 1],x2,x3,.cells [iv 2],.loop [r0,r1,.ptr H.length 0 1,.ptr (H.length + 1) 0 1,.ptr (H.length + 2) 0 1,.ptr (H.length + 3) 0 1,r6,.ptr (H.length + 5) 0 1,.ptr (H.length + 6) 0 2,r9,r10,r11,r12,r13,r14,r15,r16,r17,r18,r19,r20,r21,r22,r23,r24,r25,r26,r27,r28,r29,r30,r31,r32,r33,r34,r35,r36,r37,r38,r39,r40,r41,r42,r43,r44,r45,r46,r47,r48,r49,r50,r51,r52,r53,r54,r55,r56,r57,r58,r59,r60,r61,r62,r63,r64,r65,r66] [28,29] q16.n4 q16.n5 true none,.cells [iv 0,iv 0]],true⟩ K:=by
  have hk1:100≤k:=by omega
  have hk2:100≤k - 1:=by omega
  refine YC_go (by simp -implicitDefEqProofs only [sw0,sw1,sw2,sw3,sw4,sw5,reduceCtorEq,Nat.reduceEqDiff,Nat.reduceAdd,Nat.reduceDiv,Nat.reduceLeDiff,dw0,Int.reduceAdd,Int.reduceSub,Int.reduceMul,Int.reduceLT,Int.reduceLE,Int.reduceNeg,Int.reduceEq,Int.reduceToNat,Nat.reduceLT,Nat.reduceMul,Nat.reduceSub,Nat.reduceBEq,Nat.reduceLeDiff,xw0,eApp,rowOf,appRow,lkL,lkN,eMupd,vLook,mapSh,findE,putE,keqL,hasSh,fits,shb,Int.reduceBEq,eMksl,vSlc,boundsOf,boundOf,cleanL,Nat.reduceGT,Int.reduceGT,Int.reduceGE,Int.reduceDiv,Int.reduceTDiv,vAidx,rdc]; rfl) rfl ?_
  simp -implicitDefEqProofs only [sw0,sw1,sw2,sw3,sw4,sw5,reduceCtorEq,Nat.reduceEqDiff,Nat.reduceAdd,Nat.reduceDiv,Nat.reduceLeDiff,dw0,Int.reduceAdd,Int.reduceSub,Int.reduceMul,Int.reduceLT,Int.reduceLE,Int.reduceNeg,Int.reduceEq,Int.reduceToNat,Nat.reduceLT,Nat.reduceMul,Nat.reduceSub,Nat.reduceBEq,Nat.reduceLeDiff,xw0,eApp,rowOf,appRow,lkL,lkN,eMupd,vLook,mapSh,findE,putE,keqL,hasSh,fits,shb,Int.reduceBEq,eMksl,vSlc,boundsOf,boundOf,cleanL,Nat.reduceGT,Int.reduceGT,Int.reduceGE,Int.reduceDiv,Int.reduceTDiv,vAidx,rdc,q16.n4_w,q16.n5_w,YK,Plan_u6]
  refine ⟨⟨_,_,_,_,rfl⟩,?_⟩
  rw [wl_1 (by omega)]
  simp -implicitDefEqProofs only [q16.n7_w,sw0,sw1,sw2,sw3,sw4,sw5,reduceCtorEq,Nat.reduceEqDiff,Nat.reduceAdd,Nat.reduceDiv,Nat.reduceLeDiff,dw0,Int.reduceAdd,Int.reduceSub,Int.reduceMul,Int.reduceLT,Int.reduceLE,Int.reduceNeg,Int.reduceEq,Int.reduceToNat,Nat.reduceLT,Nat.reduceMul,Nat.reduceSub,Nat.reduceBEq,Nat.reduceLeDiff,xw0,eApp,rowOf,appRow,lkL,lkN,eMupd,vLook,mapSh,findE,putE,keqL,hasSh,fits,shb,Int.reduceBEq,eMksl,vSlc,boundsOf,boundOf,cleanL,Nat.reduceGT,Int.reduceGT,Int.reduceGE,Int.reduceDiv,Int.reduceTDiv,vAidx,rdc,q16.n10_w,Plan_u11]
  rw [wl_1 (by omega)]
  simp -implicitDefEqProofs only [q16.n12_w,sw0,sw1,sw2,sw3,sw4,sw5,reduceCtorEq,Nat.reduceEqDiff,Nat.reduceAdd,Nat.reduceDiv,Nat.reduceLeDiff,dw0,Int.reduceAdd,Int.reduceSub,Int.reduceMul,Int.reduceLT,Int.reduceLE,Int.reduceNeg,Int.reduceEq,Int.reduceToNat,Nat.reduceLT,Nat.reduceMul,Nat.reduceSub,Nat.reduceBEq,Nat.reduceLeDiff,xw0,eApp,rowOf,appRow,lkL,lkN,eMupd,vLook,mapSh,findE,putE,keqL,hasSh,fits,shb,Int.reduceBEq,eMksl,vSlc,boundsOf,boundOf,cleanL,Nat.reduceGT,Int.reduceGT,Int.reduceGE,Int.reduceDiv,Int.reduceTDiv,vAidx,rdc,YK]
  exact hK
theorem runA (hk:1000≤k) {r0 r1 r6 r9 r10 r11 r12 r13 r14 r15 r16 r17 r18 r19 r20 r21 r22 r23 r24 r25 r26 r27 r28 r29 r30 r31 r32 r33 r34 r35 r36 r37 r38 r39 r40 r41 r42 r43 r44 r45 r46 r47 r48 r49 r50 r51 r52 r53 r54 r55 r56 r57 r58 r59 r60 r61 r62 r63 r64 r65 r66:AV} {x1 x2 x3:AObj} (hK:K (.tup []) ⟨H ++ [.cells [vA],.cells [iv 1],.cells [.slice true 0 []],.cells [iv 0],.cells [iv 2,iv 0,iv 1],.cells [.sref (H.length + 4) 0 3 3 1],.cells [.slice false 1 [],.fn F_q17 [.ptr H.length 0 1]],.map shI 3 [(iv 0,.sref (H.length + 10) 0 2 2 1),(iv 1,.sref (H.length + 13) 0 1 1 1)],.cells [.map (H.length + 7)],x1,.cells [iv 0,iv 1],x2,x3,.cells [iv 2],.loop [r0,r1,.ptr H.length 0 1,.ptr (H.length + 1) 0 1,.ptr (H.length + 2) 0 1,.ptr (H.length + 3) 0 1,r6,.ptr (H.length + 5) 0 1,.ptr (H.length + 6) 0 2,r9,r10,r11,r12,r13,r14,r15,r16,r17,r18,r19,r20,r21,r22,r23,r24,r25,r26,r27,r28,r29,r30,r31,r32,r33,r34,r35,r36,r37,r38,r39,r40,r41,r42,r43,r44,r45,r46,r47,r48,r49,r50,r51,r52,r53,r54,r55,r56,r57,r58,r59,r60,r61,r62,r63,r64,r65,r66] [28,29] q16.n4 q16.n5 true none,.cells [iv 0,iv 0]],true⟩):VC ⟨prog,k + 2,b⟩ F_q41 [.yield (H.length + 14),.ptr (H.length + 8) 0 1] ⟨H ++ [.cells [vA],.cells [iv 1],.cells [.slice true 0 []],.cells [iv 0],.cells [iv 0,iv 0,iv 0],.cells [.sref (H.length + 4) 0 3 3 1],.cells [.slice true 0 [],.fn F_q17 [.ptr H.length 0 1]],.map shI 3 [(iv 0,.sref (H.length + 10) 0 2 2 1),(iv 1,.sref (H.length + 13) 0 1 1 1)],.cells [.map (H.length + 7)],x1,.cells [iv 0,iv 1],x2,x3,.cells [iv 2],.loop [r0,r1,.ptr H.length 0 1,.ptr (H.length + 1) 0 1,.ptr (H.length + 2) 0 1,.ptr (H.length + 3) 0 1,r6,.ptr (H.length + 5) 0 1,.ptr (H.length + 6) 0 2,r9,r10,r11,r12,r13,r14,r15,r16,r17,r18,r19,r20,r21,r22,r23,r24,r25,r26,r27,r28,r29,r30,r31,r32,r33,r34,r35,r36,r37,r38,r39,r40,r41,r42,r43,r44,r45,r46,r47,r48,r49,r50,r51,r52,r53,r54,r55,r56,r57,r58,r59,r60,r61,r62,r63,r64,r65,r66] [28,29] q16.n4 q16.n5 true none],lk⟩ K:=by
  refine slots_1_s (k:=k + 1) (J:=fun t s=>(t=0∧∃ lk,s=⟨H ++ [.cells [vA],.cells [iv 1],.cells [.slice true 0 []],.cells [iv 0],.cells [iv 0,iv 0,iv 0],.cells [.sref (H.length + 4) 0 3 3 1],.cells [.slice true 0 [],.fn F_q17 [.ptr H.length 0 1]],.map shI 3 [(iv 0,.sref (H.length + 10) 0 2 2 1),(iv 1,.sref (H.length + 13) 0 1 1 1)],.cells [.map (H.length + 7)],x1,.cells [iv 0,iv 1],x2,x3,.cells [iv 2],.loop [r0,r1,.ptr H.length 0 1,.ptr (H.length + 1) 0 1,.ptr (H.length + 2) 0 1,.ptr (H.length + 3) 0 1,r6,.ptr (H.length + 5) 0 1,.ptr (H.length + 6) 0 2,r9,r10,r11,r12,r13,r14,r15,r16,r17,r18,r19,r20,r21,r22,r23,r24,r25,r26,r27,r28,r29,r30,r31,r32,r33,r34,r35,r36,r37,r38,r39,r40,r41,r42,r43,r44,r45,r46,r47,r48,r49,r50,r51,r52,r53,r54,r55,r56,r57,r58,r59,r60,r61,r62,r63,r64,r65,r66] [28,29] q16.n4 q16.n5 true none],lk⟩)∨(t=1∧s=⟨H ++ [.cells [vA],.cells [iv 1],.cells [.slice true 0 []],.cells [iv 0],.cells [iv 0,iv 0,iv 0],.cells [.sref (H.length + 4) 0 3 3 1],.cells [.sref (H.length + 15) 0 1 2 1,.fn F_q17 [.ptr H.length 0 1]],.map shI 3 [(iv 0,.sref (H.length + 10) 0 2 2 1),(iv 1,.sref (H.length + 13) 0 1 1 1)],.cells [.map (H.length + 7)],x1,.cells [iv 0,iv 1],x2,x3,.cells [iv 2],.loop [r0,r1,.ptr H.length 0 1,.ptr (H.length + 1) 0 1,.ptr (H.length + 2) 0 1,.ptr (H.length + 3) 0 1,r6,.ptr (H.length + 5) 0 1,.ptr (H.length + 6) 0 2,r9,r10,r11,r12,r13,r14,r15,r16,r17,r18,r19,r20,r21,r22,r23,r24,r25,r26,r27,r28,r29,r30,r31,r32,r33,r34,r35,r36,r37,r38,r39,r40,r41,r42,r43,r44,r45,r46,r47,r48,r49,r50,r51,r52,r53,r54,r55,r56,r57,r58,r59,r60,r61,r62,r63,r64,r65,r66] [28,29] q16.n4 q16.n5 true none,.cells [iv 0,iv 0]],true⟩)∨(t=2∧s=⟨H ++ [.cells [vA],.cells [iv 1],.cells [.slice true 0 []],.cells [iv 0],.cells [iv 0,iv 0,iv 1],.cells [.sref (H.length + 4) 0 3 3 1],.cells [.sref (H.length + 15) 0 1 2 1,.fn F_q17 [.ptr H.length 0 1]],.map shI 3 [(iv 0,.sref (H.length + 10) 0 2 2 1),(iv 1,.sref (H.length + 13) 0 1 1 1)],.cells [.map (H.length + 7)],x1,.cells [iv 0,iv 1],x2,x3,.cells [iv 2],.loop [r0,r1,.ptr H.length 0 1,.ptr (H.length + 1) 0 1,.ptr (H.length + 2) 0 1,.ptr (H.length + 3) 0 1,r6,.ptr (H.length + 5) 0 1,.ptr (H.length + 6) 0 2,r9,r10,r11,r12,r13,r14,r15,r16,r17,r18,r19,r20,r21,r22,r23,r24,r25,r26,r27,r28,r29,r30,r31,r32,r33,r34,r35,r36,r37,r38,r39,r40,r41,r42,r43,r44,r45,r46,r47,r48,r49,r50,r51,r52,r53,r54,r55,r56,r57,r58,r59,r60,r61,r62,r63,r64,r65,r66] [28,29] q16.n4 q16.n5 true none,.cells [iv 0,iv 0]],true⟩)∨(3≤t∧s=⟨H ++ [.cells [vA],.cells [iv 1],.cells [.slice true 0 []],.cells [iv 0],.cells [iv 2,iv 0,iv 1],.cells [.sref (H.length + 4) 0 3 3 1],.cells [.slice false 1 [],.fn F_q17 [.ptr H.length 0 1]],.map shI 3 [(iv 0,.sref (H.length + 10) 0 2 2 1),(iv 1,.sref (H.length + 13) 0 1 1 1)],.cells [.map (H.length + 7)],x1,.cells [iv 0,iv 1],x2,x3,.cells [iv 2],.loop [r0,r1,.ptr H.length 0 1,.ptr (H.length + 1) 0 1,.ptr (H.length + 2) 0 1,.ptr (H.length + 3) 0 1,r6,.ptr (H.length + 5) 0 1,.ptr (H.length + 6) 0 2,r9,r10,r11,r12,r13,r14,r15,r16,r17,r18,r19,r20,r21,r22,r23,r24,r25,r26,r27,r28,r29,r30,r31,r32,r33,r34,r35,r36,r37,r38,r39,r40,r41,r42,r43,r44,r45,r46,r47,r48,r49,r50,r51,r52,r53,r54,r55,r56,r57,r58,r59,r60,r61,r62,r63,r64,r65,r66] [28,29] q16.n4 q16.n5 true none,.cells [iv 0,iv 0]],true⟩)) (R:=fun s=>s=⟨H ++ [.cells [vA],.cells [iv 1],.cells [.slice true 0 []],.cells [iv 0],.cells [iv 2,iv 0,iv 1],.cells [.sref (H.length + 4) 0 3 3 1],.cells [.slice false 1 [],.fn F_q17 [.ptr H.length 0 1]],.map shI 3 [(iv 0,.sref (H.length + 10) 0 2 2 1),(iv 1,.sref (H.length + 13) 0 1 1 1)],.cells [.map (H.length + 7)],x1,.cells [iv 0,iv 1],x2,x3,.cells [iv 2],.loop [r0,r1,.ptr H.length 0 1,.ptr (H.length + 1) 0 1,.ptr (H.length + 2) 0 1,.ptr (H.length + 3) 0 1,r6,.ptr (H.length + 5) 0 1,.ptr (H.length + 6) 0 2,r9,r10,r11,r12,r13,r14,r15,r16,r17,r18,r19,r20,r21,r22,r23,r24,r25,r26,r27,r28,r29,r30,r31,r32,r33,r34,r35,r36,r37,r38,r39,r40,r41,r42,r43,r44,r45,r46,r47,r48,r49,r50,r51,r52,r53,r54,r55,r56,r57,r58,r59,r60,r61,r62,r63,r64,r65,r66] [28,29] q16.n4 q16.n5 true none,.cells [iv 0,iv 0]],true⟩) (by omega) ?_ (.inl ⟨rfl,_,rfl⟩) (fun s h=>by rcases h with ⟨h,_⟩ | ⟨h,_⟩ | ⟨h,_⟩ | ⟨_,h⟩ <;> first | omega | exact h) (fun s h=>by subst h; exact ⟨rfl,hK⟩)
  rintro t s ht (⟨rfl,lk',rfl⟩ | ⟨rfl,rfl⟩ | ⟨rfl,rfl⟩ | ⟨h3,rfl⟩)
  · refine ⟨.map (H.length + 7),.sref (H.length + 10) 0 2 2 1,by simp -implicitDefEqProofs only [sw0,sw1,sw2,sw3,sw4,sw5,reduceCtorEq,Nat.reduceEqDiff,Nat.reduceAdd,Nat.reduceDiv,Nat.reduceLeDiff,dw0,Int.reduceAdd,Int.reduceSub,Int.reduceMul,Int.reduceLT,Int.reduceLE,Int.reduceNeg,Int.reduceEq,Int.reduceToNat,Nat.reduceLT,Nat.reduceMul,Nat.reduceSub,Nat.reduceBEq,Nat.reduceLeDiff,xw0,eApp,rowOf,appRow,lkL,lkN,eMupd,vLook,mapSh,findE,putE,keqL,hasSh,fits,shb,Int.reduceBEq,eMksl,vSlc,boundsOf,boundOf,cleanL,Nat.reduceGT,Int.reduceGT,Int.reduceGE,Int.reduceDiv,Int.reduceTDiv,vAidx,rdc],by simp -implicitDefEqProofs only [sw0,sw1,sw2,sw3,sw4,sw5,reduceCtorEq,Nat.reduceEqDiff,Nat.reduceAdd,Nat.reduceDiv,Nat.reduceLeDiff,dw0,Int.reduceAdd,Int.reduceSub,Int.reduceMul,Int.reduceLT,Int.reduceLE,Int.reduceNeg,Int.reduceEq,Int.reduceToNat,Nat.reduceLT,Nat.reduceMul,Nat.reduceSub,Nat.reduceBEq,Nat.reduceLeDiff,xw0,eApp,rowOf,appRow,lkL,lkN,eMupd,vLook,mapSh,findE,putE,keqL,hasSh,fits,shb,Int.reduceBEq,eMksl,vSlc,boundsOf,boundOf,cleanL,Nat.reduceGT,Int.reduceGT,Int.reduceGE,Int.reduceDiv,Int.reduceTDiv,vAidx,rdc],fun b=>yA0 hk ?_⟩
    exact .inl ⟨rfl,.inr (.inl ⟨rfl,rfl⟩)⟩
  · refine ⟨.map (H.length + 7),.sref (H.length + 13) 0 1 1 1,by simp -implicitDefEqProofs only [sw0,sw1,sw2,sw3,sw4,sw5,reduceCtorEq,Nat.reduceEqDiff,Nat.reduceAdd,Nat.reduceDiv,Nat.reduceLeDiff,dw0,Int.reduceAdd,Int.reduceSub,Int.reduceMul,Int.reduceLT,Int.reduceLE,Int.reduceNeg,Int.reduceEq,Int.reduceToNat,Nat.reduceLT,Nat.reduceMul,Nat.reduceSub,Nat.reduceBEq,Nat.reduceLeDiff,xw0,eApp,rowOf,appRow,lkL,lkN,eMupd,vLook,mapSh,findE,putE,keqL,hasSh,fits,shb,Int.reduceBEq,eMksl,vSlc,boundsOf,boundOf,cleanL,Nat.reduceGT,Int.reduceGT,Int.reduceGE,Int.reduceDiv,Int.reduceTDiv,vAidx,rdc],by simp -implicitDefEqProofs only [sw0,sw1,sw2,sw3,sw4,sw5,reduceCtorEq,Nat.reduceEqDiff,Nat.reduceAdd,Nat.reduceDiv,Nat.reduceLeDiff,dw0,Int.reduceAdd,Int.reduceSub,Int.reduceMul,Int.reduceLT,Int.reduceLE,Int.reduceNeg,Int.reduceEq,Int.reduceToNat,Nat.reduceLT,Nat.reduceMul,Nat.reduceSub,Nat.reduceBEq,Nat.reduceLeDiff,xw0,eApp,rowOf,appRow,lkL,lkN,eMupd,vLook,mapSh,findE,putE,keqL,hasSh,fits,shb,Int.reduceBEq,eMksl,vSlc,boundsOf,boundOf,cleanL,Nat.reduceGT,Int.reduceGT,Int.reduceGE,Int.reduceDiv,Int.reduceTDiv,vAidx,rdc],fun b=>yA1 hk ?_⟩
    exact .inl ⟨rfl,.inr (.inr (.inl ⟨rfl,rfl⟩))⟩
  · refine ⟨.map (H.length + 7),.slice true 0 [],by simp -implicitDefEqProofs only [sw0,sw1,sw2,sw3,sw4,sw5,reduceCtorEq,Nat.reduceEqDiff,Nat.reduceAdd,Nat.reduceDiv,Nat.reduceLeDiff,dw0,Int.reduceAdd,Int.reduceSub,Int.reduceMul,Int.reduceLT,Int.reduceLE,Int.reduceNeg,Int.reduceEq,Int.reduceToNat,Nat.reduceLT,Nat.reduceMul,Nat.reduceSub,Nat.reduceBEq,Nat.reduceLeDiff,xw0,eApp,rowOf,appRow,lkL,lkN,eMupd,vLook,mapSh,findE,putE,keqL,hasSh,fits,shb,Int.reduceBEq,eMksl,vSlc,boundsOf,boundOf,cleanL,Nat.reduceGT,Int.reduceGT,Int.reduceGE,Int.reduceDiv,Int.reduceTDiv,vAidx,rdc],by simp -implicitDefEqProofs only [sw0,sw1,sw2,sw3,sw4,sw5,reduceCtorEq,Nat.reduceEqDiff,Nat.reduceAdd,Nat.reduceDiv,Nat.reduceLeDiff,dw0,Int.reduceAdd,Int.reduceSub,Int.reduceMul,Int.reduceLT,Int.reduceLE,Int.reduceNeg,Int.reduceEq,Int.reduceToNat,Nat.reduceLT,Nat.reduceMul,Nat.reduceSub,Nat.reduceBEq,Nat.reduceLeDiff,xw0,eApp,rowOf,appRow,lkL,lkN,eMupd,vLook,mapSh,findE,putE,keqL,hasSh,fits,shb,Int.reduceBEq,eMksl,vSlc,boundsOf,boundOf,cleanL,Nat.reduceGT,Int.reduceGT,Int.reduceGE,Int.reduceDiv,Int.reduceTDiv,vAidx,rdc],fun b=>yA2 hk ?_⟩
    exact .inl ⟨rfl,.inr (.inr (.inr ⟨by omega,rfl⟩))⟩
  · have e0:((t:Int) == 0)=false:=by simp; omega
    have e1:((t:Int) == 1)=false:=by simp; omega
    refine ⟨.map (H.length + 7),.slice true 0 [],by simp -implicitDefEqProofs only [sw0,sw1,sw2,sw3,sw4,sw5,reduceCtorEq,Nat.reduceEqDiff,Nat.reduceAdd,Nat.reduceDiv,Nat.reduceLeDiff,dw0,Int.reduceAdd,Int.reduceSub,Int.reduceMul,Int.reduceLT,Int.reduceLE,Int.reduceNeg,Int.reduceEq,Int.reduceToNat,Nat.reduceLT,Nat.reduceMul,Nat.reduceSub,Nat.reduceBEq,Nat.reduceLeDiff,xw0,eApp,rowOf,appRow,lkL,lkN,eMupd,vLook,mapSh,findE,putE,keqL,hasSh,fits,shb,Int.reduceBEq,eMksl,vSlc,boundsOf,boundOf,cleanL,Nat.reduceGT,Int.reduceGT,Int.reduceGE,Int.reduceDiv,Int.reduceTDiv,vAidx,rdc],by simp -implicitDefEqProofs only [sw0,sw1,sw2,sw3,sw4,sw5,reduceCtorEq,Nat.reduceEqDiff,Nat.reduceAdd,Nat.reduceDiv,Nat.reduceLeDiff,dw0,Int.reduceAdd,Int.reduceSub,Int.reduceMul,Int.reduceLT,Int.reduceLE,Int.reduceNeg,Int.reduceEq,Int.reduceToNat,Nat.reduceLT,Nat.reduceMul,Nat.reduceSub,Nat.reduceBEq,Nat.reduceLeDiff,xw0,eApp,rowOf,appRow,lkL,lkN,eMupd,vLook,mapSh,findE,putE,keqL,hasSh,fits,shb,Int.reduceBEq,eMksl,vSlc,boundsOf,boundOf,cleanL,Nat.reduceGT,Int.reduceGT,Int.reduceGE,Int.reduceDiv,Int.reduceTDiv,vAidx,rdc,e0,e1],fun b=>yA3 hk ?_⟩
    exact .inl ⟨rfl,.inr (.inr (.inr ⟨by omega,rfl⟩))⟩
theorem slotsA (hk:200≤k) (hK:K (.fn F_q41 [.ptr (H.length + 1) 0 1]) ⟨H ++ [.map shI 3 [(iv 0,.sref (H.length + 3) 0 2 2 1),(iv 1,.sref (H.length + 6) 0 1 1 1)],.cells [.map H.length],.cells [iv 0,iv 0,iv 3],.cells [iv 0,iv 1],.cells [iv 1,iv 0,iv 2],.cells [iv 2,iv 1,iv 2],.cells [iv 2]],false⟩):VC ⟨prog,k + 1,b⟩ F_q40 [vA] ⟨H,false⟩ K:=by
  apply q40.enter
  have hu:AV.under H.length (AV.fn F_q41 [AV.ptr (H.length + 1) 0 1])=false:=by simp [AV.under,underL]
  simp -implicitDefEqProofs only [q40.n0_w,sw0,sw1,sw2,sw3,sw4,sw5,reduceCtorEq,Nat.reduceEqDiff,Nat.reduceAdd,Nat.reduceDiv,Nat.reduceLeDiff,dw0,Int.reduceAdd,Int.reduceSub,Int.reduceMul,Int.reduceLT,Int.reduceLE,Int.reduceNeg,Int.reduceEq,Int.reduceToNat,Nat.reduceLT,Nat.reduceMul,Nat.reduceSub,Nat.reduceBEq,Nat.reduceLeDiff,xw0,eApp,rowOf,appRow,lkL,lkN,eMupd,vLook,mapSh,findE,putE,keqL,hasSh,fits,shb,Int.reduceBEq,eMksl,vSlc,boundsOf,boundOf,cleanL,Nat.reduceGT,Int.reduceGT,Int.reduceGE,Int.reduceDiv,Int.reduceTDiv,vAidx,rdc,slots_u1]
  rw [wl_1 (by omega)]
  simp -implicitDefEqProofs only [q40.n2_w,sw0,sw1,sw2,sw3,sw4,sw5,reduceCtorEq,Nat.reduceEqDiff,Nat.reduceAdd,Nat.reduceDiv,Nat.reduceLeDiff,dw0,Int.reduceAdd,Int.reduceSub,Int.reduceMul,Int.reduceLT,Int.reduceLE,Int.reduceNeg,Int.reduceEq,Int.reduceToNat,Nat.reduceLT,Nat.reduceMul,Nat.reduceSub,Nat.reduceBEq,Nat.reduceLeDiff,xw0,eApp,rowOf,appRow,lkL,lkN,eMupd,vLook,mapSh,findE,putE,keqL,hasSh,fits,shb,Int.reduceBEq,eMksl,vSlc,boundsOf,boundOf,cleanL,Nat.reduceGT,Int.reduceGT,Int.reduceGE,Int.reduceDiv,Int.reduceTDiv,vAidx,rdc,q40.n4_w]
  rw [wl_1 (by omega)]
  simp -implicitDefEqProofs only [q40.n2_w,sw0,sw1,sw2,sw3,sw4,sw5,reduceCtorEq,Nat.reduceEqDiff,Nat.reduceAdd,Nat.reduceDiv,Nat.reduceLeDiff,dw0,Int.reduceAdd,Int.reduceSub,Int.reduceMul,Int.reduceLT,Int.reduceLE,Int.reduceNeg,Int.reduceEq,Int.reduceToNat,Nat.reduceLT,Nat.reduceMul,Nat.reduceSub,Nat.reduceBEq,Nat.reduceLeDiff,xw0,eApp,rowOf,appRow,lkL,lkN,eMupd,vLook,mapSh,findE,putE,keqL,hasSh,fits,shb,Int.reduceBEq,eMksl,vSlc,boundsOf,boundOf,cleanL,Nat.reduceGT,Int.reduceGT,Int.reduceGE,Int.reduceDiv,Int.reduceTDiv,vAidx,rdc,q40.n4_w]
  rw [wl_1 (by omega)]
  simp -implicitDefEqProofs only [q40.n2_w,sw0,sw1,sw2,sw3,sw4,sw5,reduceCtorEq,Nat.reduceEqDiff,Nat.reduceAdd,Nat.reduceDiv,Nat.reduceLeDiff,dw0,Int.reduceAdd,Int.reduceSub,Int.reduceMul,Int.reduceLT,Int.reduceLE,Int.reduceNeg,Int.reduceEq,Int.reduceToNat,Nat.reduceLT,Nat.reduceMul,Nat.reduceSub,Nat.reduceBEq,Nat.reduceLeDiff,xw0,eApp,rowOf,appRow,lkL,lkN,eMupd,vLook,mapSh,findE,putE,keqL,hasSh,fits,shb,Int.reduceBEq,eMksl,vSlc,boundsOf,boundOf,cleanL,Nat.reduceGT,Int.reduceGT,Int.reduceGE,Int.reduceDiv,Int.reduceTDiv,vAidx,rdc,q40.n4_w]
  rw [wl_1 (by omega)]
  simp -implicitDefEqProofs only [q40.n2_w,sw0,sw1,sw2,sw3,sw4,sw5,reduceCtorEq,Nat.reduceEqDiff,Nat.reduceAdd,Nat.reduceDiv,Nat.reduceLeDiff,dw0,Int.reduceAdd,Int.reduceSub,Int.reduceMul,Int.reduceLT,Int.reduceLE,Int.reduceNeg,Int.reduceEq,Int.reduceToNat,Nat.reduceLT,Nat.reduceMul,Nat.reduceSub,Nat.reduceBEq,Nat.reduceLeDiff,xw0,eApp,rowOf,appRow,lkL,lkN,eMupd,vLook,mapSh,findE,putE,keqL,hasSh,fits,shb,Int.reduceBEq,eMksl,vSlc,boundsOf,boundOf,cleanL,Nat.reduceGT,Int.reduceGT,Int.reduceGE,Int.reduceDiv,Int.reduceTDiv,vAidx,rdc,q40.n5_w,q40.ret,hu]
  exact hK
theorem PlanA (hk:3000≤k) (hK:∀ L n,SI (H ++ L) n [2,0,1]→K (.tup [n,iv 0]) ⟨H ++ L,true⟩):VC ⟨prog,k,b⟩ F_q16 [vA,iv 1] ⟨H,lk⟩ K:=by
  obtain ⟨k,rfl⟩:∃ j,k=j + 1:=⟨k - 1,by omega⟩
  apply q16.enter
  have hjb:(decide (jA.length≤200) && jA.all jobOk)=true:=by decide
  have h11:((1:Int)≤1∧(1:Int)≤8)=True:=by simp
  have hask:=fun (H':List AObj) (K:AV→St→Prop)=>asked_s (K:=K) (k:=k) (b:=some H.length) (lk:=false) (by omega) (H:=H') vA_sl (c:=1) (by decide)
  simp -implicitDefEqProofs only [hjb,if_true,h11] at hask
  have hmk:∀ (H':List AObj),eMksl ⟨H',false⟩ 1 8 [iv 0] (iv 3) (iv 3)=some (.sref H'.length 0 3 (3 * 1) 1,⟨H' ++ [.cells [iv 0,iv 0,iv 0]],false⟩):=fun H'=>by simp [eMksl,push]
  simp -implicitDefEqProofs only [q16.n0_w,sw0,sw1,sw2,sw3,sw4,sw5,reduceCtorEq,Nat.reduceEqDiff,Nat.reduceAdd,Nat.reduceDiv,Nat.reduceLeDiff,dw0,Int.reduceAdd,Int.reduceSub,Int.reduceMul,Int.reduceLT,Int.reduceLE,Int.reduceNeg,Int.reduceEq,Int.reduceToNat,Nat.reduceLT,Nat.reduceMul,Nat.reduceSub,Nat.reduceBEq,Nat.reduceLeDiff,hask,q16.n2_w,hmk]
  obtain ⟨k1,hk1⟩:∃ j,k=j + 1:=⟨k - 1,by omega⟩
  have hsl:=fun (H':List AObj) (K:AV→St→Prop) (b:Option Nat) (hK)=>@slotsA k1 b H' K (by omega) hK
  rw [← hk1] at hsl
  refine hsl _ _ _ ?_
  simp -implicitDefEqProofs only [sw0,sw1,sw2,sw3,sw4,sw5,reduceCtorEq,Nat.reduceEqDiff,Nat.reduceAdd,Nat.reduceDiv,Nat.reduceLeDiff,dw0,Int.reduceAdd,Int.reduceSub,Int.reduceMul,Int.reduceLT,Int.reduceLE,Int.reduceNeg,Int.reduceEq,Int.reduceToNat,Nat.reduceLT,Nat.reduceMul,Nat.reduceSub,Nat.reduceBEq,Nat.reduceLeDiff,xw0,eApp,rowOf,appRow,lkL,lkN,eMupd,vLook,mapSh,findE,putE,keqL,hasSh,fits,shb,Int.reduceBEq,eMksl,vSlc,boundsOf,boundOf,cleanL,Nat.reduceGT,Int.reduceGT,Int.reduceGE,Int.reduceDiv,Int.reduceTDiv,vAidx,rdc]
  refine WC_rf (f:=F_q41) (caps:=[.ptr (H.length + 8) 0 1]) rfl ?_
  obtain ⟨k',hk'⟩:∃ j,k=j + 2:=⟨k - 2,by omega⟩
  simp -implicitDefEqProofs only [sw0,sw1,sw2,sw3,sw4,sw5,reduceCtorEq,Nat.reduceEqDiff,Nat.reduceAdd,Nat.reduceDiv,Nat.reduceLeDiff,dw0,Int.reduceAdd,Int.reduceSub,Int.reduceMul,Int.reduceLT,Int.reduceLE,Int.reduceNeg,Int.reduceEq,Int.reduceToNat,Nat.reduceLT,Nat.reduceMul,Nat.reduceSub,Nat.reduceBEq,Nat.reduceLeDiff,xw0,eApp,rowOf,appRow,lkL,lkN,eMupd,vLook,mapSh,findE,putE,keqL,hasSh,fits,shb,Int.reduceBEq,eMksl,vSlc,boundsOf,boundOf,cleanL,Nat.reduceGT,Int.reduceGT,Int.reduceGE,Int.reduceDiv,Int.reduceTDiv,vAidx,rdc]
  have hrun:=fun (K:AV→St→Prop) (b:Option Nat)=>@runA k' b H false K (by omega)
  rw [← hk'] at hrun
  refine hrun _ _ ?_
  simp -implicitDefEqProofs only [RF,sw0,sw1,sw2,sw3,sw4,sw5,reduceCtorEq,Nat.reduceEqDiff,Nat.reduceAdd,Nat.reduceDiv,Nat.reduceLeDiff,dw0,Int.reduceAdd,Int.reduceSub,Int.reduceMul,Int.reduceLT,Int.reduceLE,Int.reduceNeg,Int.reduceEq,Int.reduceToNat,Nat.reduceLT,Nat.reduceMul,Nat.reduceSub,Nat.reduceBEq,Nat.reduceLeDiff,xw0,eApp,rowOf,appRow,lkL,lkN,eMupd,vLook,mapSh,findE,putE,keqL,hasSh,fits,shb,Int.reduceBEq,eMksl,vSlc,boundsOf,boundOf,cleanL,Nat.reduceGT,Int.reduceGT,Int.reduceGE,Int.reduceDiv,Int.reduceTDiv,vAidx,rdc,q16.n18_w,q16.n20_w]
  simp -implicitDefEqProofs only [RK_r,q16.res,resultsOf,resultOf,sw0,sw1,sw2,sw3,sw4,sw5,reduceCtorEq,Nat.reduceEqDiff,Nat.reduceAdd,Nat.reduceDiv,Nat.reduceLeDiff,dw0,Int.reduceAdd,Int.reduceSub,Int.reduceMul,Int.reduceLT,Int.reduceLE,Int.reduceNeg,Int.reduceEq,Int.reduceToNat,Nat.reduceLT,Nat.reduceMul,Nat.reduceSub,Nat.reduceBEq,Nat.reduceLeDiff,xw0,eApp,rowOf,appRow,lkL,lkN,eMupd,vLook,mapSh,findE,putE,keqL,hasSh,fits,shb,Int.reduceBEq,eMksl,vSlc,boundsOf,boundOf,cleanL,Nat.reduceGT,Int.reduceGT,Int.reduceGE,Int.reduceDiv,Int.reduceTDiv,vAidx,rdc]
  refine hK _ _ ⟨Nat.one_pos,ic_len,.inr ⟨H.length + 4,0,3,[iv 2,iv 0,iv 1],rfl,by simp -implicitDefEqProofs only [sw0,sw1,sw2,sw3,sw4,sw5,reduceCtorEq,Nat.reduceEqDiff,Nat.reduceAdd,Nat.reduceDiv,Nat.reduceLeDiff,dw0,Int.reduceAdd,Int.reduceSub,Int.reduceMul,Int.reduceLT,Int.reduceLE,Int.reduceNeg,Int.reduceEq,Int.reduceToNat,Nat.reduceLT,Nat.reduceMul,Nat.reduceSub,Nat.reduceBEq,Nat.reduceLeDiff,xw0,eApp,rowOf,appRow,lkL,lkN,eMupd,vLook,mapSh,findE,putE,keqL,hasSh,fits,shb,Int.reduceBEq,eMksl,vSlc,boundsOf,boundOf,cleanL,Nat.reduceGT,Int.reduceGT,Int.reduceGE,Int.reduceDiv,Int.reduceTDiv,vAidx,rdc],rfl⟩⟩
end Go.Proofs.YtcebebhaahpoiaaDoor
end
section
namespace Go.Proofs.YtcebebhaahpoiaaDoor
open Go Go.Ai Go.W
attribute [local irreducible] VC YC WC
set_option linter.unusedSimpArgs false
set_option linter.unusedVariables false
set_option maxRecDepth 10000
variable {k:Nat} {b:Option Nat} {H:List AObj} {lk:Bool} {K:AV→St→Prop}
theorem eqs_kc {p q:Int × Int}:vEqs true (.sh (.mk true [.int .i64,.int .i64])) (.agg (kc p)) (.agg (kc q))=some (.bool (!decide (p=q))):=by
  show vEqs true (.sh (.mk true [.int .i64,.int .i64])) (ev2 p) (ev2 q)=_
  simp -implicitDefEqProofs only [vEqs,evEq,key_iv2.sh,key_iv2.keq,Bool.and_self,if_true,Option.bind_some]
theorem SamePairs_s (hk:1005≤k) {v w:AV} {xs ys:List (Int × Int)} (hs:Sl H 2 kc v xs) (ht:Sl H 2 kc w ys) (hl:xs.length≤1000):VC ⟨prog,k,b⟩ F_q47 [v,w] ⟨H,lk⟩ K=K (.bool (decide (xs=ys))) ⟨H,lk⟩:=by
  obtain ⟨k,rfl⟩:∃ j,k=j + 1:=⟨k - 1,by omega⟩
  apply VC_iff
  apply q47.enter
  simp -implicitDefEqProofs only [q47.n0_w,sw0,sw1,sw2,sw3,sw4,sw5,reduceCtorEq,Nat.reduceEqDiff,Nat.reduceAdd,Nat.reduceDiv,Nat.reduceLeDiff,hs.len,ht.len]
  split
  · rename_i hne
    have:xs ≠ ys:=fun e=>hne (by rw [e])
    simp -implicitDefEqProofs only [q47.n1_w,sw0,sw1,sw2,sw3,sw4,sw5,reduceCtorEq,Nat.reduceEqDiff,Nat.reduceAdd,Nat.reduceDiv,Nat.reduceLeDiff,q47.ret,decide_eq_false this]
  · rename_i heq
    have hlen:xs.length=ys.length:=by omega
    simp -implicitDefEqProofs only [q47.n2_w,sw0,sw1,sw2,sw3,sw4,sw5,reduceCtorEq,Nat.reduceEqDiff,Nat.reduceAdd,Nat.reduceDiv,Nat.reduceLeDiff]
    refine q47.n3_l (fun m r3 s=>∃ i:Nat,r3=iv i∧s=⟨H,false⟩∧m=xs.length - i∧i≤xs.length∧∀ j (h:j < xs.length) (h':j < ys.length),j < i→xs[j]=ys[j]) xs.length (by simp -implicitDefEqProofs only []; omega) ⟨0,rfl,rfl,by omega,by omega,fun j _ _ h=>by omega⟩ ?_
    rintro m r2 r3 r4 r5 s ⟨i,rfl,rfl,rfl,hi,hno⟩
    simp -implicitDefEqProofs only [q47.n4_w,sw0,sw1,sw2,sw3,sw4,sw5,reduceCtorEq,Nat.reduceEqDiff,Nat.reduceAdd,Nat.reduceDiv,Nat.reduceLeDiff,hs.len]
    split
    · rename_i hlt
      have hlt:i < xs.length:=by omega
      have hlt':i < ys.length:=by omega
      simp -implicitDefEqProofs only [q47.n6_w,sw0,sw1,sw2,sw3,sw4,sw5,reduceCtorEq,Nat.reduceEqDiff,Nat.reduceAdd,Nat.reduceDiv,Nat.reduceLeDiff,hs.at,ht.at,hlt,hlt',hs.lda hlt,ht.lda hlt',eqs_kc]
      split
      · rename_i hne
        have:xs ≠ ys:=fun e=>hne (by subst e; rfl)
        simp -implicitDefEqProofs only [q47.n7_w,sw0,sw1,sw2,sw3,sw4,sw5,reduceCtorEq,Nat.reduceEqDiff,Nat.reduceAdd,Nat.reduceDiv,Nat.reduceLeDiff,q47.ret,decide_eq_false this]
      · rename_i he
        simp -implicitDefEqProofs only [q47.n8_w,sw0,sw1,sw2,sw3,sw4,sw5,reduceCtorEq,Nat.reduceEqDiff,Nat.reduceAdd,Nat.reduceDiv,Nat.reduceLeDiff]
        refine q47.n3_go (m':=xs.length - (i + 1)) (by omega) ⟨i + 1,by rw [wrap64 (by omega)]; rfl,rfl,rfl,by omega,?_⟩
        intro j h h' hj
        by_cases hji:j=i
        · subst hji; simpa using he
        · exact hno j h h' (by omega)
    · rename_i hge
      have:xs=ys:=List.ext_getElem hlen fun j h h'=>hno j h h' (by omega)
      simp -implicitDefEqProofs only [q47.n9_w,sw0,sw1,sw2,sw3,sw4,sw5,reduceCtorEq,Nat.reduceEqDiff,Nat.reduceAdd,Nat.reduceDiv,Nat.reduceLeDiff,q47.ret,decide_eq_true this]
def plA:Plt:={ heat:=5,low:=0,high:=10,loads:=[4,4,4],prices:=[1,3,1],machs:=[⟨6,2,1⟩] }
abbrev csA:List AV:=[iv 5,iv 0,iv 10,.slice true 1 [[iv 4],[iv 4],[iv 4]],.slice true 1 [[iv 1],[iv 3],[iv 1]],.slice true 3 [[iv 6,iv 2,iv 1]]]
theorem plA_pv:PV H csA plA:=⟨_,_,_,rfl,Sl.lit Nat.one_pos ic_len rfl,Sl.lit Nat.one_pos ic_len rfl,Sl.lit (by omega) (fun _=>rfl) rfl⟩
theorem plA_cool:plA.cool=[.slice false 1 [[iv 1],[iv 0],[iv 1]],iv 6,iv 0]:=by rfl
theorem plA_sched:plA.sched [1,0,1]=true:=by rfl
def msA:List (Int × Int):=[(0,0),(10,0),(11,0),(1,0)]
theorem msA_ans:matchAns msA=[.slice false 2 [[iv 0,iv 3],[iv 1,iv 2]],iv 2,iv 0]:=by rfl
theorem nxA:nextAns 2 [(.slice true 1 [[iv 0],[iv 1]],[0,1])]=[.slice false 1 [[iv 1],[iv 0]],iv 0]:=by rfl
theorem awake_s (hk:16 ^ 53≤k) (hK:∀ s,K (.bool true) s):VC ⟨prog,k,b⟩ F_q2 [] ⟨H,lk⟩ K:=by
  have e53:(16:Nat) ^ 53=6582018229284824168619876730229402019930943462534319453394436096:=by decide
  have e52:(16:Nat) ^ 52=411376139330301510538742295639337626245683966408394965837152256:=by decide
  obtain ⟨k,rfl⟩:∃ j,k=j + 1:=⟨k - 1,by omega⟩
  apply q2.enter
  have hp:PV (H ++ [.cells csA]) csA plA:=plA_pv
  have hcool:=fun (K:AV→St→Prop)=>Cool_s (K:=K) (k:=k) (b:=some H.length) (lk:=false) (by omega) hp (by decide)
  rw [plA_cool] at hcool
  have hS:SI (H ++ [.cells csA]) (.slice true 1 [[iv 1],[iv 0],[iv 1]]) [1,0,1]:=Sl.lit Nat.one_pos ic_len rfl
  have hheats:=fun (K:AV→St→Prop)=>Heats_s (K:=K) (k:=k) (b:=some H.length) (lk:=false) (by omega) hp hS (by decide) (by decide)
  have e1:heatsFrom plA 0 plA.heat [1,0,1]=[3,7,5]:=by rfl
  rw [if_pos plA_sched,e1] at hheats
  simp -implicitDefEqProofs only [List.map_cons,List.map_nil,ic] at hheats
  simp -implicitDefEqProofs only [q2.n0_w,sw0,sw1,sw2,sw3,sw4,sw5,reduceCtorEq,Nat.reduceEqDiff,Nat.reduceAdd,Nat.reduceDiv,Nat.reduceLeDiff,hcool,hheats]
  refine PlanA (by omega) ?_
  intro L n hn
  simp -implicitDefEqProofs only [sw0,sw1,sw2,sw3,sw4,sw5,reduceCtorEq,Nat.reduceEqDiff,Nat.reduceAdd,Nat.reduceDiv,Nat.reduceLeDiff]
  refine PlanB (by omega) ?_
  intro L2
  simp -implicitDefEqProofs only [sw0,sw1,sw2,sw3,sw4,sw5,reduceCtorEq,Nat.reduceEqDiff,Nat.reduceAdd,Nat.reduceDiv,Nat.reduceLeDiff,CrowdB (k:=k) (by omega)]
  obtain ⟨G,hG⟩:∃ G,G=H ++ AObj.cells csA :: (L ++ L2):=⟨_,rfl⟩
  have hn':SI G n [2,0,1]:=by
    have:=hn.app (L:=L2)
    rw [hG]
    simpa using this
  rw [← hG]
  have hm:=fun (K:AV→St→Prop)=>Match_s (K:=K) (k:=k) (b:=some H.length) (lk:=true) (H:=G) (by omega) (show Sl G 2 kc (.slice true 2 [[iv 0,iv 0],[iv 10,iv 0],[iv 11,iv 0],[iv 1,iv 0]]) msA from Sl.lit (by omega) kc_len rfl) (by decide)
  rw [msA_ans] at hm
  have hx:=fun (K:AV→St→Prop)=>Next_s (K:=K) (k:=k) (b:=some H.length) (lk:=true) (H:=G) (n:=2) (by omega) (show RD G (.slice true 1 [[.slice true 1 [[iv 0],[iv 1]]]]) [(.slice true 1 [[iv 0],[iv 1]],[0,1])] from ⟨Sl.lit Nat.one_pos rc_len rfl,fun q hq=>by simp -implicitDefEqProofs only [List.mem_singleton] at hq; subst hq; exact Sl.lit Nat.one_pos ic_len rfl⟩) (by decide) (by decide)
  rw [nxA] at hx
  have hI:∀ {v w:AV} {xs:List Int},SI G v xs→SI G w xs→xs.length≤1000→∀ (K:AV→St→Prop),VC ⟨prog,k,some H.length⟩ F_q44 [v,w] ⟨G,true⟩ K=K (.bool true) ⟨G,true⟩:=fun h1 h2 h3 K=>by
    rw [r02_Ints_s (k:=k) (by omega) h1 h2 h3,decide_eq_true rfl]
  have hV:∀ (f:Bool) (xs:List Int),SI G (.slice f 1 (xs.map ic)) xs:=fun f xs=>Sl.val Nat.one_pos ic_len
  have i1:=hI (hV false [1,0,1]) (hV true [1,0,1]) (by decide)
  have i2:=hI (hV false [3,7,5]) (hV true [3,7,5]) (by decide)
  have i3:=hI hn' (hV true [2,0,1]) (by decide)
  have i4:=hI (hV false [1,0]) (hV true [1,0]) (by decide)
  have hsp:=fun (K:AV→St→Prop)=>SamePairs_s (K:=K) (k:=k) (b:=some H.length) (lk:=true) (H:=G) (v:=.slice false 2 [[iv 0,iv 3],[iv 1,iv 2]]) (w:=.slice true 2 [[iv 0,iv 3],[iv 1,iv 2]]) (xs:=[(0,3),(1,2)]) (ys:=[(0,3),(1,2)]) (by omega) (Sl.lit (by omega) kc_len rfl) (Sl.lit (by omega) kc_len rfl) (by decide)
  rw [decide_eq_true rfl] at hsp
  simp -implicitDefEqProofs only [List.map_cons,List.map_nil,ic] at i1 i2 i3 i4
  simp -implicitDefEqProofs only [sw0,sw1,sw2,sw3,sw4,sw5,reduceCtorEq,Nat.reduceEqDiff,Nat.reduceAdd,Nat.reduceDiv,Nat.reduceLeDiff,hm,hx,i1,i2,i3,i4,hsp,q2.ret,lv_t]
  exact hK _
end Go.Proofs.YtcebebhaahpoiaaDoor
end
section
namespace Go.Proofs.YtcebebhaahpoiaaDoor
open Go Go.Ai Go.W
attribute [local irreducible] VC YC WC
set_option linter.unusedSimpArgs false
set_option linter.unusedVariables false
set_option maxRecDepth 10000
variable {k:Nat} {b:Option Nat} {H:List AObj} {lk:Bool} {K:AV→St→Prop}
end Go.Proofs.YtcebebhaahpoiaaDoor
end
section
namespace Go.Proofs.YtcebebhaahpoiaaDoor
open Go Go.Ai Go.W
attribute [local irreducible] VC YC WC
set_option linter.unusedVariables false
set_option maxRecDepth 100000
theorem c3:Tryd.prog.cellsOf 3=1:=by kernel_rfl
theorem wt_int {d:Nat} {xs:List AV} (h:Wt Tryd.prog (d + 1) 3 xs):∃ n,xs=[iv n]:=by
  unfold Wt at h
  rw [Tryd.underlying3] at h
  obtain ⟨n,rfl,_⟩:=h
  exact ⟨n,rfl⟩
end Go.Proofs.YtcebebhaahpoiaaDoor
end
section
namespace Go.Proofs.YtcebebhaahpoiaaDoor
open Go Go.Ai Go.W
attribute [local irreducible] VC YC WC
set_option linter.unusedSimpArgs false
set_option linter.unusedVariables false
set_option maxRecDepth 10000
variable {k:Nat} {b:Option Nat} {H:List AObj} {lk:Bool} {K:AV→St→Prop}
theorem PV.set {H:List AObj} {cs:List AV} {p:Plt} (h:PV H cs p) {c:Nat} {o:AObj} (hc:∀ cs,H[c]? ≠ some (AObj.cells cs)):PV (H.set c o) cs p:=by
  obtain ⟨vl,vp,vm,e,h1,h2,h3⟩:=h.how
  exact ⟨vl,vp,vm,e,slset h1 hc,slset h2 hc,slset h3 hc⟩
end Go.Proofs.YtcebebhaahpoiaaDoor
end
section
namespace Go.Proofs.YtcebebhaahpoiaaDoor
open Go Go.Ai Go.W
attribute [local irreducible] VC YC WC
set_option linter.unusedSimpArgs false
set_option linter.unusedVariables false
set_option maxRecDepth 10000
variable {k:Nat} {b:Option Nat} {H:List AObj} {lk:Bool} {K:AV→St→Prop}
end Go.Proofs.YtcebebhaahpoiaaDoor
end
section
namespace Go.Proofs.YtcebebhaahpoiaaDoor
open Go Go.Ai Go.W
attribute [local irreducible] VC YC WC
set_option linter.unusedSimpArgs false
set_option linter.unusedVariables false
set_option maxRecDepth 10000
variable {k:Nat} {b:Option Nat} {H:List AObj} {lk:Bool} {K:AV→St→Prop}
end Go.Proofs.YtcebebhaahpoiaaDoor
end
section
namespace Go.Proofs.YtcebebhaahpoiaaDoor
open Go Go.Ai Go.W
attribute [local irreducible] VC YC WC
set_option linter.unusedSimpArgs false
set_option linter.unusedVariables false
set_option maxRecDepth 10000
variable {k:Nat} {b:Option Nat} {H:List AObj} {lk:Bool} {K:AV→St→Prop}
theorem Differ_s (hk:2≤k) {q w:Int × Int} (hq:0≤q.1∧q.1≤1000000∧0≤q.2∧q.2≤1000000) (hw:0≤w.1∧w.1≤1000000∧0≤w.2∧w.2≤1000000) :
    VC ⟨prog,k,b⟩ F_q45 [.agg (kc q),.agg (kc w)] ⟨H,lk⟩ K=K (iv (diff q w)) ⟨H,lk⟩:=by
  obtain ⟨k,rfl⟩:∃ j,k=j + 1:=⟨k - 1,by omega⟩
  apply VC_iff
  apply q45.enter
  have hw1:=wrap64 (n:=q.1 - w.1) (by omega)
  have hw2:=wrap64 (n:=q.2 - w.2) (by omega)
  have hs1:=fun (G:List AObj) (K:AV→St→Prop)=>r12_size_s (H:=G) (K:=K) (lk:=false) (b:=some H.length) (k:=k) (by omega) (show -4000000≤q.1 - w.1∧q.1 - w.1≤4000000 by omega)
  have hs2:=fun (G:List AObj) (K:AV→St→Prop)=>r12_size_s (H:=G) (K:=K) (lk:=false) (b:=some H.length) (k:=k) (by omega) (show -4000000≤q.2 - w.2∧q.2 - w.2≤4000000 by omega)
  have hz1:0≤sz (q.1 - w.1)∧sz (q.1 - w.1)≤4000000:=by unfold sz; omega
  have hz2:0≤sz (q.2 - w.2)∧sz (q.2 - w.2)≤4000000:=by unfold sz; omega
  have hw3:=wrap64 (n:=sz (q.1 - w.1) + sz (q.2 - w.2)) (by omega)
  simp -implicitDefEqProofs only [q45.n0_w,sw0,sw1,sw2,sw3,sw4,sw5,reduceCtorEq,Nat.reduceEqDiff,Nat.reduceAdd,Nat.reduceDiv,Nat.reduceLeDiff,kc,hw1,hs1,hw2,hs2,hw3,q45.ret,diff]
theorem Marks_s (hk:1010≤k) {v:AV} {ms:List (Int × Int)} (hs:Sl H 2 kc v ms) (hl:ms.length≤1000):VC ⟨prog,k,b⟩ F_q46 [v] ⟨H,lk⟩ K=K (.bool (matched ms)) ⟨H,lk⟩:=by
  obtain ⟨k,rfl⟩:∃ j,k=j + 1:=⟨k - 1,by omega⟩
  apply VC_iff
  apply q46.enter
  simp -implicitDefEqProofs only [q46.n0_w,sw0,sw1,sw2,sw3,sw4,sw5,reduceCtorEq,Nat.reduceEqDiff,Nat.reduceAdd,Nat.reduceDiv,Nat.reduceLeDiff]
  refine q46.n1_l (fun m r2 s=>∃ i:Nat,r2=iv i∧s=⟨H,false⟩∧m=ms.length - i∧i≤ms.length∧∀ j (h:j < ms.length),j < i→(amt ms[j].1 && amt ms[j].2)=true) ms.length (by simp -implicitDefEqProofs only []; omega) ⟨0,rfl,rfl,by omega,by omega,fun j _ h=>by omega⟩ ?_
  rintro m r1 r2 r3 r4 r5 s ⟨i,rfl,rfl,hm,hi,hno⟩
  simp -implicitDefEqProofs only [q46.n2_w,sw0,sw1,sw2,sw3,sw4,sw5,reduceCtorEq,Nat.reduceEqDiff,Nat.reduceAdd,Nat.reduceDiv,Nat.reduceLeDiff,hs.len]
  split
  · rename_i hlt
    have hlt:i < ms.length:=by omega
    have hz:q46.n4=q46.n4:=rfl
    cases ha:amt ms[i].1 with
    | false =>
      have hbad:matched ms=false:=by
        unfold matched
        rw [Bool.and_eq_false_iff]
        right
        unfold okM
        rw [List.all_eq_false]
        exact ⟨ms[i],List.getElem_mem hlt,by rw [ha]; simp⟩
      have ha':¬ (0≤ms[i].1∧ms[i].1≤1000000):=by unfold amt at ha; simpa using ha
      simp -implicitDefEqProofs only [q46.n4_w,sw0,sw1,sw2,sw3,sw4,sw5,reduceCtorEq,Nat.reduceEqDiff,Nat.reduceAdd,Nat.reduceDiv,Nat.reduceLeDiff,hs.at',hlt,hs.off,hs.ld hlt (show 0 < 2 by omega),kc,r12_in_s (k:=k) (by omega),eq_false ha',gO_u,q46.n5_w,q46.ret,hbad]
    | true =>
      have ha':(0≤ms[i].1∧ms[i].1≤1000000):=by unfold amt at ha; simpa using ha
      cases hb:amt ms[i].2 with
      | false =>
        have hbad:matched ms=false:=by
          unfold matched
          rw [Bool.and_eq_false_iff]
          right
          unfold okM
          rw [List.all_eq_false]
          exact ⟨ms[i],List.getElem_mem hlt,by rw [hb]; simp⟩
        have hb':¬ (0≤ms[i].2∧ms[i].2≤1000000):=by unfold amt at hb; simpa using hb
        simp -implicitDefEqProofs only [q46.n4_w,sw0,sw1,sw2,sw3,sw4,sw5,reduceCtorEq,Nat.reduceEqDiff,Nat.reduceAdd,Nat.reduceDiv,Nat.reduceLeDiff,hs.at',hlt,hs.off,hs.ld hlt (show 0 < 2 by omega),hs.ld hlt (show 1 < 2 by omega),kc,r12_in_s (k:=k) (by omega),eq_true ha',eq_false hb',gO_u,q46.n5_w,q46.ret,hbad]
      | true =>
        have hb':(0≤ms[i].2∧ms[i].2≤1000000):=by unfold amt at hb; simpa using hb
        simp -implicitDefEqProofs only [q46.n4_w,sw0,sw1,sw2,sw3,sw4,sw5,reduceCtorEq,Nat.reduceEqDiff,Nat.reduceAdd,Nat.reduceDiv,Nat.reduceLeDiff,hs.at',hlt,hs.off,hs.ld hlt (show 0 < 2 by omega),hs.ld hlt (show 1 < 2 by omega),kc,r12_in_s (k:=k) (by omega),eq_true ha',eq_true hb',gO_u,q46.n6_w]
        rw [wrap64 (by omega)]
        refine q46.n1_go (m':=ms.length - (i + 1)) (by omega) ⟨i + 1,rfl,rfl,rfl,by omega,fun j h hj=>?_⟩
        rcases Nat.lt_or_ge j i with h1 | h1
        · exact hno j h h1
        · have:j=i:=by omega
          subst this
          rw [ha,hb]; rfl
  · have hie:i=ms.length:=by omega
    have hok:okM ms=true:=by
      unfold okM
      rw [List.all_eq_true]
      intro x hx
      obtain ⟨j,hj,rfl⟩:=List.getElem_of_mem hx
      exact hno j hj (by omega)
    have hm2:matched ms=decide (ms.length % 2=0∧ms.length≤16):=by unfold matched; rw [hok,Bool.and_true]
    have h2:¬ (2:Int)=0:=by omega
    by_cases c1:ms.length % 2=0
    · have htm:(ms.length:Int).tmod 2=((ms.length % 2:Nat):Int):=(Int.ofNat_tmod _ 2).symm
      have c1':(ms.length:Int).tmod 2=0:=by omega
      by_cases c2:ms.length≤16
      · have c2':(ms.length:Int)≤16:=by omega
        have:matched ms=true:=by rw [hm2]; simp [c1,c2]
        simp -implicitDefEqProofs only [q46.n7_w,sw0,sw1,sw2,sw3,sw4,sw5,reduceCtorEq,Nat.reduceEqDiff,Nat.reduceAdd,Nat.reduceDiv,Nat.reduceLeDiff,hs.len,h2,eq_true c1',eq_true c2',q46.ret,this]
      · have c2':¬ (ms.length:Int)≤16:=by omega
        have:matched ms=false:=by rw [hm2]; simp [c2]
        simp -implicitDefEqProofs only [q46.n7_w,sw0,sw1,sw2,sw3,sw4,sw5,reduceCtorEq,Nat.reduceEqDiff,Nat.reduceAdd,Nat.reduceDiv,Nat.reduceLeDiff,hs.len,h2,eq_true c1',eq_false c2',q46.ret,this]
    · have htm:(ms.length:Int).tmod 2=((ms.length % 2:Nat):Int):=(Int.ofNat_tmod _ 2).symm
      have c1':¬ (ms.length:Int).tmod 2=0:=by omega
      have:matched ms=false:=by rw [hm2]; simp [c1]
      simp -implicitDefEqProofs only [q46.n7_w,sw0,sw1,sw2,sw3,sw4,sw5,reduceCtorEq,Nat.reduceEqDiff,Nat.reduceAdd,Nat.reduceDiv,Nat.reduceLeDiff,hs.len,h2,eq_false c1',gO_u,q46.ret,this]
abbrev nint (S:List Nat):List Int:=S.map fun i:Nat=>(i:Int)
theorem kc_one (q:Int × Int):(kc q).all AV.one=true:=rfl
theorem kc_clean (q:Int × Int):cleanL (kc q)=true:=rfl
theorem fold_nonneg {D:Nat→Nat→Int} (hD:∀ a c,0≤D a c) {f:List Nat→Int} {a:Nat} {S0:List Nat}:∀ (S:List Nat) (z:Int × Nat),(∀ c,c ∈ S→0≤f (wo c S0))→(0≤z.1∨S ≠ [])→0≤(S.foldl (pstep D f a S0) z).1
  | [],z,_,h=>h.resolve_right (fun e=>e rfl)
  | c :: S,z,hf,h=>by
    rw [List.foldl_cons]
    refine fold_nonneg hD S _ (fun d hd=>hf d (by simp [hd])) (.inl ?_)
    have h1:=hf c (by simp)
    have h2:=hD a c
    unfold pstep
    split
    · dsimp only; omega
    · omega
theorem pv_nonneg {D:Nat→Nat→Int} (hD:∀ a c,0≤D a c):∀ (r:Nat) (S:List Nat),S.Nodup→S.length=2 * r→r≤32→0≤(pv D S).1
  | 0,S,_,hl,_=>by
    have:S=[]:=List.eq_nil_of_length_eq_zero (by omega)
    subst this
    rw [pv_nil]; decide
  | r + 1,[],_,hl,_=>by simp at hl
  | r + 1,a :: S,hn,hl,hr=>by
    simp -implicitDefEqProofs only [List.length_cons] at hl
    have hn2:=List.nodup_cons.1 hn
    rw [pv_cons hn (by simp -implicitDefEqProofs only [List.length_cons]; omega)]
    refine fold_nonneg hD S _ (fun c hc=>pv_nonneg hD r _ (wo_nodup hn2.2) ?_ (by omega)) (.inr ?_)
    · have:=wo_len hn2.2 hc; omega
    · rintro rfl; simp at hl; omega
end Go.Proofs.YtcebebhaahpoiaaDoor
end
section
namespace Go.Proofs.YtcebebhaahpoiaaDoor
open Go Go.Ai Go.W
attribute [local irreducible] VC YC WC
set_option linter.unusedSimpArgs false
set_option linter.unusedVariables false
set_option maxRecDepth 10000
variable {k:Nat} {b:Option Nat} {H:List AObj} {lk:Bool} {K:AV→St→Prop}
end Go.Proofs.YtcebebhaahpoiaaDoor
end
section
namespace Go.Proofs.YtcebebhaahpoiaaDoor
open Go Go.Ai Go.W
attribute [local irreducible] VC YC WC
set_option linter.unusedVariables false
set_option linter.unusedSimpArgs false
set_option maxRecDepth 100000
def i64 (n:Int):Prop:=-9223372036854775808≤n∧n≤9223372036854775807
theorem wt_u8 {d:Nat} {xs:List AV} (h:Wt Tryd.prog (d + 1) 5 xs):∃ n:Nat,xs=[.int .u8 n]∧n < 256:=by
  unfold Wt at h
  rw [Tryd.underlying5] at h
  obtain ⟨n,rfl,h1,h2⟩:=h
  have h1:(0:Int)≤n:=h1
  have h2:n≤(255:Int):=h2
  exact ⟨n.toNat,by rw [show ((n.toNat:Nat):Int)=n by omega],by omega⟩
theorem len2 {xs:List AV} (h:xs.length=2):∃ a b,xs=[a,b]:=by
  match xs,h with
  | [a,b],_=>exact ⟨a,b,rfl⟩
theorem wt_list {α:Type} {d:Nat} {t:TypeId} {n:Nat} {f:α→List AV} {P:α→Prop} (hc:Tryd.prog.cellsOf t=n) (h1:∀ xs,xs.length=n→Wt Tryd.prog d t xs→∃ a,xs=f a∧P a):∀ {es:List (List AV)},(∀ l,l ∈ es→l.length=Tryd.prog.cellsOf t∧Wt Tryd.prog d t l)→∃ ys:List α,es=ys.map f∧∀ a,a ∈ ys→P a
  | [],_=>⟨[],rfl,fun a h=>by cases h⟩
  | e :: es,h=>by
    obtain ⟨ys,rfl,ha⟩:=wt_list hc h1 (es:=es) fun l hl=>h l (by simp [hl])
    obtain ⟨h2,h3⟩:=h e (by simp)
    rw [hc] at h2
    obtain ⟨a,rfl,hp⟩:=h1 e h2 h3
    exact ⟨a :: ys,rfl,fun x hx=>by rcases List.mem_cons.1 hx with rfl | h; exact hp; exact ha _ h⟩
theorem arg_of_slice {x:AV} {t:TypeId} {d:Nat} {z:Nat} {es:List (List AV)} (ha:isAggT Tryd.prog t=some false) (h:Arg Tryd.prog d t x) (he:x.cells=[.slice false z es]):x=.slice false z es:=by
  obtain ⟨_,_,h3⟩:=h
  cases x <;> first | exact absurd rfl (h3 ha _) | exact (List.cons.inj he).1
theorem c51:Tryd.prog.cellsOf 51=2:=by kernel_rfl
theorem wt_51 {d:Nat} {xs:List AV} (hl:xs.length=2) (h:Wt Tryd.prog (d + 2) 51 xs):∃ m:Int × Int,xs=kc m∧True:=by
  unfold Wt at h
  rw [Tryd.underlying51] at h
  obtain ⟨a,b,rfl⟩:=len2 hl
  obtain ⟨_,hf⟩:=h
  have f0:=hf _ (.head _)
  have f1:=hf _ (.tail _ (.head _))
  simp -implicitDefEqProofs only [c3,List.drop_zero,List.drop_succ_cons,List.take_succ_cons,List.take_zero] at f0 f1
  obtain ⟨x,hx⟩:=wt_int f0
  obtain ⟨y,hy⟩:=wt_int f1
  simp -implicitDefEqProofs only [List.cons.injEq,and_true] at hx hy
  exact ⟨(x,y),by rw [hx,hy],trivial⟩
theorem arg_marks {x:AV} (h:Arg Tryd.prog 8 42 x):∃ l:List (Int × Int),∀ H,Sl H 2 kc x l:=by
  have h1:=h.1
  unfold Wt at h1
  rw [Tryd.underlying42] at h1
  obtain ⟨es,he,_,h2⟩:=h1
  obtain ⟨l,rfl,_⟩:=wt_list c51 (fun xs hl hw=>wt_51 (d:=5) hl hw) h2
  rw [c51] at he
  rw [arg_of_slice (by kernel_rfl) h he]
  exact ⟨l,fun H=>Sl.val (by omega) kc_len⟩
theorem arg_u8s {x:AV} (h:Arg Tryd.prog 8 32 x):∃ l:List Nat,(∀ n,n ∈ l→n < 256)∧∀ H,Sl H 1 (fun n:Nat=>[.int .u8 n]) x l:=by
  have h1:=h.1
  unfold Wt at h1
  rw [Tryd.underlying32] at h1
  obtain ⟨es,he,_,h2⟩:=h1
  obtain ⟨l,rfl,hl⟩:=wt_list (n:=1) (f:=fun n:Nat=>[.int .u8 n]) (by kernel_rfl) (fun xs hl hw=>wt_u8 (d:=6) hw) h2
  rw [show Tryd.prog.cellsOf 5=1 by kernel_rfl] at he
  rw [arg_of_slice (by kernel_rfl) h he]
  exact ⟨l,hl,fun H=>Sl.val (by omega) (fun _=>rfl)⟩
variable {k:Nat} {b:Option Nat} {H:List AObj} {lk:Bool} {K:AV→St→Prop}
end Go.Proofs.YtcebebhaahpoiaaDoor
end
section
namespace Go.Proofs.YtcebebhaahpoiaaDoor
open Go Go.Ai Go.W
attribute [local irreducible] VC YC WC
set_option linter.unusedSimpArgs false
set_option linter.unusedVariables false
set_option maxRecDepth 10000
variable {k:Nat} {b:Option Nat} {H:List AObj} {lk:Bool} {K:AV→St→Prop}
end Go.Proofs.YtcebebhaahpoiaaDoor
end
section
namespace Go.Proofs.YtcebebhaahpoiaaDoor
open Go Go.Ai Go.W
attribute [local irreducible] VC YC WC
set_option linter.unusedSimpArgs false
set_option linter.unusedVariables false
set_option maxRecDepth 10000
variable {k:Nat} {b:Option Nat} {H:List AObj} {lk:Bool} {K:AV→St→Prop}
def rem (n:Nat) (R:List Int):List Nat:=(List.range n).filter fun i=>decide ((i:Int) ∉ R)
def OV (H X:List AObj) (v:AV) (l:List Int):Prop:=VS 1 ic v l∨Own H X 1 ic v l
theorem OV.ext {X Y:List AObj} {v:AV} {l:List Int} (h:OV H X v l):OV H (X ++ Y) v l:=h.imp id fun h=>h.ext
theorem OV.fz {X:List AObj} {v:AV} {l:List Int} (h:OV H X v l):VS 1 ic (frz H.length (H ++ X) 1 v) l:=by
  rcases h with h | h
  · rw [h.fz]; exact h
  · exact h.fz (Nat.le_refl _) ic_clean
end Go.Proofs.YtcebebhaahpoiaaDoor
end
section
namespace Go.Proofs.YtcebebhaahpoiaaDoor
open Go Go.Ai Go.W
attribute [local irreducible] VC YC WC
set_option linter.unusedSimpArgs false
set_option linter.unusedVariables false
set_option maxRecDepth 10000
variable {k:Nat} {b:Option Nat} {H:List AObj} {lk:Bool} {K:AV→St→Prop}
end Go.Proofs.YtcebebhaahpoiaaDoor
end
section
namespace Go.Proofs.YtcebebhaahpoiaaDoor
open Go Go.Ai Go.W
attribute [local irreducible] VC YC WC
set_option linter.unusedVariables false
set_option maxRecDepth 100000
end Go.Proofs.YtcebebhaahpoiaaDoor
end
section
namespace Go.Proofs.YtcebebhaahpoiaaDoor
open Go Go.Ai Go.W
attribute [local irreducible] VC YC WC
set_option linter.unusedSimpArgs false
set_option linter.unusedVariables false
set_option maxRecDepth 100000
def pm2 (free:Nat→Nat→Bool):Nat→Nat→List Nat→Bool
  | 0,_,_=>true
  | r + 1,s,S=>S.any fun c=>free s c && pm2 free r (s + 1) (wo c S)
def grow (free:Nat→Nat→Bool):Nat→Nat→List Nat→List Nat
  | 0,_,_=>[]
  | r + 1,s,S=>match S.find? (fun c=>free s c && pm2 free r (s + 1) (wo c S)) with
    | none=>[]
    | some c=>c :: grow free r (s + 1) (wo c S)
end Go.Proofs.YtcebebhaahpoiaaDoor
end
section
namespace Go.Proofs.YtcebebhaahpoiaaDoor
open Go Go.Ai Go.W
attribute [local irreducible] VC YC WC
set_option linter.unusedSimpArgs false
set_option linter.unusedVariables false
set_option maxRecDepth 10000
variable {k:Nat} {b:Option Nat} {H:List AObj} {lk:Bool} {K:AV→St→Prop}
end Go.Proofs.YtcebebhaahpoiaaDoor
end
section
namespace Go.Proofs.YtcebebhaahpoiaaDoor
open Go Go.Ai Go.W
attribute [local irreducible] VC YC WC
set_option linter.unusedSimpArgs false
set_option linter.unusedVariables false
def flatP (P:List (Nat × Nat)):List Nat:=P.flatMap fun p=>[p.1,p.2]
def psumN (D:Nat→Nat→Int):List (Nat × Nat)→Int
  | []=>0
  | p :: P=>D p.1 p.2 + psumN D P
theorem psumN_app {D:Nat→Nat→Int}:∀ {P Q:List (Nat × Nat)},psumN D (P ++ Q)=psumN D P + psumN D Q
  | [],Q=>by simp [psumN]
  | p :: P,Q=>by simp -implicitDefEqProofs only [List.cons_append,psumN,psumN_app (P:=P)]; omega
theorem flatP_app {P Q:List (Nat × Nat)}:flatP (P ++ Q)=flatP P ++ flatP Q:=by simp [flatP]
theorem flatP_cons {p:Nat × Nat} {P:List (Nat × Nat)}:flatP (p :: P)=p.1 :: p.2 :: flatP P:=rfl
theorem flatP_len {P:List (Nat × Nat)}:(flatP P).length=2 * P.length:=by
  induction P with
  | nil=>rfl
  | cons p P ih=>rw [flatP_cons]; simp -implicitDefEqProofs only [List.length_cons,ih]; omega
theorem wo_perm {c:Nat} {S:List Nat} (hn:S.Nodup) (hc:c ∈ S):(c :: wo c S).Perm S:=by
  induction S with
  | nil=>cases hc
  | cons a S ih =>
    rw [List.nodup_cons] at hn
    rw [wo_cons]
    by_cases e:a=c
    · subst e
      rw [if_pos rfl,wo_self hn.1]
    · have hcS:c ∈ S:=by
        rcases List.mem_cons.1 hc with h | h
        · exact absurd h.symm e
        · exact h
      rw [if_neg e]
      exact (List.Perm.swap a c _).trans ((ih hn.2 hcS).cons a)
theorem pv_first {D:Nat→Nat→Int} (hD:∀ a c,0≤D a c) {a:Nat} {S:List Nat} {m:Nat} (hn:(a :: S).Nodup) (hl:S.length=2 * m + 1) (hm:m≤31) :
    (pv D (a :: S)).2 ∈ S∧(pv D (wo (pv D (a :: S)).2 S)).1 + D a (pv D (a :: S)).2=(pv D (a :: S)).1∧∀ c,c ∈ S→(pv D (a :: S)).1≤(pv D (wo c S)).1 + D a c:=by
  have hn2:=List.nodup_cons.1 hn
  have hne:S ≠ []:=by rintro rfl; simp at hl
  have h:=pv_cons (D:=D) hn (by simp -implicitDefEqProofs only [List.length_cons]; omega)
  rw [pstep_m] at h
  obtain ⟨l1,l2,g1,g2,_,g4,g5⟩:=fold_first hne (fun c hc=>by
    have:=pv_nonneg hD m (wo c S) (wo_nodup hn2.2) (by have:=wo_len hn2.2 hc; omega) (by omega)
    have:=hD a c
    omega) h.symm
  refine ⟨?_,g2,fun c hc=>?_⟩
  · have h:(pv D (a :: S)).2 ∈ l1 ++ (pv D (a :: S)).2 :: l2:=by simp
    rwa [← g1] at h
  · rw [g1] at hc
    rcases List.mem_append.1 hc with h | h
    · have:=g4 c h; omega
    · rcases List.mem_cons.1 h with h | h
      · rw [h]; omega
      · exact g5 c h
theorem pv_lower {D:Nat→Nat→Int} (hD:∀ a c,0≤D a c) (hs:∀ a c,D a c=D c a):∀ (m:Nat) (S:List Nat) (P:List (Nat × Nat)),S.Nodup→P.length=m→(flatP P).Perm S→m≤32→(pv D S).1≤psumN D P
  | 0,S,P,_,hl,hp,_=>by
    have:P=[]:=List.eq_nil_of_length_eq_zero hl
    subst this
    have:S=[]:=hp.nil_eq.symm
    subst this
    exact Int.le_refl _
  | m + 1,[],P,_,hl,hp,_=>by
    have:=hp.length_eq
    rw [flatP_len] at this
    simp at this
    omega
  | m + 1,a :: S,P,hn,hl,hp,hm=>by
    have hlen:=hp.length_eq
    rw [flatP_len,hl,List.length_cons] at hlen
    have hn2:=List.nodup_cons.1 hn
    obtain ⟨_,_,hmin⟩:=pv_first (m:=m) hD hn (by omega) (by omega)
    have ha:a ∈ flatP P:=hp.symm.subset (by simp)
    obtain ⟨p,hpP,hap⟩:=List.mem_flatMap.1 ha
    obtain ⟨l1,l2,rfl⟩:=List.append_of_mem hpP
    have hsum:psumN D (l1 ++ p :: l2)=D p.1 p.2 + psumN D (l1 ++ l2):=by
      rw [psumN_app,psumN,psumN_app]; omega
    have hpm:(p.1 :: p.2 :: flatP (l1 ++ l2)).Perm (a :: S):=by
      refine List.Perm.trans ?_ hp
      rw [flatP_app,flatP_app,flatP_cons]
      exact (List.perm_middle (l₁:=flatP l1) (a:=p.1) (l₂:=p.2 :: flatP l2)).symm.trans (List.Perm.refl _) |> fun h=>((List.Perm.cons p.1 (List.perm_middle (l₁:=flatP l1) (a:=p.2) (l₂:=flatP l2)).symm)).trans h
    have key:∀ c,(a :: c :: flatP (l1 ++ l2)).Perm (a :: S)→D p.1 p.2=D a c→(pv D (a :: S)).1≤psumN D (l1 ++ p :: l2):=by
      intro c h hd
      have h1:(c :: flatP (l1 ++ l2)).Perm S:=(List.perm_cons a).1 h
      have hcS:c ∈ S:=h1.subset (by simp)
      have h2:(flatP (l1 ++ l2)).Perm (wo c S):=(List.perm_cons c).1 (h1.trans (wo_perm hn2.2 hcS).symm)
      have ih:=pv_lower hD hs m (wo c S) (l1 ++ l2) (wo_nodup hn2.2) (by simp -implicitDefEqProofs only [List.length_append,List.length_cons] at hl ⊢; omega) h2 (by omega)
      have:=hmin c hcS
      rw [hsum,hd]
      omega
    simp -implicitDefEqProofs only [List.mem_cons,List.not_mem_nil,or_false] at hap
    rcases hap with e | e
    · exact key p.2 (by rw [e]; rw [← e]; rw [e]; exact (e ▸ hpm)) (by rw [e])
    · refine key p.1 ?_ (by rw [e]; exact hs _ _)
      rw [e]
      exact (List.Perm.swap _ _ _).trans (e ▸ hpm)
def prN (D:Nat→Nat→Int):Nat→List Nat→List (Nat × Nat)
  | 0,_=>[]
  | _ + 1,[]=>[]
  | r + 1,a :: S=>(a,(pv D (a :: S)).2) :: prN D r (wo (pv D (a :: S)).2 S)
abbrev ipair (p:Nat × Nat):Int × Int:=((p.1:Int),(p.2:Int))
theorem prs_prN {D:Nat→Nat→Int}:∀ {r:Nat} {S:List Nat},prs D r S=(prN D r S).map ipair
  | 0,_=>rfl
  | _ + 1,[]=>rfl
  | r + 1,a :: S=>by simp -implicitDefEqProofs only [prs,prN,List.map_cons,prs_prN (r:=r)]
structure PrOk (D:Nat→Nat→Int) (S:List Nat) (P:List (Nat × Nat)):Prop where
  perm:(flatP P).Perm S
  sum:psumN D P=(pv D S).1
theorem prN_ok {D:Nat→Nat→Int} (hD:∀ a c,0≤D a c):∀ (m r:Nat) (S:List Nat),S.Nodup→S.length=2 * m→m≤r→m≤32→PrOk D S (prN D r S)
  | 0,r,S,_,hl,_,_=>by
    have:S=[]:=List.eq_nil_of_length_eq_zero hl
    subst this
    cases r <;> exact ⟨List.Perm.refl _,rfl⟩
  | m + 1,0,S,_,_,h,_=>by omega
  | m + 1,r + 1,[],_,hl,_,_=>by simp at hl
  | m + 1,r + 1,a :: S,hn,hl,hr,hm=>by
    simp -implicitDefEqProofs only [List.length_cons] at hl
    have hn2:=List.nodup_cons.1 hn
    obtain ⟨g1,g2,_⟩:=pv_first (m:=m) hD hn (by omega) (by omega)
    have ih:=prN_ok hD m r (wo (pv D (a :: S)).2 S) (wo_nodup hn2.2) (by have:=wo_len hn2.2 g1; omega) (by omega) (by omega)
    refine ⟨?_,?_⟩
    · rw [prN,flatP_cons]
      exact ((ih.perm.cons _).trans (wo_perm hn2.2 g1)).cons a
    · rw [prN,psumN,ih.sum]
      dsimp only
      omega
theorem prN_rise {D:Nat→Nat→Int} (hD:∀ a c,0≤D a c):∀ (m r:Nat) (S:List Nat),S.Pairwise (· < ·)→S.length=2 * m→m≤r→m≤32 →
    (∀ p,p ∈ prN D r S→p.1 ∈ S∧p.2 ∈ S∧p.1 < p.2)∧(prN D r S).Pairwise (fun p q=>p.1 < q.1∧p.1 ≠ q.2∧p.2 ≠ q.1∧p.2 ≠ q.2)
  | 0,r,S,_,hl,_,_=>by
    have:S=[]:=List.eq_nil_of_length_eq_zero hl
    subst this
    cases r <;> exact ⟨fun p h=>(by cases h),List.Pairwise.nil⟩
  | m + 1,0,S,_,_,h,_=>by omega
  | m + 1,r + 1,[],_,hl,_,_=>by simp at hl
  | m + 1,r + 1,a :: S,hs,hl,hr,hm=>by
    simp -implicitDefEqProofs only [List.length_cons] at hl
    have hn:(a :: S).Nodup:=hs.imp (fun h=>Nat.ne_of_lt h)
    have hn2:=List.nodup_cons.1 hn
    have hs2:=List.pairwise_cons.1 hs
    obtain ⟨g1,_,_⟩:=pv_first (m:=m) hD hn (by omega) (by omega)
    obtain ⟨i1,i2⟩:=prN_rise hD m r (wo (pv D (a :: S)).2 S) (hs2.2.sublist List.filter_sublist) (by have:=wo_len hn2.2 g1; omega) (by omega) (by omega)
    rw [prN]
    refine ⟨fun p hp=>?_,List.pairwise_cons.2 ⟨fun q hq=>?_,i2⟩⟩
    · rcases List.mem_cons.1 hp with rfl | h
      · exact ⟨by simp,by simp [g1],hs2.1 _ g1⟩
      · obtain ⟨j1,j2,j3⟩:=i1 p h
        exact ⟨by simp [(mem_wo.1 j1).1],by simp [(mem_wo.1 j2).1],j3⟩
    · obtain ⟨j1,j2,j3⟩:=i1 q hq
      have h1:=hs2.1 _ (mem_wo.1 j1).1
      have h2:=hs2.1 _ (mem_wo.1 j2).1
      exact ⟨h1,Nat.ne_of_lt h2,fun e=>(mem_wo.1 j1).2 e.symm,fun e=>(mem_wo.1 j2).2 e.symm⟩
theorem psumN_map {D E:Nat→Nat→Int} {g:Nat→Nat} {S:List Nat} (h:∀ x y,x ∈ S→y ∈ S→E x y=D (g x) (g y)):∀ {P:List (Nat × Nat)},(∀ x,x ∈ flatP P→x ∈ S)→psumN D (P.map fun p=>(g p.1,g p.2))=psumN E P
  | [],_=>rfl
  | p :: P,hP=>by
    rw [flatP_cons] at hP
    simp -implicitDefEqProofs only [List.map_cons,psumN,psumN_map h (P:=P) (fun x hx=>hP x (by simp [hx])),h p.1 p.2 (hP _ (by simp)) (hP _ (by simp))]
theorem flatP_map {g:Nat→Nat} {P:List (Nat × Nat)}:flatP (P.map fun p=>(g p.1,g p.2))=(flatP P).map g:=by
  induction P with
  | nil=>rfl
  | cons p P ih=>simp -implicitDefEqProofs only [List.map_cons,flatP_cons,ih]
theorem pv_map {D E:Nat→Nat→Int} (hD:∀ a c,0≤D a c) (hs:∀ a c,D a c=D c a) (hE:∀ a c,0≤E a c) {n m:Nat} (hn:n=2 * m) (hm:m≤32) {g:Nat→Nat} (hg:((List.range n).map g).Perm (List.range n)) (h:∀ x y,x < n→y < n→E x y=D (g x) (g y)):(pv D (List.range n)).1≤(pv E (List.range n)).1:=by
  have ok:=prN_ok hE m n (List.range n) List.nodup_range (by simp; omega) (by omega) hm
  have hmem:∀ x,x ∈ flatP (prN E n (List.range n))→x ∈ List.range n:=fun x hx=>ok.perm.subset hx
  rw [← ok.sum,← psumN_map (D:=D) (E:=E) (g:=g) (S:=List.range n) (fun x y hx hy=>h x y (List.mem_range.1 hx) (List.mem_range.1 hy)) hmem]
  have hl:(prN E n (List.range n)).length=m:=by
    have:=ok.perm.length_eq
    rw [flatP_len,List.length_range] at this
    omega
  refine pv_lower hD hs m (List.range n) _ List.nodup_range (by simp [hl]) ?_ hm
  rw [flatP_map]
  exact (ok.perm.map g).trans hg
theorem pv_order {D E:Nat→Nat→Int} (hD:∀ a c,0≤D a c) (hDs:∀ a c,D a c=D c a) (hE:∀ a c,0≤E a c) (hEs:∀ a c,E a c=E c a) {n m:Nat} (hn:n=2 * m) (hm:m≤32) {o:List Nat} (ho:o.Perm (List.range n)) (h:∀ x y,x < n→y < n→E x y=D (o.getD x 0) (o.getD y 0)):(pv E (List.range n)).1=(pv D (List.range n)).1:=by
  have hl:o.length=n:=by have:=ho.length_eq; simpa using this
  have hnd:o.Nodup:=ho.nodup_iff.2 List.nodup_range
  have e1:(List.range n).map (fun x=>o.getD x 0)=o:=by
    apply List.ext_getElem
    · simp [hl]
    · intro i h1 h2
      simp [h2]
  have e2:o.map (fun x=>o.idxOf x)=List.range n:=by
    apply List.ext_getElem
    · simp [hl]
    · intro i h1 h2
      simp -implicitDefEqProofs only [List.getElem_map,List.getElem_range]
      exact hnd.idxOf_getElem i _
  have a1:=pv_map hD hDs hE hn hm (g:=fun x=>o.getD x 0) (by rw [e1]; exact ho) h
  have a2:=pv_map hE hEs hD hn hm (g:=fun x=>o.idxOf x) (by
    have:=(ho.map (fun x=>o.idxOf x)).symm
    rw [e2] at this
    exact this) (fun x y hx hy=>by
      have key:∀ x,x < n→o.idxOf x < n∧o.getD (o.idxOf x) 0=x:=by
        intro x hx
        have hxo:x ∈ o:=ho.symm.subset (List.mem_range.2 hx)
        have hlt:=List.idxOf_lt_length_of_mem hxo
        refine ⟨by omega,?_⟩
        rw [List.getD_eq_getElem?_getD,List.getElem?_eq_getElem hlt]
        simp
      obtain ⟨x1,x2⟩:=key x hx
      obtain ⟨y1,y2⟩:=key y hy
      rw [h _ _ x1 y1,x2,y2])
  omega
end Go.Proofs.YtcebebhaahpoiaaDoor
end
section
namespace Go.Proofs.YtcebebhaahpoiaaDoor
open Go Go.Ai Go.W
attribute [local irreducible] VC YC WC
set_option linter.unusedSimpArgs false
set_option linter.unusedVariables false
set_option maxRecDepth 10000
variable {k:Nat} {b:Option Nat} {H:List AObj} {lk:Bool} {K:AV→St→Prop}
abbrev uc (n:Nat):List AV:=[.int .u8 n]
theorem dm_sym {ms:List (Int × Int)} (a c:Nat):dm ms a c=dm ms c a:=by unfold dm diff sz; omega
def gsum (D:Nat→Nat→Int) (o:List Nat):Nat→Int
  | 0=>0
  | j + 1=>gsum D o j + D (o.getD (2 * j) 0) (o.getD (2 * j + 1) 0)
def opairs (o:List Nat) (j:Nat):List (Nat × Nat):=(List.range j).map fun i=>(o.getD (2 * i) 0,o.getD (2 * i + 1) 0)
theorem gsum_psum {D:Nat→Nat→Int} {o:List Nat}:∀ {j:Nat},gsum D o j=psumN D (opairs o j)
  | 0=>rfl
  | j + 1=>by
    have e:opairs o (j + 1)=opairs o j ++ [(o.getD (2 * j) 0,o.getD (2 * j + 1) 0)]:=by unfold opairs; rw [List.range_succ,List.map_append]; rfl
    rw [e,psumN_app,gsum,gsum_psum (j:=j)]
    simp [psumN]
theorem opairs_flat {o:List Nat}:∀ {j:Nat},2 * j≤o.length→flatP (opairs o j)=o.take (2 * j)
  | 0,_=>by simp [opairs,flatP]
  | j + 1,h=>by
    have e:opairs o (j + 1)=opairs o j ++ [(o.getD (2 * j) 0,o.getD (2 * j + 1) 0)]:=by unfold opairs; rw [List.range_succ,List.map_append]; rfl
    have h1:2 * j < o.length:=by omega
    have h2:2 * j + 1 < o.length:=by omega
    rw [e,flatP_app,opairs_flat (j:=j) (by omega),show 2 * (j + 1)=2 * j + 1 + 1 from rfl,← List.take_append_getElem h2,← List.take_append_getElem h1,List.append_assoc]
    congr 1
    simp [flatP,h1,h2]
theorem gsum_le {D:Nat→Nat→Int} {M:Int} (hD:∀ a c,0≤D a c∧D a c≤M) {o:List Nat}:∀ {j:Nat},0≤gsum D o j∧gsum D o j≤j * M
  | 0=>by simp [gsum]
  | j + 1=>by
    have:=gsum_le hD (o:=o) (j:=j)
    have:=hD (o.getD (2 * j) 0) (o.getD (2 * j + 1) 0)
    have e:((j + 1:Nat):Int) * M=j * M + M:=by rw [Int.natCast_add,Int.add_mul]; simp
    rw [gsum,e]
    omega
theorem psumN_le {D:Nat→Nat→Int} {M:Int} (hD:∀ a c,0≤D a c∧D a c≤M):∀ {P:List (Nat × Nat)},0≤psumN D P∧psumN D P≤P.length * M
  | []=>by simp [psumN]
  | p :: P=>by
    have:=psumN_le hD (P:=P)
    have:=hD p.1 p.2
    have e:(((p :: P).length:Nat):Int) * M=P.length * M + M:=by rw [List.length_cons,Int.natCast_add,Int.add_mul]; simp
    rw [psumN,e]
    omega
theorem perm_ins {o:List Nat} {i j:Nat} (h:o.Perm (List.range i)):(o.take j ++ [i] ++ o.drop j).Perm (List.range (i + 1)):=by
  rw [List.range_succ,List.append_assoc,List.singleton_append]
  refine List.perm_middle.trans ?_
  rw [List.take_append_drop]
  exact (h.cons i).trans (List.perm_append_singleton i _).symm
theorem PlantPairs_s (hk:16 ^ 54≤k) {v w:AV} {ms:List (Int × Int)} {bys:List Nat} (hs:∀ H,Sl H 2 kc v ms) (hb:∀ H,Sl H 1 uc w bys) (hb8:∀ n,n ∈ bys→n < 256) (hK:∀ s,K (.bool true) s):VC ⟨prog,k,b⟩ F_q1 [v,w] ⟨H,lk⟩ K:=by
  have e54:(16:Nat) ^ 54=105312291668557186697918027683670432318895095400549111254310977536:=by decide
  have e53:(16:Nat) ^ 53=6582018229284824168619876730229402019930943462534319453394436096:=by decide
  obtain ⟨k,rfl⟩:∃ j,k=j + 1:=⟨k - 1,by omega⟩
  apply q1.enter
  by_cases c1:(20:Int) < ms.length
  · simp -implicitDefEqProofs only [q1.n0_w,sw0,sw1,sw2,sw3,sw4,sw5,reduceCtorEq,Nat.reduceEqDiff,Nat.reduceAdd,Nat.reduceDiv,Nat.reduceLeDiff,(hs H).len,eq_true c1,q1.n1_w]
    refine awake_s (by omega) fun s=>?_
    obtain ⟨G,g⟩:=s
    cases g <;> simp -implicitDefEqProofs only [sw0,sw1,sw2,sw3,sw4,sw5,reduceCtorEq,Nat.reduceEqDiff,Nat.reduceAdd,Nat.reduceDiv,Nat.reduceLeDiff,q1.ret,lv_t,hK]
  have hml:ms.length≤20:=by omega
  have a1:=fun (K:AV→St→Prop)=>Match_s (K:=K) (k:=k) (b:=some H.length) (lk:=false) (by omega) (hs H) (by omega)
  have a2:=fun (K:AV→St→Prop)=>Marks_s (K:=K) (k:=k) (b:=some H.length) (lk:=false) (by omega) (hs H) (by omega)
  simp -implicitDefEqProofs only [q1.n0_w,sw0,sw1,sw2,sw3,sw4,sw5,reduceCtorEq,Nat.reduceEqDiff,Nat.reduceAdd,Nat.reduceDiv,Nat.reduceLeDiff,(hs H).len,eq_false c1,q1.n2_w,a1]
  unfold matchAns
  cases hm:matched ms with
  | false =>
    rw [hm] at a2
    simp -implicitDefEqProofs only [Bool.false_eq_true,if_false,sw0,sw1,sw2,sw3,sw4,sw5,reduceCtorEq,Nat.reduceEqDiff,Nat.reduceAdd,Nat.reduceDiv,Nat.reduceLeDiff,q1.n3_w,a2]
    refine awake_s (by omega) fun s=>?_
    obtain ⟨G,g⟩:=s
    cases g <;> simp -implicitDefEqProofs only [sw0,sw1,sw2,sw3,sw4,sw5,reduceCtorEq,Nat.reduceEqDiff,Nat.reduceAdd,Nat.reduceDiv,Nat.reduceLeDiff,q1.ret,lv_t,hK]
  | true =>
  have hm2:=hm
  simp -implicitDefEqProofs only [matched,Bool.and_eq_true,decide_eq_true_eq] at hm2
  obtain ⟨⟨he,hl16⟩,hok⟩:=hm2
  obtain ⟨m,hmm⟩:∃ m,ms.length=2 * m:=⟨ms.length / 2,by omega⟩
  have hM:=dm_le hok
  have hD:=fun a c=>(hM a c).1
  obtain ⟨P,hP⟩:∃ P,P=prN (dm ms) ms.length (List.range ms.length):=⟨_,rfl⟩
  have pok:=prN_ok hD m ms.length (List.range ms.length) List.nodup_range (by simp [hmm]) (by omega) (by omega)
  obtain ⟨prise,ppw⟩:=prN_rise hD m ms.length (List.range ms.length) (by rw [List.range_eq_range']; exact List.pairwise_lt_range') (by simp [hmm]) (by omega) (by omega)
  rw [← hP] at pok prise ppw
  have hPl:P.length=m:=by
    have:=pok.perm.length_eq
    rw [flatP_len,List.length_range] at this
    omega
  have hpr:prs (dm ms) ms.length (List.range ms.length)=P.map ipair:=by rw [hP,prs_prN]
  obtain ⟨es,hes⟩:∃ es,es=(P.map ipair).map kc:=⟨_,rfl⟩
  have hsP:∀ G,Sl G 2 kc (.slice false 2 es) (P.map ipair):=fun G=>by rw [hes]; exact Sl.val (by omega) kc_len
  have hpl2:(P.map ipair).length=m:=by simp [hPl]
  simp -implicitDefEqProofs only [if_true,sw0,sw1,sw2,sw3,sw4,sw5,reduceCtorEq,Nat.reduceEqDiff,Nat.reduceAdd,Nat.reduceDiv,Nat.reduceLeDiff,hpr,← hes,q1.n4_w]
  refine q1.n5_l (fun j r3 r4 s=>∃ (i ver:Nat) (l:List (Int × AV)),r4=iv i∧r3=iv (psumN (dm ms) (P.take i))∧s=⟨H ++ [.map shI ver (encE iv l)],false⟩∧j=m - i∧i≤m∧∀ x:Nat,(∀ p,p ∈ P.take i→p.1 ≠ x∧p.2 ≠ x)→lkp l (x:Int)=none) m (by simp -implicitDefEqProofs only []; omega)
    ⟨0,0,[],rfl,rfl,rfl,by omega,by omega,fun x _=>rfl⟩ ?_
  rintro j r2 r3 r4 r14 r15 r16 r17 r18 r19 r20 s ⟨i,ver,l,rfl,rfl,rfl,rfl,him,hno⟩
  simp -implicitDefEqProofs only [q1.n6_w,sw0,sw1,sw2,sw3,sw4,sw5,reduceCtorEq,Nat.reduceEqDiff,Nat.reduceAdd,Nat.reduceDiv,Nat.reduceLeDiff,(hsP (H ++ [.map shI ver (encE iv l)])).len,hpl2]
  split
  · rename_i hlt
    have hlt:i < m:=by omega
    have hiP:i < P.length:=by omega
    have hiP2:i < (P.map ipair).length:=by omega
    obtain ⟨p,hp⟩:∃ p,p=P[i]:=⟨_,rfl⟩
    have hpm:p ∈ P:=by rw [hp]; exact List.getElem_mem hiP
    obtain ⟨p1,p2,p3⟩:=prise p hpm
    rw [List.mem_range] at p1 p2
    have hpi:(P.map ipair)[i]=ipair p:=by rw [List.getElem_map,← hp]
    have hprev:∀ q,q ∈ P.take i→q.1 < p.1∧q.1 ≠ p.2∧q.2 ≠ p.1∧q.2 ≠ p.2:=by
      intro q hq
      obtain ⟨j,hj,rfl⟩:=List.getElem_of_mem hq
      rw [List.length_take] at hj
      rw [List.getElem_take,hp]
      exact List.pairwise_iff_getElem.1 ppw j i (by omega) hiP (by omega)
    have hla:lkp l (p.1:Int)=none:=hno p.1 fun q hq=>by have:=hprev q hq; omega
    have hlb:lkp l (p.2:Int)=none:=hno p.2 fun q hq=>by have:=hprev q hq; omega
    have hG:=fun G=>hsP G
    have hat:=fun G=>(hsP G).at' (k:=.i64) hiP2
    have hA0:∀ G i,vIaddr G 1 (some 2) (adr 2 (.slice false 2 es) i 0) (.int .i64 0)=some (adr 2 (.slice false 2 es) i 0):=fun G i=>rfl
    have hA1:∀ G i,vIaddr G 1 (some 2) (adr 2 (.slice false 2 es) i 0) (.int .i64 1)=some (adr 2 (.slice false 2 es) i 1):=fun G i=>rfl
    have hl0:∀ G,ld G none (adr 2 (.slice false 2 es) i 0)=some (iv p.1):=fun G=>by rw [(hsP G).ld hiP2 (by omega),hpi]; rfl
    have hl1:∀ G,ld G none (adr 2 (.slice false 2 es) i 1)=some (iv p.2):=fun G=>by rw [(hsP G).ld hiP2 (by omega),hpi]; rfl
    have hMap:MapAt (H ++ [.map shI ver (encE iv l)]) H.length shI iv l:=⟨ver,by rw [get_end0]; rfl⟩
    have hka:=look_at key_iv hMap (zero:=.bool false) (ok:=false) (p.1:Int)
    have hkb:=look_at key_iv hMap (zero:=.bool false) (ok:=false) (p.2:Int)
    rw [hla] at hka
    rw [hlb] at hkb
    simp -implicitDefEqProofs only [Option.getD_none,Bool.false_eq_true,if_false] at hka hkb
    have d1:¬ (p.1:Int) < 0:=by omega
    have d2:¬ (p.2:Int)≤p.1:=by omega
    have d3:¬ (ms.length:Int)≤p.2:=by omega
    have hslen:=(hs H).len
    have hpa:=(hs H).app (L:=[.map shI ver (encE iv l)])
    have hu1:=upd_at key_iv (H:=H ++ [.map shI ver (encE iv l)]) (c:=H.length) (l:=l) (ver:=ver) (by rw [get_end0]; rfl) (base:=some H.length) (lk:=false) (p.1:Int) (v:=.bool true) rfl
    rw [set_end0,List.set_cons_zero] at hu1
    have hu2:=upd_at key_iv (H:=H ++ [.map shI (ver + 1) (encE iv (ins l (p.1:Int) (.bool true)))]) (c:=H.length) (l:=ins l (p.1:Int) (.bool true)) (ver:=ver + 1) (by rw [get_end0]; rfl) (base:=some H.length) (lk:=false) (p.2:Int) (v:=.bool true) rfl
    rw [set_end0,List.set_cons_zero] at hu2
    have hsa:=fun G=>(hs G).at' (k:=.i64) p1
    have hsb:=fun G=>(hs G).at' (k:=.i64) p2
    have hla2:=fun G=>(hs G).lda p1
    have hlb2:=fun G=>(hs G).lda p2
    have hga:ms.getD p.1 (0,0)=ms[p.1]:=by rw [List.getD_eq_getElem?_getD,List.getElem?_eq_getElem p1]; rfl
    have hgc:ms.getD p.2 (0,0)=ms[p.2]:=by rw [List.getD_eq_getElem?_getD,List.getElem?_eq_getElem p2]; rfl
    have hoa:=okM_at hok p.1
    have hoc:=okM_at hok p.2
    rw [hga] at hoa
    rw [hgc] at hoc
    have hdm:diff ms[p.1] ms[p.2]=dm ms p.1 p.2:=by unfold dm; rw [hga,hgc]
    have hdf:=fun (G:List AObj) (K:AV→St→Prop)=>Differ_s (k:=k) (b:=some H.length) (lk:=false) (H:=G) (K:=K) (q:=ms[p.1]) (w:=ms[p.2]) (by omega) (by omega) (by omega)
    rw [hdm] at hdf
    have hpsum:psumN (dm ms) (P.take (i + 1))=psumN (dm ms) (P.take i) + dm ms p.1 p.2:=by
      rw [← List.take_append_getElem hiP,psumN_app,← hp]; simp [psumN]
    have hpb:=psumN_le hM (P:=P.take i)
    have hpb2:(P.take i).length≤20:=by rw [List.length_take]; omega
    have hpb3:((P.take i).length:Int) * 2000000≤40000000:=by omega
    have hMp:=hM p.1 p.2
    have hws:=wrap64 (n:=psumN (dm ms) (P.take i) + dm ms p.1 p.2) (by omega)
    have hwi:=wrap64 (n:=(i:Int) + 1) (by omega)
    have hno':∀ x:Nat,(∀ q,q ∈ P.take (i + 1)→q.1 ≠ x∧q.2 ≠ x)→lkp (ins (ins l (p.1:Int) (.bool true)) (p.2:Int) (.bool true)) (x:Int)=none:=by
      intro x hx
      rw [← List.take_append_getElem hiP,← hp] at hx
      have h1:=hx p (by simp)
      rw [lkp_ins,if_neg (by omega),lkp_ins,if_neg (by omega)]
      exact hno x fun q hq=>hx q (by simp [hq])
    by_cases d4:(0:Int) < i
    · have hi1:i - 1 < (P.map ipair).length:=by omega
      have hw:IntKind.i64.wrap ((i:Int) - 1)=((i - 1:Nat):Int):=by rw [wrap64 (by omega)]; omega
      have hatp:=fun G=>(hsP G).at' (k:=.i64) hi1
      have hl0p:∀ G,ld G none (adr 2 (.slice false 2 es) (i - 1) 0)=some (iv (P[i - 1]'(by omega)).1):=fun G=>by rw [(hsP G).ld hi1 (by omega),List.getElem_map]; rfl
      have hq:=hprev (P[i - 1]'(by omega)) (by
        rw [List.mem_iff_getElem]
        exact ⟨i - 1,by rw [List.length_take]; omega,by rw [List.getElem_take]⟩)
      have d5:¬ (p.1:Int)≤(P[i - 1]'(by omega)).1:=by omega
      simp -implicitDefEqProofs only [q1.n8_w,sw0,sw1,sw2,sw3,sw4,sw5,reduceCtorEq,Nat.reduceEqDiff,Nat.reduceAdd,Nat.reduceDiv,Nat.reduceLeDiff,hat,hA0,hA1,hl0,hl1,d1,d2,d3,d4,hslen,hka,hkb,gO_u,hw,hatp,hl0p,d5]
      simp -implicitDefEqProofs only [q1.n10_w,sw0,sw1,sw2,sw3,sw4,sw5,reduceCtorEq,Nat.reduceEqDiff,Nat.reduceAdd,Nat.reduceDiv,Nat.reduceLeDiff,hu1,hu2,hsa,hsb,hla2,hlb2,hdf,hws,q1.n11_w,hwi]
      exact q1.n5_go (m':=m - (i + 1)) (by omega) ⟨i + 1,ver + 1 + 1,ins (ins l (p.1:Int) (.bool true)) (p.2:Int) (.bool true),rfl,by rw [hpsum],rfl,rfl,by omega,hno'⟩
    · simp -implicitDefEqProofs only [q1.n8_w,sw0,sw1,sw2,sw3,sw4,sw5,reduceCtorEq,Nat.reduceEqDiff,Nat.reduceAdd,Nat.reduceDiv,Nat.reduceLeDiff,hat,hA0,hA1,hl0,hl1,d1,d2,d3,d4,hslen,hka,hkb,gO_u]
      simp -implicitDefEqProofs only [q1.n10_w,sw0,sw1,sw2,sw3,sw4,sw5,reduceCtorEq,Nat.reduceEqDiff,Nat.reduceAdd,Nat.reduceDiv,Nat.reduceLeDiff,hu1,hu2,hsa,hsb,hla2,hlb2,hdf,hws,q1.n11_w,hwi]
      exact q1.n5_go (m':=m - (i + 1)) (by omega) ⟨i + 1,ver + 1 + 1,ins (ins l (p.1:Int) (.bool true)) (p.2:Int) (.bool true),rfl,by rw [hpsum],rfl,rfl,by omega,hno'⟩
  · have him':i=m:=by omega
    subst him'
    rw [← hPl,List.take_length,pok.sum]
    have hw2:IntKind.i64.wrap (2 * (i:Int))=(ms.length:Int):=by rw [wrap64 (by omega)]; omega
    have hsl:=fun G=>(hs G).len
    simp -implicitDefEqProofs only [q1.n12_w,sw0,sw1,sw2,sw3,sw4,sw5,reduceCtorEq,Nat.reduceEqDiff,Nat.reduceAdd,Nat.reduceDiv,Nat.reduceLeDiff,(hsP (H ++ [.map shI ver (encE iv l)])).len,hpl2,hw2,(hs H).len,q1.n14_w]
    refine q1.n15_l (fun j r5 r6 s=>∃ (i:Nat) (o:List Nat) (X:List AObj),r6=iv i∧s=⟨H ++ X,false⟩∧j=ms.length - i∧i≤ms.length∧o.Perm (List.range i)∧SI (H ++ X) r5 (nint o)) ms.length (by simp -implicitDefEqProofs only []; omega)
      ⟨0,[],_,rfl,rfl,by omega,by omega,List.Perm.refl _,⟨Nat.one_pos,ic_len,.inr ⟨H.length + 1,0,0,[],rfl,by simp -implicitDefEqProofs only [sw0,sw1,sw2,sw3,sw4,sw5,reduceCtorEq,Nat.reduceEqDiff,Nat.reduceAdd,Nat.reduceDiv,Nat.reduceLeDiff],rfl⟩⟩⟩ ?_
    clear hno ver l
    rintro j r5 r6 r7 r11 r12 s ⟨i2,o,X,rfl,rfl,rfl,hi2,hperm,ho⟩
    have hol:o.length=i2:=by have:=hperm.length_eq; simpa using this
    have hol2:(nint o).length=i2:=by simp [hol]
    simp -implicitDefEqProofs only [q1.n16_w,sw0,sw1,sw2,sw3,sw4,sw5,reduceCtorEq,Nat.reduceEqDiff,Nat.reduceAdd,Nat.reduceDiv,Nat.reduceLeDiff,(hs H).len]
    split
    · rename_i hlt
      have hlt:i2 < ms.length:=by omega
      have hwi:=wrap64 (n:=(i2:Int) + 1) (by omega)
      simp -implicitDefEqProofs only [q1.n18_w,sw0,sw1,sw2,sw3,sw4,sw5,reduceCtorEq,Nat.reduceEqDiff,Nat.reduceAdd,Nat.reduceDiv,Nat.reduceLeDiff,(hb H).len]
      by_cases d1:(0:Int) < bys.length
      · have d1':¬ (bys.length:Int)=0:=by omega
        have hix:i2 % bys.length < bys.length:=Nat.mod_lt _ (by omega)
        have ht:(i2:Int).tmod (bys.length:Int)=((i2 % bys.length:Nat):Int):=(Int.ofNat_tmod _ _).symm
        have hb256:=hb8 _ (List.getElem_mem hix)
        have hcv:=wrap64 (n:=((bys[i2 % bys.length]:Nat):Int)) (by omega)
        have ht2:((bys[i2 % bys.length]:Nat):Int).tmod ((i2 + 1:Nat):Int)=((bys[i2 % bys.length] % (i2 + 1):Nat):Int):=(Int.ofNat_tmod _ _).symm
        have hc1:(i2:Int) + 1=((i2 + 1:Nat):Int):=rfl
        have hwi2:=wrap64 (n:=((i2 + 1:Nat):Int)) (by omega)
        have hn1:¬ ((i2 + 1:Nat):Int)=0:=by omega
        obtain ⟨at_,hat_⟩:∃ a,a=bys[i2 % bys.length] % (i2 + 1):=⟨_,rfl⟩
        have hatl:at_≤i2:=by have:=Nat.mod_lt bys[i2 % bys.length] (show 0 < i2 + 1 by omega); omega
        simp -implicitDefEqProofs only [eq_true d1,sw0,sw1,sw2,sw3,sw4,sw5,reduceCtorEq,Nat.reduceEqDiff,Nat.reduceAdd,Nat.reduceDiv,Nat.reduceLeDiff,q1.n19_w,(hb H).len,eq_false d1',ht,(hb (H ++ X)).at',hix,(hb (H ++ X)).ld hix (show 0 < 1 by omega),uc,hcv,ho.len,hol2,hc1,hwi2,eq_false hn1,ht2,← hat_]
        have hbA:boundsOf (nint o).length none (some (AV.int .i64 (at_:Int)))=some (0,at_):=bnd_oh (by omega)
        have hbB:boundsOf (nint o).length (some (AV.int .i64 (at_:Int))) none=some (at_,(nint o).length):=bnd_lo (by omega)
        obtain ⟨y1,hy1,hY1⟩:=ho.slc hbA
        obtain ⟨w1,X1,ha1,ho1,_⟩:=(Own.nil (H:=H ++ X) (X:=[]) (f:=ic) (z:=1) Nat.one_pos ic_len).app (lk:=false) (m:=H.length) (y:=y1) (bytes:=8) (by simp) (hY1.app (L:=[])).rowOf ic_one (by simp; omega)
        have hsx:SI (H ++ X ++ X1) (.slice true 1 [[iv (i2:Int)]]) [(i2:Int)]:=Sl.lit Nat.one_pos ic_len rfl
        obtain ⟨w2,X2,ha2,ho2,_⟩:=ho1.app (lk:=false) (m:=H.length) (y:=.slice true 1 [[iv (i2:Int)]]) (bytes:=8) (by simp) hsx.rowOf ic_one (by simp; omega)
        obtain ⟨y3,hy3,hY3⟩:=ho.slc hbB
        have hy3':=slc_app (L:=X2) hy3
        obtain ⟨w3,X3,ha3,ho3,_⟩:=ho2.app (lk:=false) (m:=H.length) (y:=y3) (bytes:=8) (by simp) (hY3.app (L:=X2)).rowOf ic_one (by simp; omega)
        simp -implicitDefEqProofs only [List.nil_append,List.append_nil,List.append_assoc] at ha1 ha2 ha3 hy3'
        simp -implicitDefEqProofs only [q1.n20_w,sw0,sw1,sw2,sw3,sw4,sw5,reduceCtorEq,Nat.reduceEqDiff,Nat.reduceAdd,Nat.reduceDiv,Nat.reduceLeDiff,hy1,ha1,ha2,hy3',ha3,Option.map_some,Option.map_none,q1.n21_w,hwi]
        have hfin:SI (H ++ (X ++ X3)) w3 (nint (o.take at_ ++ [i2] ++ o.drop at_)):=by
          have h9:=ho3.sl
          rw [List.append_assoc] at h9
          have e:nint (o.take at_ ++ [i2] ++ o.drop at_)=[] ++ ((nint o).take at_).drop 0 ++ [(i2:Int)] ++ ((nint o).take (nint o).length).drop at_:=by
            rw [List.take_length]; simp [List.map_take,List.map_drop]
          rw [e]
          exact h9
        exact q1.n15_go (m':=ms.length - (i2 + 1)) (by omega) ⟨i2 + 1,o.take at_ ++ [i2] ++ o.drop at_,X ++ X3,rfl,rfl,rfl,by omega,perm_ins hperm,hfin⟩
      · obtain ⟨at_,hat_⟩:∃ a:Nat,a=0:=⟨_,rfl⟩
        have hatl:at_≤i2:=by omega
        have hbA:boundsOf (nint o).length none (some (AV.int .i64 0))=some (0,at_):=by rw [hat_]; exact bnd_oh (u:=0) (by omega)
        have hbB:boundsOf (nint o).length (some (AV.int .i64 0)) none=some (at_,(nint o).length):=by rw [hat_]; exact bnd_lo (l:=0) (by omega)
        simp -implicitDefEqProofs only [eq_false d1,sw0,sw1,sw2,sw3,sw4,sw5,reduceCtorEq,Nat.reduceEqDiff,Nat.reduceAdd,Nat.reduceDiv,Nat.reduceLeDiff]
        obtain ⟨y1,hy1,hY1⟩:=ho.slc hbA
        obtain ⟨w1,X1,ha1,ho1,_⟩:=(Own.nil (H:=H ++ X) (X:=[]) (f:=ic) (z:=1) Nat.one_pos ic_len).app (lk:=false) (m:=H.length) (y:=y1) (bytes:=8) (by simp) (hY1.app (L:=[])).rowOf ic_one (by simp; omega)
        have hsx:SI (H ++ X ++ X1) (.slice true 1 [[iv (i2:Int)]]) [(i2:Int)]:=Sl.lit Nat.one_pos ic_len rfl
        obtain ⟨w2,X2,ha2,ho2,_⟩:=ho1.app (lk:=false) (m:=H.length) (y:=.slice true 1 [[iv (i2:Int)]]) (bytes:=8) (by simp) hsx.rowOf ic_one (by simp; omega)
        obtain ⟨y3,hy3,hY3⟩:=ho.slc hbB
        have hy3':=slc_app (L:=X2) hy3
        obtain ⟨w3,X3,ha3,ho3,_⟩:=ho2.app (lk:=false) (m:=H.length) (y:=y3) (bytes:=8) (by simp) (hY3.app (L:=X2)).rowOf ic_one (by simp; omega)
        simp -implicitDefEqProofs only [List.nil_append,List.append_nil,List.append_assoc] at ha1 ha2 ha3 hy3'
        simp -implicitDefEqProofs only [q1.n20_w,sw0,sw1,sw2,sw3,sw4,sw5,reduceCtorEq,Nat.reduceEqDiff,Nat.reduceAdd,Nat.reduceDiv,Nat.reduceLeDiff,hy1,ha1,ha2,hy3',ha3,Option.map_some,Option.map_none,q1.n21_w,hwi]
        have hfin:SI (H ++ (X ++ X3)) w3 (nint (o.take at_ ++ [i2] ++ o.drop at_)):=by
          have h9:=ho3.sl
          rw [List.append_assoc] at h9
          have e:nint (o.take at_ ++ [i2] ++ o.drop at_)=[] ++ ((nint o).take at_).drop 0 ++ [(i2:Int)] ++ ((nint o).take (nint o).length).drop at_:=by
            rw [List.take_length]; simp [List.map_take,List.map_drop]
          rw [e]
          exact h9
        exact q1.n15_go (m':=ms.length - (i2 + 1)) (by omega) ⟨i2 + 1,o.take at_ ++ [i2] ++ o.drop at_,X ++ X3,rfl,rfl,rfl,by omega,perm_ins hperm,hfin⟩
    · have hi3:i2=ms.length:=by omega
      subst hi3
      obtain ⟨T,hT⟩:∃ T:List (Int × Int),T=o.map fun x=>ms.getD x (0,0):=⟨_,rfl⟩
      have hTl:T.length=ms.length:=by rw [hT]; simp [hol]
      have hon:∀ i (h:i < o.length),o[i] < ms.length:=fun i h=>List.mem_range.1 (hperm.subset (List.getElem_mem h))
      have hTi:∀ i (h:i < o.length),T[i]?=some (ms[o[i]]'(hon i h)):=by
        intro i h
        rw [hT,List.getElem?_map,List.getElem?_eq_getElem h]
        simp [hon i h]
      simp -implicitDefEqProofs only [q1.n22_w,sw0,sw1,sw2,sw3,sw4,sw5,reduceCtorEq,Nat.reduceEqDiff,Nat.reduceAdd,Nat.reduceDiv,Nat.reduceLeDiff]
      refine q1.n23_l (fun j r8 r9 r10 s=>∃ i:Nat,r10=iv i∧r8=iv (gsum (dm ms) o (i / 2))∧r9=.sref (H.length + X.length) 0 i (i * 2) 2∧s=⟨H ++ (X ++ [.cells ((T.take i).map kc).flatten]),false⟩∧j=ms.length - i∧i≤ms.length) ms.length (by simp -implicitDefEqProofs only []; omega)
        ⟨0,rfl,rfl,rfl,rfl,by omega,by omega⟩ ?_
      rintro j r1 r8 r9 r10 r11 s ⟨i,rfl,rfl,rfl,rfl,rfl,hi⟩
      have hoX:SI (H ++ (X ++ [.cells ((T.take i).map kc).flatten])) r5 (nint o):=by
        have:=ho.app (L:=[.cells ((T.take i).map kc).flatten])
        rwa [List.append_assoc] at this
      have hTk:(T.take i).length=i:=by rw [List.length_take]; omega
      simp -implicitDefEqProofs only [q1.n24_w,sw0,sw1,sw2,sw3,sw4,sw5,reduceCtorEq,Nat.reduceEqDiff,Nat.reduceAdd,Nat.reduceDiv,Nat.reduceLeDiff,hoX.len,hol2]
      split
      · rename_i hlt3
        have hlt3:i < ms.length:=by omega
        have hio:i < o.length:=by omega
        have hin:i < (nint o).length:=by omega
        have hoi:=hon i hio
        have hve:(nint o)[i]=((o[i]:Nat):Int):=by simp
        have happ:=app_own (base:=some H.length) (lk:=false) (fl:=true) (bytes:=16) (xs:=T.take i) (x:=ms[o[i]]) (f:=kc) (n:=2) (c:=H.length + X.length) (H:=H ++ (X ++ [.cells ((T.take i).map kc).flatten])) (by omega) kc_len (kc_one _) (kc_clean _) rfl (by simp -implicitDefEqProofs only [sw0,sw1,sw2,sw3,sw4,sw5,reduceCtorEq,Nat.reduceEqDiff,Nat.reduceAdd,Nat.reduceDiv,Nat.reduceLeDiff,row_hd,flat_len kc_len]) (by omega)
        rw [hTk] at happ
        have hT1:T.take i ++ [ms[o[i]]]=T.take (i + 1):=by
          rw [← List.take_append_getElem (show i < T.length by omega)]
          congr 2
          have:=hTi i hio
          rw [List.getElem?_eq_getElem (show i < T.length by omega)] at this
          simpa using this.symm
        rw [hT1] at happ
        have htm:(i:Int).tmod 2=((i % 2:Nat):Int):=(Int.ofNat_tmod _ 2).symm
        have hz2:¬ (2:Int)=0:=by omega
        have hwi:=wrap64 (n:=(i:Int) + 1) (by omega)
        have hgl:=gsum_le hM (o:=o) (j:=i / 2)
        simp -implicitDefEqProofs only [kc] at happ
        simp -implicitDefEqProofs only [q1.n26_w,sw0,sw1,sw2,sw3,sw4,sw5,reduceCtorEq,Nat.reduceEqDiff,Nat.reduceAdd,Nat.reduceDiv,Nat.reduceLeDiff,hoX.at',hin,hoX.ld hin (show 0 < 1 by omega),ic,hve,(hs (H ++ (X ++ [.cells ((T.take i).map kc).flatten]))).at',hoi,(hs (H ++ (X ++ [.cells ((T.take i).map kc).flatten]))).lda hoi,kc,happ,htm,hz2]
        by_cases d1:i % 2=1
        · have d1':((i % 2:Nat):Int)=1:=by omega
          have hi1:i - 1 < (nint o).length:=by omega
          have hio1:i - 1 < o.length:=by omega
          have hoi1:=hon (i - 1) hio1
          have hve1:(nint o)[i - 1]=((o[i - 1]:Nat):Int):=by simp
          have hw1:IntKind.i64.wrap ((i:Int) - 1)=((i - 1:Nat):Int):=by rw [wrap64 (by omega)]; omega
          have hoX':SI (H ++ (X ++ [.cells ((T.take (i + 1)).map kc).flatten])) r5 (nint o):=by
            have:=ho.app (L:=[.cells ((T.take (i + 1)).map kc).flatten])
            rwa [List.append_assoc] at this
          have hga:ms.getD o[i - 1] (0,0)=ms[o[i - 1]]:=by rw [List.getD_eq_getElem?_getD,List.getElem?_eq_getElem hoi1]; rfl
          have hgc:ms.getD o[i] (0,0)=ms[o[i]]:=by rw [List.getD_eq_getElem?_getD,List.getElem?_eq_getElem hoi]; rfl
          have hoa:=okM_at hok o[i - 1]
          have hoc:=okM_at hok o[i]
          rw [hga] at hoa
          rw [hgc] at hoc
          have hdm:diff ms[o[i - 1]] ms[o[i]]=dm ms o[i - 1] o[i]:=by unfold dm; rw [hga,hgc]
          have hdf:=fun (G:List AObj) (K:AV→St→Prop)=>Differ_s (k:=k) (b:=some H.length) (lk:=false) (H:=G) (K:=K) (q:=ms[o[i - 1]]) (w:=ms[o[i]]) (by omega) (by omega) (by omega)
          rw [hdm] at hdf
          simp -implicitDefEqProofs only [kc] at hdf
          have hMp:=hM o[i - 1] o[i]
          have hgs:gsum (dm ms) o ((i + 1) / 2)=gsum (dm ms) o (i / 2) + dm ms o[i - 1] o[i]:=by
            rw [show (i + 1) / 2=i / 2 + 1 by omega,gsum,show 2 * (i / 2)=i - 1 by omega,show i - 1 + 1=i by omega,List.getD_eq_getElem?_getD,List.getD_eq_getElem?_getD,List.getElem?_eq_getElem hio1,List.getElem?_eq_getElem hio]
            rfl
          have hwg:=wrap64 (n:=gsum (dm ms) o (i / 2) + dm ms o[i - 1] o[i]) (by
            have:((i / 2:Nat):Int)≤20:=by omega
            have:((i / 2:Nat):Int) * 2000000≤40000000:=by omega
            omega)
          simp -implicitDefEqProofs only [eq_true d1',sw0,sw1,sw2,sw3,sw4,sw5,reduceCtorEq,Nat.reduceEqDiff,Nat.reduceAdd,Nat.reduceDiv,Nat.reduceLeDiff,q1.n27_w,hw1,hoX'.at',hi1,hin,hoX'.ld hi1 (show 0 < 1 by omega),hoX'.ld hin (show 0 < 1 by omega),ic,hve,hve1,(hs (H ++ (X ++ [.cells ((T.take (i + 1)).map kc).flatten]))).at',hoi,hoi1,(hs (H ++ (X ++ [.cells ((T.take (i + 1)).map kc).flatten]))).lda hoi,(hs (H ++ (X ++ [.cells ((T.take (i + 1)).map kc).flatten]))).lda hoi1,kc,hdf,hwg,q1.n28_w,hwi]
          exact q1.n23_go (m':=ms.length - (i + 1)) (by omega) ⟨i + 1,rfl,by rw [hgs],rfl,rfl,rfl,by omega⟩
        · have d1':¬ ((i % 2:Nat):Int)=1:=by omega
          have hgs:gsum (dm ms) o ((i + 1) / 2)=gsum (dm ms) o (i / 2):=by rw [show (i + 1) / 2=i / 2 by omega]
          simp -implicitDefEqProofs only [eq_false d1',sw0,sw1,sw2,sw3,sw4,sw5,reduceCtorEq,Nat.reduceEqDiff,Nat.reduceAdd,Nat.reduceDiv,Nat.reduceLeDiff,q1.n28_w,hwi]
          exact q1.n23_go (m':=ms.length - (i + 1)) (by omega) ⟨i + 1,rfl,by rw [hgs],rfl,rfl,rfl,by omega⟩
      · have hie:i=ms.length:=by omega
        subst hie
        rw [← hTl,List.take_length,hTl]
        have hTS:Sl (H ++ (X ++ [.cells (T.map kc).flatten])) 2 kc (.sref (H.length + X.length) 0 ms.length (ms.length * 2) 2) T:=by
          refine ⟨by omega,kc_len,.inr ⟨_,0,_,(T.map kc).flatten,by rw [hTl],?_,?_⟩⟩
          · simp -implicitDefEqProofs only [sw0,sw1,sw2,sw3,sw4,sw5,reduceCtorEq,Nat.reduceEqDiff,Nat.reduceAdd,Nat.reduceDiv,Nat.reduceLeDiff,row_hd,flat_len kc_len,hTl]
          · rw [List.drop_zero,← flat_len kc_len T,List.take_length]
        have hTok:okM T=true:=by
          unfold okM
          rw [List.all_eq_true]
          intro x hx
          rw [hT] at hx
          obtain ⟨y,_,rfl⟩:=List.mem_map.1 hx
          have:=okM_at hok y
          simp -implicitDefEqProofs only [amt,Bool.and_eq_true,decide_eq_true_eq]
          omega
        have hTm:matched T=true:=by
          unfold matched
          rw [hTok,Bool.and_true,decide_eq_true (by omega)]
        have hTD:∀ x y,x < ms.length→y < ms.length→dm T x y=dm ms (o.getD x 0) (o.getD y 0):=by
          intro x y hx hy
          have e:∀ x,x < ms.length→T.getD x (0,0)=ms.getD (o.getD x 0) (0,0):=by
            intro x hx
            rw [hT,List.getD_eq_getElem?_getD,List.getElem?_map,List.getD_eq_getElem?_getD (l:=o),List.getElem?_eq_getElem (show x < o.length by omega)]
            rfl
          unfold dm
          rw [e x hx,e y hy]
        have hTpv:=pv_order (D:=dm ms) (E:=dm T) hD dm_sym (fun a c=>(dm_le hTok a c).1) dm_sym hmm (by omega) hperm hTD
        have a9:=fun (K:AV→St→Prop)=>Match_s (K:=K) (k:=k) (b:=some H.length) (lk:=false) (by omega) hTS (by omega)
        have hans:∃ u,matchAns T=[u,iv (pv (dm ms) (List.range ms.length)).1,iv 0]:=by
          unfold matchAns
          rw [if_pos hTm,hTl,hTpv]
          exact ⟨_,rfl⟩
        obtain ⟨u,hans⟩:=hans
        rw [hans] at a9
        have hge:(pv (dm ms) (List.range ms.length)).1≤gsum (dm ms) o (ms.length / 2):=by
          rw [gsum_psum]
          refine pv_lower hD dm_sym (ms.length / 2) (List.range ms.length) _ List.nodup_range (by simp [opairs]) ?_ (by omega)
          rw [opairs_flat (by omega),show 2 * (ms.length / 2)=o.length by omega,List.take_length]
          exact hperm
        simp -implicitDefEqProofs only [q1.n29_w,sw0,sw1,sw2,sw3,sw4,sw5,reduceCtorEq,Nat.reduceEqDiff,Nat.reduceAdd,Nat.reduceDiv,Nat.reduceLeDiff,a9,hge]
        refine awake_s (by omega) fun s=>?_
        obtain ⟨G,g⟩:=s
        cases g <;> simp -implicitDefEqProofs only [sw0,sw1,sw2,sw3,sw4,sw5,reduceCtorEq,Nat.reduceEqDiff,Nat.reduceAdd,Nat.reduceDiv,Nat.reduceLeDiff,q1.ret,lv_t,hK]
end Go.Proofs.YtcebebhaahpoiaaDoor
end
section
namespace Go.Proofs.YtcebebhaahpoiaaDoor
open Go Go.Ai Go.W Go.RowKit Go.ChangeShapes Go.WideShapes Go.ChangeAt Go.Lib
set_option maxRecDepth 100000
theorem plantpairs_law (xs:List AV) (hl:xs.length=Tryd.f6.params.toList.length) (hx:∀ (j:Nat) t x,Tryd.f6.params.toList[j]?=some t→xs[j]?=some x→Arg Tryd.prog 8 t x) :
    ∃ k,(ev prog k (.fn 6) xs ⟨[],false⟩).All fun p=>p.1=.val (.bool true):=by
  have hl2:xs.length=2:=hl
  match xs,hl2 with
  | [a,b],_ =>
    obtain ⟨l,hl⟩:=arg_marks (hx 0 42 a rfl rfl)
    obtain ⟨m,hm,hm2⟩:=arg_u8s (hx 1 32 b rfl rfl)
    refine ⟨16 ^ 54,?_⟩
    have h:=PlantPairs_s (k:=16 ^ 54) (b:=none) (H:=[]) (lk:=false) (K:=fun v _=>v=.bool true) (Nat.le_refl _) hl hm2 hm (fun _=>rfl)
    unfold VC at h
    refine Res.All.mono (fun r hr=>?_) h
    obtain ⟨v,s⟩:=r
    cases v with
    | val v=>exact congrArg _ hr
    | panic v=>exact hr.elim
theorem plantpairs_lifted (os:Os) (started:os.Started) (X:Type) (enc:TypeId × Value→X) :
    ReturnsInHanded {} Tryd.checked os 6 .any (fun w args=>(Rows.plantPairsSpec.pre enc Tryd.prog Tryd.f6 [] false w args∧laidMetH Tryd.prog laidL w)∧sizedMet enc Tryd.prog Tryd.f6 (OpenSpec.ofChange Rows.plantPairsSpec) false w args)
      (Rows.plantPairsSpec.post enc Tryd.prog Tryd.f6 false true false false):=by
  refine returnsInHanded_of_change_and (C:=Tryd.checked) (X:=fun w _=>laidMetH Tryd.prog laidL w) (fun _ _ _ hh h=>h.of_heap hh) own started (by kernel_rfl) Tryd.func6
    (ChangeSpec.witness_shaped (enc:=enc) (C:=Tryd.checked) (os:=os) (X:=fun w _=>laidMetH Tryd.prog laidL w) false (World.laidAll Tryd.prog os laidL) #[.slice none 0 0,.slice none 0 0] 8 (World.laidAll_os _ _ _)
      (World.shaped_of_ZipB (by kernel_rfl) (by kernel_rfl)) (by kernel_rfl) (by kernel_rfl) (by kernel_rfl)
      (by rw [MakeChecks.laidMetH_plain _ _ _ (by kernel_rfl)]; exact laidMet_laidAll _ (by kernel_rfl) (by kernel_rfl))) ?_
  intro W base args ds gs before hval0 hW _ _ hL _
  have hval:∀ (j:Nat) t v,Tryd.f6.params.toList[j]?=some t→args.toList[j]?=some v→Value.okWide Tryd.prog W .any base t v:=fun j t v h1 h2=>hval0 j t v (by simpa using h1) (by simpa using h2)
  have hW':=hW
  obtain ⟨p,q,hA0,hV,rfl,_,_⟩:=hW
  have hA:DataW.TrodAll enc Tryd.prog W 0 (fun _=>true) true Tryd.f6.params.toList args.toList ds p:=hA0
  obtain ⟨rfl,rfl⟩:=trodVars_none hV
  rw [MakeChecks.laidMetH_plain _ _ _ (by kernel_rfl)] at hL
  obtain ⟨o,ho,hTab⟩:=tab_of_laid hL
  have hpl:(Tryd.f6.params.toList.all fun t=>plainT Tryd.prog 8 t)=true:=by kernel_rfl
  obtain ⟨xs,hLR,hxl,hxa⟩:=read_args (d:=8) hA hval (fun t ht=>List.all_eq_true.1 hpl t ht)
  obtain ⟨k,hk⟩:=plantpairs_law xs hxl hxa
  have hrd:(Tryd.f6.params.toList.all fun t=>Tryd.prog.readableRec t && decide (t < Tryd.prog.types.size))=true:=by kernel_rfl
  have hlen:ds.length=2:=(trodAll_len hA).trans (by kernel_rfl)
  have hcall:=law_call (progOK hTab) mixedP k 6 W args.toList xs hLR (fun p hp=>by simp -implicitDefEqProofs only [List.mem_singleton] at hp; subst hp; exact ho) hk
  refine hcall.mono fun e W' ⟨he,hb⟩=>⟨_,he,?_⟩
  refine post_of_law laidOutP (fun t ht=>by have:=List.all_eq_true.1 hrd t ht; simp -implicitDefEqProofs only [Bool.and_eq_true,decide_eq_true_eq] at this; exact this) (tb:=4) (by kernel_rfl) Tryd.underlying4 rfl hW' ?_ hb
  match ds,hlen with
  | [d1,d2],_=>exact ⟨rfl,rfl,rfl⟩
theorem plantpairs_holds:Rows.PlantPairsSaid :=
  OpenClaim.holds_of_wide 6 Tryd.f6 rfl rfl rfl rfl rfl rfl rfl ⟨rfl,rfl,rfl,rfl,rfl⟩ rfl rfl rfl rfl rfl (by kernel_rfl) Tryd.func6 (by kernel_rfl)
    (of_decide_eq_true (by kernel_rfl)) (by unfold Func.isWrapper; first | (rw [if_pos (by decide +kernel)]; kernel_rfl) | (rw [if_neg (by decide +kernel)]; exact ⟨rfl,rfl⟩))
    (fun os started H enc _=>plantpairs_lifted os started H enc)
theorem plantpairs_card:Rows.PlantPairsCardSaid :=
  Claim7.holds_tied_plain_at .later [] [.data, .data] true (true, "98e795a669b5da70fd090277ed8c58b8aa4305f620608e823b1754817605947f") false plantpairs_holds (fun _ h => by cases h) (by kernel_rfl) (fun _ h => by cases h) plantPairs_row_tie rfl ⟨rfl, rfl⟩ (by kernel_rfl) rfl
    (fun f fn hf hfn=>by
      obtain rfl : f = 6 := Option.some.inj ((show Tryd.prog.funcNamed "besom/besomlaw12.PlantPairs" = some 6 by kernel_rfl).symm.trans hf) |>.symm
      obtain rfl:fn=Tryd.f6:=(Option.some.inj (Tryd.func6.symm.trans hfn)).symm
      exact ⟨by kernel_rfl,fun j t ht=>by
        have hall:(Tryd.f6.params.toList.all fun u=>!Tryd.prog.wantsStandIn u)=true:=by kernel_rfl
        have hm:t ∈ Tryd.f6.params.toList:=by simpa using Array.mem_of_getElem? ht
        exact (show Tryd.prog.wantsStandIn t=false by simpa using List.all_eq_true.1 hall t hm)⟩)
    (by kernel_rfl)
end Go.Proofs.YtcebebhaahpoiaaDoor
end
#print axioms Go.Proofs.YtcebebhaahpoiaaDoor.plantpairs_card
