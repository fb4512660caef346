/- PlantTurns: for all sets and blocks the law answers true and turns nothing, with no condition. Part 5 of 5. -/
import Derived.KernelRfl
import Derived.Test.YtcebebhaahpoiaaDoorT4
set_option maxHeartbeats 2000000
set_option linter.unusedSimpArgs false
set_option linter.unusedVariables false
set_option linter.deprecated false
set_option linter.all false
section
namespace Go.Proofs.YtcebebhaahpoiaaDoor
open Go Go.Ai Go.W
attribute [local irreducible] VC YC WC
set_option linter.unusedSimpArgs false
set_option linter.unusedVariables false
set_option maxRecDepth 10000
variable {k:Nat} {b:Option Nat} {H:List AObj} {lk:Bool} {K:AV→St→Prop}
def jA:List (Int × Int × Int):=[(0,0,3),(1,0,2),(2,1,2)]
abbrev vA:AV:=.slice true 3 [[iv 0,iv 0,iv 3],[iv 1,iv 0,iv 2],[iv 2,iv 1,iv 2]]
theorem vA_sl:Sl H 3 jc vA jA:=Sl.lit (by omega) jc_len rfl
theorem yA0 (hk:1000≤k) {r0 r1 r6 r9 r10 r11 r12 r13 r14 r15 r16 r17 r18 r19 r20 r21 r22 r23 r24 r25 r26 r27 r28 r29 r30 r31 r32 r33 r34 r35 r36 r37 r38 r39 r40 r41 r42 r43 r44 r45 r46 r47 r48 r49 r50 r51 r52 r53 r54 r55 r56 r57 r58 r59 r60 r61 r62 r63 r64 r65 r66:AV} {x1 x2 x3:AObj} (hK:K (.bool true) ⟨H ++ [.cells [vA],.cells [iv 1],.cells [.slice true 0 []],.cells [iv 0],.cells [iv 0,iv 0,iv 0],.cells [.sref (H.length + 4) 0 3 3 1],.cells [.sref (H.length + 15) 0 1 2 1,.fn F_fq17 [.ptr H.length 0 1]],.map shI 3 [(iv 0,.sref (H.length + 10) 0 2 2 1),(iv 1,.sref (H.length + 13) 0 1 1 1)],.cells [.map (H.length + 7)],x1,.cells [iv 0,iv 1],x2,x3,.cells [iv 2],.loop [r0,r1,.ptr H.length 0 1,.ptr (H.length + 1) 0 1,.ptr (H.length + 2) 0 1,.ptr (H.length + 3) 0 1,r6,.ptr (H.length + 5) 0 1,.ptr (H.length + 6) 0 2,r9,r10,r11,r12,r13,r14,r15,r16,r17,r18,r19,r20,r21,r22,r23,r24,r25,r26,r27,r28,r29,r30,r31,r32,r33,r34,r35,r36,r37,r38,r39,r40,r41,r42,r43,r44,r45,r46,r47,r48,r49,r50,r51,r52,r53,r54,r55,r56,r57,r58,r59,r60,r61,r62,r63,r64,r65,r66] [28,29] fq16.n4 fq16.n5 true none,.cells [iv 0,iv 0]],true⟩):YC ⟨prog,k + 1,b⟩ (H.length + 14) [iv 0,.sref (H.length + 10) 0 2 2 1] ⟨H ++ [.cells [vA],.cells [iv 1],.cells [.slice true 0 []],.cells [iv 0],.cells [iv 0,iv 0,iv 0],.cells [.sref (H.length + 4) 0 3 3 1],.cells [.slice true 0 [],.fn F_fq17 [.ptr H.length 0 1]],.map shI 3 [(iv 0,.sref (H.length + 10) 0 2 2 1),(iv 1,.sref (H.length + 13) 0 1 1 1)],.cells [.map (H.length + 7)],x1,.cells [iv 0,iv 1],x2,x3,.cells [iv 2],.loop [r0,r1,.ptr H.length 0 1,.ptr (H.length + 1) 0 1,.ptr (H.length + 2) 0 1,.ptr (H.length + 3) 0 1,r6,.ptr (H.length + 5) 0 1,.ptr (H.length + 6) 0 2,r9,r10,r11,r12,r13,r14,r15,r16,r17,r18,r19,r20,r21,r22,r23,r24,r25,r26,r27,r28,r29,r30,r31,r32,r33,r34,r35,r36,r37,r38,r39,r40,r41,r42,r43,r44,r45,r46,r47,r48,r49,r50,r51,r52,r53,r54,r55,r56,r57,r58,r59,r60,r61,r62,r63,r64,r65,r66] [28,29] fq16.n4 fq16.n5 true none],lk⟩ K:=by
  have hk1:100≤k:=by omega
  have hk2:100≤k - 1:=by omega
  refine YC_go (by simp -implicitDefEqProofs only [sw0,sw1,sw2,sw3,sw4,sw5,reduceCtorEq,Nat.reduceEqDiff,Nat.reduceAdd,Nat.reduceDiv,Nat.reduceLeDiff,dw0,Int.reduceAdd,Int.reduceSub,Int.reduceMul,Int.reduceLT,Int.reduceLE,Int.reduceNeg,Int.reduceEq,Int.reduceToNat,Nat.reduceLT,Nat.reduceMul,Nat.reduceSub,Nat.reduceBEq,Nat.reduceLeDiff,xw0,eApp,rowOf,appRow,lkL,lkN,eMupd,vLook,mapSh,findE,putE,keqL,hasSh,fits,shb,Int.reduceBEq,eMksl,vSlc,boundsOf,boundOf,cleanL,Nat.reduceGT,Int.reduceGT,Int.reduceGE,Int.reduceDiv,Int.reduceTDiv,vAidx,rdc]; rfl) rfl ?_
  simp -implicitDefEqProofs only [sw0,sw1,sw2,sw3,sw4,sw5,reduceCtorEq,Nat.reduceEqDiff,Nat.reduceAdd,Nat.reduceDiv,Nat.reduceLeDiff,dw0,Int.reduceAdd,Int.reduceSub,Int.reduceMul,Int.reduceLT,Int.reduceLE,Int.reduceNeg,Int.reduceEq,Int.reduceToNat,Nat.reduceLT,Nat.reduceMul,Nat.reduceSub,Nat.reduceBEq,Nat.reduceLeDiff,xw0,eApp,rowOf,appRow,lkL,lkN,eMupd,vLook,mapSh,findE,putE,keqL,hasSh,fits,shb,Int.reduceBEq,eMksl,vSlc,boundsOf,boundOf,cleanL,Nat.reduceGT,Int.reduceGT,Int.reduceGE,Int.reduceDiv,Int.reduceTDiv,vAidx,rdc,fq16.n4_w,fq16.n5_w,YK,Plan_u6]
  refine ⟨⟨_,_,_,_,rfl⟩,?_⟩
  rw [wl_1 (by omega)]
  simp -implicitDefEqProofs only [fq16.n7_w,sw0,sw1,sw2,sw3,sw4,sw5,reduceCtorEq,Nat.reduceEqDiff,Nat.reduceAdd,Nat.reduceDiv,Nat.reduceLeDiff,dw0,Int.reduceAdd,Int.reduceSub,Int.reduceMul,Int.reduceLT,Int.reduceLE,Int.reduceNeg,Int.reduceEq,Int.reduceToNat,Nat.reduceLT,Nat.reduceMul,Nat.reduceSub,Nat.reduceBEq,Nat.reduceLeDiff,xw0,eApp,rowOf,appRow,lkL,lkN,eMupd,vLook,mapSh,findE,putE,keqL,hasSh,fits,shb,Int.reduceBEq,eMksl,vSlc,boundsOf,boundOf,cleanL,Nat.reduceGT,Int.reduceGT,Int.reduceGE,Int.reduceDiv,Int.reduceTDiv,vAidx,rdc,fq16.n9_w]
  have h:=fun (K:AV→St→Prop) X (hK)=>put0' (k:=k) (b:=none) (lk:=lk) (K:=K) (n:=0) (f:=.fn F_fq17 [.ptr H.length 0 1]) hk1 (H:=H ++ [.cells [vA],.cells [iv 1],.cells [.slice true 0 []],.cells [iv 0],.cells [iv 0,iv 0,iv 0],.cells [.sref (H.length + 4) 0 3 3 1]]) (L:=[.map shI 3 [(iv 0,.sref (H.length + 10) 0 2 2 1),(iv 1,.sref (H.length + 13) 0 1 1 1)],.cells [.map (H.length + 7)],x1,.cells [iv 0,iv 1],x2,x3,.cells [iv 2],X]) hK
  simp -implicitDefEqProofs only [sw0,sw1,sw2,sw3,sw4,sw5,reduceCtorEq,Nat.reduceEqDiff,Nat.reduceAdd,Nat.reduceDiv,Nat.reduceLeDiff,Nat.add_assoc] at h
  refine h _ _ ?_
  clear h
  rw [wl_1 (by omega)]
  simp -implicitDefEqProofs only [fq16.n7_w,sw0,sw1,sw2,sw3,sw4,sw5,reduceCtorEq,Nat.reduceEqDiff,Nat.reduceAdd,Nat.reduceDiv,Nat.reduceLeDiff,dw0,Int.reduceAdd,Int.reduceSub,Int.reduceMul,Int.reduceLT,Int.reduceLE,Int.reduceNeg,Int.reduceEq,Int.reduceToNat,Nat.reduceLT,Nat.reduceMul,Nat.reduceSub,Nat.reduceBEq,Nat.reduceLeDiff,xw0,eApp,rowOf,appRow,lkL,lkN,eMupd,vLook,mapSh,findE,putE,keqL,hasSh,fits,shb,Int.reduceBEq,eMksl,vSlc,boundsOf,boundOf,cleanL,Nat.reduceGT,Int.reduceGT,Int.reduceGE,Int.reduceDiv,Int.reduceTDiv,vAidx,rdc,fq16.n9_w]
  have h:=fun (K:AV→St→Prop) X (hK)=>put1'_1 (k:=k) (b:=none) (lk:=true) (K:=K) (n:=1) (m:=0) (z:=.undef) (qs:=jA) (cl:=H.length) (v:=vA) hk1 (H:=H ++ [.cells [vA],.cells [iv 1],.cells [.slice true 0 []],.cells [iv 0],.cells [iv 0,iv 0,iv 0],.cells [.sref (H.length + 4) 0 3 3 1]]) (L:=[.map shI 3 [(iv 0,.sref (H.length + 10) 0 2 2 1),(iv 1,.sref (H.length + 13) 0 1 1 1)],.cells [.map (H.length + 7)],x1,.cells [iv 0,iv 1],x2,x3,.cells [iv 2],X]) vA_sl (by simp -implicitDefEqProofs only [sw0,sw1,sw2,sw3,sw4,sw5,reduceCtorEq,Nat.reduceEqDiff,Nat.reduceAdd,Nat.reduceDiv,Nat.reduceLeDiff,dw0,Int.reduceAdd,Int.reduceSub,Int.reduceMul,Int.reduceLT,Int.reduceLE,Int.reduceNeg,Int.reduceEq,Int.reduceToNat,Nat.reduceLT,Nat.reduceMul,Nat.reduceSub,Nat.reduceBEq,Nat.reduceLeDiff,xw0,eApp,rowOf,appRow,lkL,lkN,eMupd,vLook,mapSh,findE,putE,keqL,hasSh,fits,shb,Int.reduceBEq,eMksl,vSlc,boundsOf,boundOf,cleanL,Nat.reduceGT,Int.reduceGT,Int.reduceGE,Int.reduceDiv,Int.reduceTDiv,vAidx,rdc]) (by decide) (by decide) hK
  simp -implicitDefEqProofs only [sw0,sw1,sw2,sw3,sw4,sw5,reduceCtorEq,Nat.reduceEqDiff,Nat.reduceAdd,Nat.reduceDiv,Nat.reduceLeDiff,dw0,Int.reduceAdd,Int.reduceSub,Int.reduceMul,Int.reduceLT,Int.reduceLE,Int.reduceNeg,Int.reduceEq,Int.reduceToNat,Nat.reduceLT,Nat.reduceMul,Nat.reduceSub,Nat.reduceBEq,Nat.reduceLeDiff,xw0,eApp,rowOf,appRow,lkL,lkN,eMupd,vLook,mapSh,findE,putE,keqL,hasSh,fits,shb,Int.reduceBEq,eMksl,vSlc,boundsOf,boundOf,cleanL,Nat.reduceGT,Int.reduceGT,Int.reduceGE,Int.reduceDiv,Int.reduceTDiv,vAidx,rdc,jA,Nat.add_assoc] at h
  refine h _ _ ?_
  clear h
  rw [wl_1 (by omega)]
  simp -implicitDefEqProofs only [fq16.n7_w,sw0,sw1,sw2,sw3,sw4,sw5,reduceCtorEq,Nat.reduceEqDiff,Nat.reduceAdd,Nat.reduceDiv,Nat.reduceLeDiff,dw0,Int.reduceAdd,Int.reduceSub,Int.reduceMul,Int.reduceLT,Int.reduceLE,Int.reduceNeg,Int.reduceEq,Int.reduceToNat,Nat.reduceLT,Nat.reduceMul,Nat.reduceSub,Nat.reduceBEq,Nat.reduceLeDiff,xw0,eApp,rowOf,appRow,lkL,lkN,eMupd,vLook,mapSh,findE,putE,keqL,hasSh,fits,shb,Int.reduceBEq,eMksl,vSlc,boundsOf,boundOf,cleanL,Nat.reduceGT,Int.reduceGT,Int.reduceGE,Int.reduceDiv,Int.reduceTDiv,vAidx,rdc,fq16.n10_w,Plan_u11]
  rw [wl_1 (by omega)]
  simp -implicitDefEqProofs only [fq16.n12_w,sw0,sw1,sw2,sw3,sw4,sw5,reduceCtorEq,Nat.reduceEqDiff,Nat.reduceAdd,Nat.reduceDiv,Nat.reduceLeDiff,dw0,Int.reduceAdd,Int.reduceSub,Int.reduceMul,Int.reduceLT,Int.reduceLE,Int.reduceNeg,Int.reduceEq,Int.reduceToNat,Nat.reduceLT,Nat.reduceMul,Nat.reduceSub,Nat.reduceBEq,Nat.reduceLeDiff,xw0,eApp,rowOf,appRow,lkL,lkN,eMupd,vLook,mapSh,findE,putE,keqL,hasSh,fits,shb,Int.reduceBEq,eMksl,vSlc,boundsOf,boundOf,cleanL,Nat.reduceGT,Int.reduceGT,Int.reduceGE,Int.reduceDiv,Int.reduceTDiv,vAidx,rdc,fq16.n14_w]
  have h:=fun (K:AV→St→Prop) X (hK)=>take2 (k:=k - 1) (b:=none) (K:=K) (n:=1) (m:=0) (f:=.fn F_fq17 [.ptr H.length 0 1]) hk2 (H:=H ++ [.cells [vA],.cells [iv 1],.cells [.slice true 0 []],.cells [iv 0],.cells [iv 0,iv 0,iv 0],.cells [.sref (H.length + 4) 0 3 3 1]]) (L:=[.map shI 3 [(iv 0,.sref (H.length + 10) 0 2 2 1),(iv 1,.sref (H.length + 13) 0 1 1 1)],.cells [.map (H.length + 7)],x1,.cells [iv 0,iv 1],x2,x3,.cells [iv 2],X]) hK
  rw [show k - 1 + 1=k by omega] at h
  simp -implicitDefEqProofs only [sw0,sw1,sw2,sw3,sw4,sw5,reduceCtorEq,Nat.reduceEqDiff,Nat.reduceAdd,Nat.reduceDiv,Nat.reduceLeDiff,dw0,Int.reduceAdd,Int.reduceSub,Int.reduceMul,Int.reduceLT,Int.reduceLE,Int.reduceNeg,Int.reduceEq,Int.reduceToNat,Nat.reduceLT,Nat.reduceMul,Nat.reduceSub,Nat.reduceBEq,Nat.reduceLeDiff,xw0,eApp,rowOf,appRow,lkL,lkN,eMupd,vLook,mapSh,findE,putE,keqL,hasSh,fits,shb,Int.reduceBEq,eMksl,vSlc,boundsOf,boundOf,cleanL,Nat.reduceGT,Int.reduceGT,Int.reduceGE,Int.reduceDiv,Int.reduceTDiv,vAidx,rdc,Nat.add_assoc] at h
  refine h _ _ ?_
  clear h
  simp -implicitDefEqProofs only [sw0,sw1,sw2,sw3,sw4,sw5,reduceCtorEq,Nat.reduceEqDiff,Nat.reduceAdd,Nat.reduceDiv,Nat.reduceLeDiff,dw0,Int.reduceAdd,Int.reduceSub,Int.reduceMul,Int.reduceLT,Int.reduceLE,Int.reduceNeg,Int.reduceEq,Int.reduceToNat,Nat.reduceLT,Nat.reduceMul,Nat.reduceSub,Nat.reduceBEq,Nat.reduceLeDiff,xw0,eApp,rowOf,appRow,lkL,lkN,eMupd,vLook,mapSh,findE,putE,keqL,hasSh,fits,shb,Int.reduceBEq,eMksl,vSlc,boundsOf,boundOf,cleanL,Nat.reduceGT,Int.reduceGT,Int.reduceGE,Int.reduceDiv,Int.reduceTDiv,vAidx,rdc,fq16.n16_w,fq16.n17_w]
  rw [wl_1 (by omega)]
  simp -implicitDefEqProofs only [fq16.n12_w,sw0,sw1,sw2,sw3,sw4,sw5,reduceCtorEq,Nat.reduceEqDiff,Nat.reduceAdd,Nat.reduceDiv,Nat.reduceLeDiff,dw0,Int.reduceAdd,Int.reduceSub,Int.reduceMul,Int.reduceLT,Int.reduceLE,Int.reduceNeg,Int.reduceEq,Int.reduceToNat,Nat.reduceLT,Nat.reduceMul,Nat.reduceSub,Nat.reduceBEq,Nat.reduceLeDiff,xw0,eApp,rowOf,appRow,lkL,lkN,eMupd,vLook,mapSh,findE,putE,keqL,hasSh,fits,shb,Int.reduceBEq,eMksl,vSlc,boundsOf,boundOf,cleanL,Nat.reduceGT,Int.reduceGT,Int.reduceGE,Int.reduceDiv,Int.reduceTDiv,vAidx,rdc,YK]
  exact hK
theorem yA1 (hk:1000≤k) {r0 r1 r6 r9 r10 r11 r12 r13 r14 r15 r16 r17 r18 r19 r20 r21 r22 r23 r24 r25 r26 r27 r28 r29 r30 r31 r32 r33 r34 r35 r36 r37 r38 r39 r40 r41 r42 r43 r44 r45 r46 r47 r48 r49 r50 r51 r52 r53 r54 r55 r56 r57 r58 r59 r60 r61 r62 r63 r64 r65 r66:AV} {x1 x2 x3:AObj} (hK:K (.bool true) ⟨H ++ [.cells [vA],.cells [iv 1],.cells [.slice true 0 []],.cells [iv 0],.cells [iv 0,iv 0,iv 1],.cells [.sref (H.length + 4) 0 3 3 1],.cells [.sref (H.length + 15) 0 1 2 1,.fn F_fq17 [.ptr H.length 0 1]],.map shI 3 [(iv 0,.sref (H.length + 10) 0 2 2 1),(iv 1,.sref (H.length + 13) 0 1 1 1)],.cells [.map (H.length + 7)],x1,.cells [iv 0,iv 1],x2,x3,.cells [iv 2],.loop [r0,r1,.ptr H.length 0 1,.ptr (H.length + 1) 0 1,.ptr (H.length + 2) 0 1,.ptr (H.length + 3) 0 1,r6,.ptr (H.length + 5) 0 1,.ptr (H.length + 6) 0 2,r9,r10,r11,r12,r13,r14,r15,r16,r17,r18,r19,r20,r21,r22,r23,r24,r25,r26,r27,r28,r29,r30,r31,r32,r33,r34,r35,r36,r37,r38,r39,r40,r41,r42,r43,r44,r45,r46,r47,r48,r49,r50,r51,r52,r53,r54,r55,r56,r57,r58,r59,r60,r61,r62,r63,r64,r65,r66] [28,29] fq16.n4 fq16.n5 true none,.cells [iv 0,iv 0]],true⟩):YC ⟨prog,k + 1,b⟩ (H.length + 14) [iv 1,.sref (H.length + 13) 0 1 1 1] ⟨H ++ [.cells [vA],.cells [iv 1],.cells [.slice true 0 []],.cells [iv 0],.cells [iv 0,iv 0,iv 0],.cells [.sref (H.length + 4) 0 3 3 1],.cells [.sref (H.length + 15) 0 1 2 1,.fn F_fq17 [.ptr H.length 0 1]],.map shI 3 [(iv 0,.sref (H.length + 10) 0 2 2 1),(iv 1,.sref (H.length + 13) 0 1 1 1)],.cells [.map (H.length + 7)],x1,.cells [iv 0,iv 1],x2,x3,.cells [iv 2],.loop [r0,r1,.ptr H.length 0 1,.ptr (H.length + 1) 0 1,.ptr (H.length + 2) 0 1,.ptr (H.length + 3) 0 1,r6,.ptr (H.length + 5) 0 1,.ptr (H.length + 6) 0 2,r9,r10,r11,r12,r13,r14,r15,r16,r17,r18,r19,r20,r21,r22,r23,r24,r25,r26,r27,r28,r29,r30,r31,r32,r33,r34,r35,r36,r37,r38,r39,r40,r41,r42,r43,r44,r45,r46,r47,r48,r49,r50,r51,r52,r53,r54,r55,r56,r57,r58,r59,r60,r61,r62,r63,r64,r65,r66] [28,29] fq16.n4 fq16.n5 true none,.cells [iv 0,iv 0]],true⟩ K:=by
  have hk1:100≤k:=by omega
  have hk2:100≤k - 1:=by omega
  refine YC_go (by simp -implicitDefEqProofs only [sw0,sw1,sw2,sw3,sw4,sw5,reduceCtorEq,Nat.reduceEqDiff,Nat.reduceAdd,Nat.reduceDiv,Nat.reduceLeDiff,dw0,Int.reduceAdd,Int.reduceSub,Int.reduceMul,Int.reduceLT,Int.reduceLE,Int.reduceNeg,Int.reduceEq,Int.reduceToNat,Nat.reduceLT,Nat.reduceMul,Nat.reduceSub,Nat.reduceBEq,Nat.reduceLeDiff,xw0,eApp,rowOf,appRow,lkL,lkN,eMupd,vLook,mapSh,findE,putE,keqL,hasSh,fits,shb,Int.reduceBEq,eMksl,vSlc,boundsOf,boundOf,cleanL,Nat.reduceGT,Int.reduceGT,Int.reduceGE,Int.reduceDiv,Int.reduceTDiv,vAidx,rdc]; rfl) rfl ?_
  simp -implicitDefEqProofs only [sw0,sw1,sw2,sw3,sw4,sw5,reduceCtorEq,Nat.reduceEqDiff,Nat.reduceAdd,Nat.reduceDiv,Nat.reduceLeDiff,dw0,Int.reduceAdd,Int.reduceSub,Int.reduceMul,Int.reduceLT,Int.reduceLE,Int.reduceNeg,Int.reduceEq,Int.reduceToNat,Nat.reduceLT,Nat.reduceMul,Nat.reduceSub,Nat.reduceBEq,Nat.reduceLeDiff,xw0,eApp,rowOf,appRow,lkL,lkN,eMupd,vLook,mapSh,findE,putE,keqL,hasSh,fits,shb,Int.reduceBEq,eMksl,vSlc,boundsOf,boundOf,cleanL,Nat.reduceGT,Int.reduceGT,Int.reduceGE,Int.reduceDiv,Int.reduceTDiv,vAidx,rdc,fq16.n4_w,fq16.n5_w,YK,Plan_u6]
  refine ⟨⟨_,_,_,_,rfl⟩,?_⟩
  rw [wl_1 (by omega)]
  simp -implicitDefEqProofs only [fq16.n7_w,sw0,sw1,sw2,sw3,sw4,sw5,reduceCtorEq,Nat.reduceEqDiff,Nat.reduceAdd,Nat.reduceDiv,Nat.reduceLeDiff,dw0,Int.reduceAdd,Int.reduceSub,Int.reduceMul,Int.reduceLT,Int.reduceLE,Int.reduceNeg,Int.reduceEq,Int.reduceToNat,Nat.reduceLT,Nat.reduceMul,Nat.reduceSub,Nat.reduceBEq,Nat.reduceLeDiff,xw0,eApp,rowOf,appRow,lkL,lkN,eMupd,vLook,mapSh,findE,putE,keqL,hasSh,fits,shb,Int.reduceBEq,eMksl,vSlc,boundsOf,boundOf,cleanL,Nat.reduceGT,Int.reduceGT,Int.reduceGE,Int.reduceDiv,Int.reduceTDiv,vAidx,rdc,fq16.n9_w]
  have h:=fun (K:AV→St→Prop) X (hK)=>put1'_2 (k:=k) (b:=none) (lk:=true) (K:=K) (n:=2) (m:=0) (z:=iv 0) (qs:=jA) (cl:=H.length) (v:=vA) hk1 (H:=H ++ [.cells [vA],.cells [iv 1],.cells [.slice true 0 []],.cells [iv 0],.cells [iv 0,iv 0,iv 0],.cells [.sref (H.length + 4) 0 3 3 1]]) (L:=[.map shI 3 [(iv 0,.sref (H.length + 10) 0 2 2 1),(iv 1,.sref (H.length + 13) 0 1 1 1)],.cells [.map (H.length + 7)],x1,.cells [iv 0,iv 1],x2,x3,.cells [iv 2],X]) vA_sl (by simp -implicitDefEqProofs only [sw0,sw1,sw2,sw3,sw4,sw5,reduceCtorEq,Nat.reduceEqDiff,Nat.reduceAdd,Nat.reduceDiv,Nat.reduceLeDiff,dw0,Int.reduceAdd,Int.reduceSub,Int.reduceMul,Int.reduceLT,Int.reduceLE,Int.reduceNeg,Int.reduceEq,Int.reduceToNat,Nat.reduceLT,Nat.reduceMul,Nat.reduceSub,Nat.reduceBEq,Nat.reduceLeDiff,xw0,eApp,rowOf,appRow,lkL,lkN,eMupd,vLook,mapSh,findE,putE,keqL,hasSh,fits,shb,Int.reduceBEq,eMksl,vSlc,boundsOf,boundOf,cleanL,Nat.reduceGT,Int.reduceGT,Int.reduceGE,Int.reduceDiv,Int.reduceTDiv,vAidx,rdc]) (by decide) (by decide) hK
  simp -implicitDefEqProofs only [sw0,sw1,sw2,sw3,sw4,sw5,reduceCtorEq,Nat.reduceEqDiff,Nat.reduceAdd,Nat.reduceDiv,Nat.reduceLeDiff,dw0,Int.reduceAdd,Int.reduceSub,Int.reduceMul,Int.reduceLT,Int.reduceLE,Int.reduceNeg,Int.reduceEq,Int.reduceToNat,Nat.reduceLT,Nat.reduceMul,Nat.reduceSub,Nat.reduceBEq,Nat.reduceLeDiff,xw0,eApp,rowOf,appRow,lkL,lkN,eMupd,vLook,mapSh,findE,putE,keqL,hasSh,fits,shb,Int.reduceBEq,eMksl,vSlc,boundsOf,boundOf,cleanL,Nat.reduceGT,Int.reduceGT,Int.reduceGE,Int.reduceDiv,Int.reduceTDiv,vAidx,rdc,jA,Nat.add_assoc] at h
  refine h _ _ ?_
  clear h
  rw [wl_1 (by omega)]
  simp -implicitDefEqProofs only [fq16.n7_w,sw0,sw1,sw2,sw3,sw4,sw5,reduceCtorEq,Nat.reduceEqDiff,Nat.reduceAdd,Nat.reduceDiv,Nat.reduceLeDiff,dw0,Int.reduceAdd,Int.reduceSub,Int.reduceMul,Int.reduceLT,Int.reduceLE,Int.reduceNeg,Int.reduceEq,Int.reduceToNat,Nat.reduceLT,Nat.reduceMul,Nat.reduceSub,Nat.reduceBEq,Nat.reduceLeDiff,xw0,eApp,rowOf,appRow,lkL,lkN,eMupd,vLook,mapSh,findE,putE,keqL,hasSh,fits,shb,Int.reduceBEq,eMksl,vSlc,boundsOf,boundOf,cleanL,Nat.reduceGT,Int.reduceGT,Int.reduceGE,Int.reduceDiv,Int.reduceTDiv,vAidx,rdc,fq16.n10_w,Plan_u11]
  rw [wl_1 (by omega)]
  simp -implicitDefEqProofs only [fq16.n12_w,sw0,sw1,sw2,sw3,sw4,sw5,reduceCtorEq,Nat.reduceEqDiff,Nat.reduceAdd,Nat.reduceDiv,Nat.reduceLeDiff,dw0,Int.reduceAdd,Int.reduceSub,Int.reduceMul,Int.reduceLT,Int.reduceLE,Int.reduceNeg,Int.reduceEq,Int.reduceToNat,Nat.reduceLT,Nat.reduceMul,Nat.reduceSub,Nat.reduceBEq,Nat.reduceLeDiff,xw0,eApp,rowOf,appRow,lkL,lkN,eMupd,vLook,mapSh,findE,putE,keqL,hasSh,fits,shb,Int.reduceBEq,eMksl,vSlc,boundsOf,boundOf,cleanL,Nat.reduceGT,Int.reduceGT,Int.reduceGE,Int.reduceDiv,Int.reduceTDiv,vAidx,rdc,fq16.n14_w]
  have h:=fun (K:AV→St→Prop) X (hK)=>take2 (k:=k - 1) (b:=none) (K:=K) (n:=2) (m:=0) (f:=.fn F_fq17 [.ptr H.length 0 1]) hk2 (H:=H ++ [.cells [vA],.cells [iv 1],.cells [.slice true 0 []],.cells [iv 0],.cells [iv 0,iv 0,iv 0],.cells [.sref (H.length + 4) 0 3 3 1]]) (L:=[.map shI 3 [(iv 0,.sref (H.length + 10) 0 2 2 1),(iv 1,.sref (H.length + 13) 0 1 1 1)],.cells [.map (H.length + 7)],x1,.cells [iv 0,iv 1],x2,x3,.cells [iv 2],X]) hK
  rw [show k - 1 + 1=k by omega] at h
  simp -implicitDefEqProofs only [sw0,sw1,sw2,sw3,sw4,sw5,reduceCtorEq,Nat.reduceEqDiff,Nat.reduceAdd,Nat.reduceDiv,Nat.reduceLeDiff,dw0,Int.reduceAdd,Int.reduceSub,Int.reduceMul,Int.reduceLT,Int.reduceLE,Int.reduceNeg,Int.reduceEq,Int.reduceToNat,Nat.reduceLT,Nat.reduceMul,Nat.reduceSub,Nat.reduceBEq,Nat.reduceLeDiff,xw0,eApp,rowOf,appRow,lkL,lkN,eMupd,vLook,mapSh,findE,putE,keqL,hasSh,fits,shb,Int.reduceBEq,eMksl,vSlc,boundsOf,boundOf,cleanL,Nat.reduceGT,Int.reduceGT,Int.reduceGE,Int.reduceDiv,Int.reduceTDiv,vAidx,rdc,Nat.add_assoc] at h
  refine h _ _ ?_
  clear h
  simp -implicitDefEqProofs only [sw0,sw1,sw2,sw3,sw4,sw5,reduceCtorEq,Nat.reduceEqDiff,Nat.reduceAdd,Nat.reduceDiv,Nat.reduceLeDiff,dw0,Int.reduceAdd,Int.reduceSub,Int.reduceMul,Int.reduceLT,Int.reduceLE,Int.reduceNeg,Int.reduceEq,Int.reduceToNat,Nat.reduceLT,Nat.reduceMul,Nat.reduceSub,Nat.reduceBEq,Nat.reduceLeDiff,xw0,eApp,rowOf,appRow,lkL,lkN,eMupd,vLook,mapSh,findE,putE,keqL,hasSh,fits,shb,Int.reduceBEq,eMksl,vSlc,boundsOf,boundOf,cleanL,Nat.reduceGT,Int.reduceGT,Int.reduceGE,Int.reduceDiv,Int.reduceTDiv,vAidx,rdc,fq16.n16_w,fq16.n17_w]
  rw [wl_1 (by omega)]
  simp -implicitDefEqProofs only [fq16.n12_w,sw0,sw1,sw2,sw3,sw4,sw5,reduceCtorEq,Nat.reduceEqDiff,Nat.reduceAdd,Nat.reduceDiv,Nat.reduceLeDiff,dw0,Int.reduceAdd,Int.reduceSub,Int.reduceMul,Int.reduceLT,Int.reduceLE,Int.reduceNeg,Int.reduceEq,Int.reduceToNat,Nat.reduceLT,Nat.reduceMul,Nat.reduceSub,Nat.reduceBEq,Nat.reduceLeDiff,xw0,eApp,rowOf,appRow,lkL,lkN,eMupd,vLook,mapSh,findE,putE,keqL,hasSh,fits,shb,Int.reduceBEq,eMksl,vSlc,boundsOf,boundOf,cleanL,Nat.reduceGT,Int.reduceGT,Int.reduceGE,Int.reduceDiv,Int.reduceTDiv,vAidx,rdc,YK]
  exact hK
theorem yA2 (hk:1000≤k) {r0 r1 r6 r9 r10 r11 r12 r13 r14 r15 r16 r17 r18 r19 r20 r21 r22 r23 r24 r25 r26 r27 r28 r29 r30 r31 r32 r33 r34 r35 r36 r37 r38 r39 r40 r41 r42 r43 r44 r45 r46 r47 r48 r49 r50 r51 r52 r53 r54 r55 r56 r57 r58 r59 r60 r61 r62 r63 r64 r65 r66:AV} {x1 x2 x3:AObj} (hK:K (.bool true) ⟨H ++ [.cells [vA],.cells [iv 1],.cells [.slice true 0 []],.cells [iv 0],.cells [iv 2,iv 0,iv 1],.cells [.sref (H.length + 4) 0 3 3 1],.cells [.slice false 1 [],.fn F_fq17 [.ptr H.length 0 1]],.map shI 3 [(iv 0,.sref (H.length + 10) 0 2 2 1),(iv 1,.sref (H.length + 13) 0 1 1 1)],.cells [.map (H.length + 7)],x1,.cells [iv 0,iv 1],x2,x3,.cells [iv 2],.loop [r0,r1,.ptr H.length 0 1,.ptr (H.length + 1) 0 1,.ptr (H.length + 2) 0 1,.ptr (H.length + 3) 0 1,r6,.ptr (H.length + 5) 0 1,.ptr (H.length + 6) 0 2,r9,r10,r11,r12,r13,r14,r15,r16,r17,r18,r19,r20,r21,r22,r23,r24,r25,r26,r27,r28,r29,r30,r31,r32,r33,r34,r35,r36,r37,r38,r39,r40,r41,r42,r43,r44,r45,r46,r47,r48,r49,r50,r51,r52,r53,r54,r55,r56,r57,r58,r59,r60,r61,r62,r63,r64,r65,r66] [28,29] fq16.n4 fq16.n5 true none,.cells [iv 0,iv 0]],true⟩):YC ⟨prog,k + 1,b⟩ (H.length + 14) [iv 2,.slice true 0 []] ⟨H ++ [.cells [vA],.cells [iv 1],.cells [.slice true 0 []],.cells [iv 0],.cells [iv 0,iv 0,iv 1],.cells [.sref (H.length + 4) 0 3 3 1],.cells [.sref (H.length + 15) 0 1 2 1,.fn F_fq17 [.ptr H.length 0 1]],.map shI 3 [(iv 0,.sref (H.length + 10) 0 2 2 1),(iv 1,.sref (H.length + 13) 0 1 1 1)],.cells [.map (H.length + 7)],x1,.cells [iv 0,iv 1],x2,x3,.cells [iv 2],.loop [r0,r1,.ptr H.length 0 1,.ptr (H.length + 1) 0 1,.ptr (H.length + 2) 0 1,.ptr (H.length + 3) 0 1,r6,.ptr (H.length + 5) 0 1,.ptr (H.length + 6) 0 2,r9,r10,r11,r12,r13,r14,r15,r16,r17,r18,r19,r20,r21,r22,r23,r24,r25,r26,r27,r28,r29,r30,r31,r32,r33,r34,r35,r36,r37,r38,r39,r40,r41,r42,r43,r44,r45,r46,r47,r48,r49,r50,r51,r52,r53,r54,r55,r56,r57,r58,r59,r60,r61,r62,r63,r64,r65,r66] [28,29] fq16.n4 fq16.n5 true none,.cells [iv 0,iv 0]],true⟩ K:=by
  have hk1:100≤k:=by omega
  have hk2:100≤k - 1:=by omega
  refine YC_go (by simp -implicitDefEqProofs only [sw0,sw1,sw2,sw3,sw4,sw5,reduceCtorEq,Nat.reduceEqDiff,Nat.reduceAdd,Nat.reduceDiv,Nat.reduceLeDiff,dw0,Int.reduceAdd,Int.reduceSub,Int.reduceMul,Int.reduceLT,Int.reduceLE,Int.reduceNeg,Int.reduceEq,Int.reduceToNat,Nat.reduceLT,Nat.reduceMul,Nat.reduceSub,Nat.reduceBEq,Nat.reduceLeDiff,xw0,eApp,rowOf,appRow,lkL,lkN,eMupd,vLook,mapSh,findE,putE,keqL,hasSh,fits,shb,Int.reduceBEq,eMksl,vSlc,boundsOf,boundOf,cleanL,Nat.reduceGT,Int.reduceGT,Int.reduceGE,Int.reduceDiv,Int.reduceTDiv,vAidx,rdc]; rfl) rfl ?_
  simp -implicitDefEqProofs only [sw0,sw1,sw2,sw3,sw4,sw5,reduceCtorEq,Nat.reduceEqDiff,Nat.reduceAdd,Nat.reduceDiv,Nat.reduceLeDiff,dw0,Int.reduceAdd,Int.reduceSub,Int.reduceMul,Int.reduceLT,Int.reduceLE,Int.reduceNeg,Int.reduceEq,Int.reduceToNat,Nat.reduceLT,Nat.reduceMul,Nat.reduceSub,Nat.reduceBEq,Nat.reduceLeDiff,xw0,eApp,rowOf,appRow,lkL,lkN,eMupd,vLook,mapSh,findE,putE,keqL,hasSh,fits,shb,Int.reduceBEq,eMksl,vSlc,boundsOf,boundOf,cleanL,Nat.reduceGT,Int.reduceGT,Int.reduceGE,Int.reduceDiv,Int.reduceTDiv,vAidx,rdc,fq16.n4_w,fq16.n5_w,YK,Plan_u6]
  refine ⟨⟨_,_,_,_,rfl⟩,?_⟩
  rw [wl_1 (by omega)]
  simp -implicitDefEqProofs only [fq16.n7_w,sw0,sw1,sw2,sw3,sw4,sw5,reduceCtorEq,Nat.reduceEqDiff,Nat.reduceAdd,Nat.reduceDiv,Nat.reduceLeDiff,dw0,Int.reduceAdd,Int.reduceSub,Int.reduceMul,Int.reduceLT,Int.reduceLE,Int.reduceNeg,Int.reduceEq,Int.reduceToNat,Nat.reduceLT,Nat.reduceMul,Nat.reduceSub,Nat.reduceBEq,Nat.reduceLeDiff,xw0,eApp,rowOf,appRow,lkL,lkN,eMupd,vLook,mapSh,findE,putE,keqL,hasSh,fits,shb,Int.reduceBEq,eMksl,vSlc,boundsOf,boundOf,cleanL,Nat.reduceGT,Int.reduceGT,Int.reduceGE,Int.reduceDiv,Int.reduceTDiv,vAidx,rdc,fq16.n10_w,Plan_u11]
  rw [wl_1 (by omega)]
  simp -implicitDefEqProofs only [fq16.n12_w,sw0,sw1,sw2,sw3,sw4,sw5,reduceCtorEq,Nat.reduceEqDiff,Nat.reduceAdd,Nat.reduceDiv,Nat.reduceLeDiff,dw0,Int.reduceAdd,Int.reduceSub,Int.reduceMul,Int.reduceLT,Int.reduceLE,Int.reduceNeg,Int.reduceEq,Int.reduceToNat,Nat.reduceLT,Nat.reduceMul,Nat.reduceSub,Nat.reduceBEq,Nat.reduceLeDiff,xw0,eApp,rowOf,appRow,lkL,lkN,eMupd,vLook,mapSh,findE,putE,keqL,hasSh,fits,shb,Int.reduceBEq,eMksl,vSlc,boundsOf,boundOf,cleanL,Nat.reduceGT,Int.reduceGT,Int.reduceGE,Int.reduceDiv,Int.reduceTDiv,vAidx,rdc,fq16.n14_w]
  have h:=fun (K:AV→St→Prop) X (hK)=>take1 (k:=k - 1) (b:=none) (K:=K) (ver:=2) (R:=[iv 0]) (n:=0) (f:=.fn F_fq17 [.ptr H.length 0 1]) hk2 rfl (H:=H ++ [.cells [vA],.cells [iv 1],.cells [.slice true 0 []],.cells [iv 0],.cells [iv 0,iv 0,iv 1],.cells [.sref (H.length + 4) 0 3 3 1]]) (L:=[.map shI 3 [(iv 0,.sref (H.length + 10) 0 2 2 1),(iv 1,.sref (H.length + 13) 0 1 1 1)],.cells [.map (H.length + 7)],x1,.cells [iv 0,iv 1],x2,x3,.cells [iv 2],X]) hK
  rw [show k - 1 + 1=k by omega] at h
  simp -implicitDefEqProofs only [sw0,sw1,sw2,sw3,sw4,sw5,reduceCtorEq,Nat.reduceEqDiff,Nat.reduceAdd,Nat.reduceDiv,Nat.reduceLeDiff,dw0,Int.reduceAdd,Int.reduceSub,Int.reduceMul,Int.reduceLT,Int.reduceLE,Int.reduceNeg,Int.reduceEq,Int.reduceToNat,Nat.reduceLT,Nat.reduceMul,Nat.reduceSub,Nat.reduceBEq,Nat.reduceLeDiff,xw0,eApp,rowOf,appRow,lkL,lkN,eMupd,vLook,mapSh,findE,putE,keqL,hasSh,fits,shb,Int.reduceBEq,eMksl,vSlc,boundsOf,boundOf,cleanL,Nat.reduceGT,Int.reduceGT,Int.reduceGE,Int.reduceDiv,Int.reduceTDiv,vAidx,rdc,Nat.add_assoc] at h
  refine h _ _ ?_
  clear h
  simp -implicitDefEqProofs only [sw0,sw1,sw2,sw3,sw4,sw5,reduceCtorEq,Nat.reduceEqDiff,Nat.reduceAdd,Nat.reduceDiv,Nat.reduceLeDiff,dw0,Int.reduceAdd,Int.reduceSub,Int.reduceMul,Int.reduceLT,Int.reduceLE,Int.reduceNeg,Int.reduceEq,Int.reduceToNat,Nat.reduceLT,Nat.reduceMul,Nat.reduceSub,Nat.reduceBEq,Nat.reduceLeDiff,xw0,eApp,rowOf,appRow,lkL,lkN,eMupd,vLook,mapSh,findE,putE,keqL,hasSh,fits,shb,Int.reduceBEq,eMksl,vSlc,boundsOf,boundOf,cleanL,Nat.reduceGT,Int.reduceGT,Int.reduceGE,Int.reduceDiv,Int.reduceTDiv,vAidx,rdc,fq16.n16_w,fq16.n17_w]
  rw [wl_1 (by omega)]
  simp -implicitDefEqProofs only [fq16.n12_w,sw0,sw1,sw2,sw3,sw4,sw5,reduceCtorEq,Nat.reduceEqDiff,Nat.reduceAdd,Nat.reduceDiv,Nat.reduceLeDiff,dw0,Int.reduceAdd,Int.reduceSub,Int.reduceMul,Int.reduceLT,Int.reduceLE,Int.reduceNeg,Int.reduceEq,Int.reduceToNat,Nat.reduceLT,Nat.reduceMul,Nat.reduceSub,Nat.reduceBEq,Nat.reduceLeDiff,xw0,eApp,rowOf,appRow,lkL,lkN,eMupd,vLook,mapSh,findE,putE,keqL,hasSh,fits,shb,Int.reduceBEq,eMksl,vSlc,boundsOf,boundOf,cleanL,Nat.reduceGT,Int.reduceGT,Int.reduceGE,Int.reduceDiv,Int.reduceTDiv,vAidx,rdc,YK]
  exact hK
theorem yA3 (hk:1000≤k) {r0 r1 r6 r9 r10 r11 r12 r13 r14 r15 r16 r17 r18 r19 r20 r21 r22 r23 r24 r25 r26 r27 r28 r29 r30 r31 r32 r33 r34 r35 r36 r37 r38 r39 r40 r41 r42 r43 r44 r45 r46 r47 r48 r49 r50 r51 r52 r53 r54 r55 r56 r57 r58 r59 r60 r61 r62 r63 r64 r65 r66:AV} {x1 x2 x3:AObj} {t:Nat} (hK:K (.bool true) ⟨H ++ [.cells [vA],.cells [iv 1],.cells [.slice true 0 []],.cells [iv 0],.cells [iv 2,iv 0,iv 1],.cells [.sref (H.length + 4) 0 3 3 1],.cells [.slice false 1 [],.fn F_fq17 [.ptr H.length 0 1]],.map shI 3 [(iv 0,.sref (H.length + 10) 0 2 2 1),(iv 1,.sref (H.length + 13) 0 1 1 1)],.cells [.map (H.length + 7)],x1,.cells [iv 0,iv 1],x2,x3,.cells [iv 2],.loop [r0,r1,.ptr H.length 0 1,.ptr (H.length + 1) 0 1,.ptr (H.length + 2) 0 1,.ptr (H.length + 3) 0 1,r6,.ptr (H.length + 5) 0 1,.ptr (H.length + 6) 0 2,r9,r10,r11,r12,r13,r14,r15,r16,r17,r18,r19,r20,r21,r22,r23,r24,r25,r26,r27,r28,r29,r30,r31,r32,r33,r34,r35,r36,r37,r38,r39,r40,r41,r42,r43,r44,r45,r46,r47,r48,r49,r50,r51,r52,r53,r54,r55,r56,r57,r58,r59,r60,r61,r62,r63,r64,r65,r66] [28,29] fq16.n4 fq16.n5 true none,.cells [iv 0,iv 0]],true⟩):YC ⟨prog,k + 1,b⟩ (H.length + 14) [iv t,.slice true 0 []] ⟨H ++ [.cells [vA],.cells [iv 1],.cells [.slice true 0 []],.cells [iv 0],.cells [iv 2,iv 0,iv 1],.cells [.sref (H.length + 4) 0 3 3 1],.cells [.slice false 1 [],.fn F_fq17 [.ptr H.length 0 1]],.map shI 3 [(iv 0,.sref (H.length + 10) 0 2 2 1),(iv 1,.sref (H.length + 13) 0 1 1 1)],.cells [.map (H.length + 7)],x1,.cells [iv 0,iv 1],x2,x3,.cells [iv 2],.loop [r0,r1,.ptr H.length 0 1,.ptr (H.length + 1) 0 1,.ptr (H.length + 2) 0 1,.ptr (H.length + 3) 0 1,r6,.ptr (H.length + 5) 0 1,.ptr (H.length + 6) 0 2,r9,r10,r11,r12,r13,r14,r15,r16,r17,r18,r19,r20,r21,r22,r23,r24,r25,r26,r27,r28,r29,r30,r31,r32,r33,r34,r35,r36,r37,r38,r39,r40,r41,r42,r43,r44,r45,r46,r47,r48,r49,r50,r51,r52,r53,r54,r55,r56,r57,r58,r59,r60,r61,r62,r63,r64,r65,r66] [28,29] fq16.n4 fq16.n5 true none,.cells [iv 0,iv 0]],true⟩ K:=by
  have hk1:100≤k:=by omega
  have hk2:100≤k - 1:=by omega
  refine YC_go (by simp -implicitDefEqProofs only [sw0,sw1,sw2,sw3,sw4,sw5,reduceCtorEq,Nat.reduceEqDiff,Nat.reduceAdd,Nat.reduceDiv,Nat.reduceLeDiff,dw0,Int.reduceAdd,Int.reduceSub,Int.reduceMul,Int.reduceLT,Int.reduceLE,Int.reduceNeg,Int.reduceEq,Int.reduceToNat,Nat.reduceLT,Nat.reduceMul,Nat.reduceSub,Nat.reduceBEq,Nat.reduceLeDiff,xw0,eApp,rowOf,appRow,lkL,lkN,eMupd,vLook,mapSh,findE,putE,keqL,hasSh,fits,shb,Int.reduceBEq,eMksl,vSlc,boundsOf,boundOf,cleanL,Nat.reduceGT,Int.reduceGT,Int.reduceGE,Int.reduceDiv,Int.reduceTDiv,vAidx,rdc]; rfl) rfl ?_
  simp -implicitDefEqProofs only [sw0,sw1,sw2,sw3,sw4,sw5,reduceCtorEq,Nat.reduceEqDiff,Nat.reduceAdd,Nat.reduceDiv,Nat.reduceLeDiff,dw0,Int.reduceAdd,Int.reduceSub,Int.reduceMul,Int.reduceLT,Int.reduceLE,Int.reduceNeg,Int.reduceEq,Int.reduceToNat,Nat.reduceLT,Nat.reduceMul,Nat.reduceSub,Nat.reduceBEq,Nat.reduceLeDiff,xw0,eApp,rowOf,appRow,lkL,lkN,eMupd,vLook,mapSh,findE,putE,keqL,hasSh,fits,shb,Int.reduceBEq,eMksl,vSlc,boundsOf,boundOf,cleanL,Nat.reduceGT,Int.reduceGT,Int.reduceGE,Int.reduceDiv,Int.reduceTDiv,vAidx,rdc,fq16.n4_w,fq16.n5_w,YK,Plan_u6]
  refine ⟨⟨_,_,_,_,rfl⟩,?_⟩
  rw [wl_1 (by omega)]
  simp -implicitDefEqProofs only [fq16.n7_w,sw0,sw1,sw2,sw3,sw4,sw5,reduceCtorEq,Nat.reduceEqDiff,Nat.reduceAdd,Nat.reduceDiv,Nat.reduceLeDiff,dw0,Int.reduceAdd,Int.reduceSub,Int.reduceMul,Int.reduceLT,Int.reduceLE,Int.reduceNeg,Int.reduceEq,Int.reduceToNat,Nat.reduceLT,Nat.reduceMul,Nat.reduceSub,Nat.reduceBEq,Nat.reduceLeDiff,xw0,eApp,rowOf,appRow,lkL,lkN,eMupd,vLook,mapSh,findE,putE,keqL,hasSh,fits,shb,Int.reduceBEq,eMksl,vSlc,boundsOf,boundOf,cleanL,Nat.reduceGT,Int.reduceGT,Int.reduceGE,Int.reduceDiv,Int.reduceTDiv,vAidx,rdc,fq16.n10_w,Plan_u11]
  rw [wl_1 (by omega)]
  simp -implicitDefEqProofs only [fq16.n12_w,sw0,sw1,sw2,sw3,sw4,sw5,reduceCtorEq,Nat.reduceEqDiff,Nat.reduceAdd,Nat.reduceDiv,Nat.reduceLeDiff,dw0,Int.reduceAdd,Int.reduceSub,Int.reduceMul,Int.reduceLT,Int.reduceLE,Int.reduceNeg,Int.reduceEq,Int.reduceToNat,Nat.reduceLT,Nat.reduceMul,Nat.reduceSub,Nat.reduceBEq,Nat.reduceLeDiff,xw0,eApp,rowOf,appRow,lkL,lkN,eMupd,vLook,mapSh,findE,putE,keqL,hasSh,fits,shb,Int.reduceBEq,eMksl,vSlc,boundsOf,boundOf,cleanL,Nat.reduceGT,Int.reduceGT,Int.reduceGE,Int.reduceDiv,Int.reduceTDiv,vAidx,rdc,YK]
  exact hK
theorem runA (hk:1000≤k) {r0 r1 r6 r9 r10 r11 r12 r13 r14 r15 r16 r17 r18 r19 r20 r21 r22 r23 r24 r25 r26 r27 r28 r29 r30 r31 r32 r33 r34 r35 r36 r37 r38 r39 r40 r41 r42 r43 r44 r45 r46 r47 r48 r49 r50 r51 r52 r53 r54 r55 r56 r57 r58 r59 r60 r61 r62 r63 r64 r65 r66:AV} {x1 x2 x3:AObj} (hK:K (.tup []) ⟨H ++ [.cells [vA],.cells [iv 1],.cells [.slice true 0 []],.cells [iv 0],.cells [iv 2,iv 0,iv 1],.cells [.sref (H.length + 4) 0 3 3 1],.cells [.slice false 1 [],.fn F_fq17 [.ptr H.length 0 1]],.map shI 3 [(iv 0,.sref (H.length + 10) 0 2 2 1),(iv 1,.sref (H.length + 13) 0 1 1 1)],.cells [.map (H.length + 7)],x1,.cells [iv 0,iv 1],x2,x3,.cells [iv 2],.loop [r0,r1,.ptr H.length 0 1,.ptr (H.length + 1) 0 1,.ptr (H.length + 2) 0 1,.ptr (H.length + 3) 0 1,r6,.ptr (H.length + 5) 0 1,.ptr (H.length + 6) 0 2,r9,r10,r11,r12,r13,r14,r15,r16,r17,r18,r19,r20,r21,r22,r23,r24,r25,r26,r27,r28,r29,r30,r31,r32,r33,r34,r35,r36,r37,r38,r39,r40,r41,r42,r43,r44,r45,r46,r47,r48,r49,r50,r51,r52,r53,r54,r55,r56,r57,r58,r59,r60,r61,r62,r63,r64,r65,r66] [28,29] fq16.n4 fq16.n5 true none,.cells [iv 0,iv 0]],true⟩):VC ⟨prog,k + 2,b⟩ F_fq41 [.yield (H.length + 14),.ptr (H.length + 8) 0 1] ⟨H ++ [.cells [vA],.cells [iv 1],.cells [.slice true 0 []],.cells [iv 0],.cells [iv 0,iv 0,iv 0],.cells [.sref (H.length + 4) 0 3 3 1],.cells [.slice true 0 [],.fn F_fq17 [.ptr H.length 0 1]],.map shI 3 [(iv 0,.sref (H.length + 10) 0 2 2 1),(iv 1,.sref (H.length + 13) 0 1 1 1)],.cells [.map (H.length + 7)],x1,.cells [iv 0,iv 1],x2,x3,.cells [iv 2],.loop [r0,r1,.ptr H.length 0 1,.ptr (H.length + 1) 0 1,.ptr (H.length + 2) 0 1,.ptr (H.length + 3) 0 1,r6,.ptr (H.length + 5) 0 1,.ptr (H.length + 6) 0 2,r9,r10,r11,r12,r13,r14,r15,r16,r17,r18,r19,r20,r21,r22,r23,r24,r25,r26,r27,r28,r29,r30,r31,r32,r33,r34,r35,r36,r37,r38,r39,r40,r41,r42,r43,r44,r45,r46,r47,r48,r49,r50,r51,r52,r53,r54,r55,r56,r57,r58,r59,r60,r61,r62,r63,r64,r65,r66] [28,29] fq16.n4 fq16.n5 true none],lk⟩ K:=by
  refine slots_1_s (k:=k + 1) (J:=fun t s=>(t=0∧∃ lk,s=⟨H ++ [.cells [vA],.cells [iv 1],.cells [.slice true 0 []],.cells [iv 0],.cells [iv 0,iv 0,iv 0],.cells [.sref (H.length + 4) 0 3 3 1],.cells [.slice true 0 [],.fn F_fq17 [.ptr H.length 0 1]],.map shI 3 [(iv 0,.sref (H.length + 10) 0 2 2 1),(iv 1,.sref (H.length + 13) 0 1 1 1)],.cells [.map (H.length + 7)],x1,.cells [iv 0,iv 1],x2,x3,.cells [iv 2],.loop [r0,r1,.ptr H.length 0 1,.ptr (H.length + 1) 0 1,.ptr (H.length + 2) 0 1,.ptr (H.length + 3) 0 1,r6,.ptr (H.length + 5) 0 1,.ptr (H.length + 6) 0 2,r9,r10,r11,r12,r13,r14,r15,r16,r17,r18,r19,r20,r21,r22,r23,r24,r25,r26,r27,r28,r29,r30,r31,r32,r33,r34,r35,r36,r37,r38,r39,r40,r41,r42,r43,r44,r45,r46,r47,r48,r49,r50,r51,r52,r53,r54,r55,r56,r57,r58,r59,r60,r61,r62,r63,r64,r65,r66] [28,29] fq16.n4 fq16.n5 true none],lk⟩)∨(t=1∧s=⟨H ++ [.cells [vA],.cells [iv 1],.cells [.slice true 0 []],.cells [iv 0],.cells [iv 0,iv 0,iv 0],.cells [.sref (H.length + 4) 0 3 3 1],.cells [.sref (H.length + 15) 0 1 2 1,.fn F_fq17 [.ptr H.length 0 1]],.map shI 3 [(iv 0,.sref (H.length + 10) 0 2 2 1),(iv 1,.sref (H.length + 13) 0 1 1 1)],.cells [.map (H.length + 7)],x1,.cells [iv 0,iv 1],x2,x3,.cells [iv 2],.loop [r0,r1,.ptr H.length 0 1,.ptr (H.length + 1) 0 1,.ptr (H.length + 2) 0 1,.ptr (H.length + 3) 0 1,r6,.ptr (H.length + 5) 0 1,.ptr (H.length + 6) 0 2,r9,r10,r11,r12,r13,r14,r15,r16,r17,r18,r19,r20,r21,r22,r23,r24,r25,r26,r27,r28,r29,r30,r31,r32,r33,r34,r35,r36,r37,r38,r39,r40,r41,r42,r43,r44,r45,r46,r47,r48,r49,r50,r51,r52,r53,r54,r55,r56,r57,r58,r59,r60,r61,r62,r63,r64,r65,r66] [28,29] fq16.n4 fq16.n5 true none,.cells [iv 0,iv 0]],true⟩)∨(t=2∧s=⟨H ++ [.cells [vA],.cells [iv 1],.cells [.slice true 0 []],.cells [iv 0],.cells [iv 0,iv 0,iv 1],.cells [.sref (H.length + 4) 0 3 3 1],.cells [.sref (H.length + 15) 0 1 2 1,.fn F_fq17 [.ptr H.length 0 1]],.map shI 3 [(iv 0,.sref (H.length + 10) 0 2 2 1),(iv 1,.sref (H.length + 13) 0 1 1 1)],.cells [.map (H.length + 7)],x1,.cells [iv 0,iv 1],x2,x3,.cells [iv 2],.loop [r0,r1,.ptr H.length 0 1,.ptr (H.length + 1) 0 1,.ptr (H.length + 2) 0 1,.ptr (H.length + 3) 0 1,r6,.ptr (H.length + 5) 0 1,.ptr (H.length + 6) 0 2,r9,r10,r11,r12,r13,r14,r15,r16,r17,r18,r19,r20,r21,r22,r23,r24,r25,r26,r27,r28,r29,r30,r31,r32,r33,r34,r35,r36,r37,r38,r39,r40,r41,r42,r43,r44,r45,r46,r47,r48,r49,r50,r51,r52,r53,r54,r55,r56,r57,r58,r59,r60,r61,r62,r63,r64,r65,r66] [28,29] fq16.n4 fq16.n5 true none,.cells [iv 0,iv 0]],true⟩)∨(3≤t∧s=⟨H ++ [.cells [vA],.cells [iv 1],.cells [.slice true 0 []],.cells [iv 0],.cells [iv 2,iv 0,iv 1],.cells [.sref (H.length + 4) 0 3 3 1],.cells [.slice false 1 [],.fn F_fq17 [.ptr H.length 0 1]],.map shI 3 [(iv 0,.sref (H.length + 10) 0 2 2 1),(iv 1,.sref (H.length + 13) 0 1 1 1)],.cells [.map (H.length + 7)],x1,.cells [iv 0,iv 1],x2,x3,.cells [iv 2],.loop [r0,r1,.ptr H.length 0 1,.ptr (H.length + 1) 0 1,.ptr (H.length + 2) 0 1,.ptr (H.length + 3) 0 1,r6,.ptr (H.length + 5) 0 1,.ptr (H.length + 6) 0 2,r9,r10,r11,r12,r13,r14,r15,r16,r17,r18,r19,r20,r21,r22,r23,r24,r25,r26,r27,r28,r29,r30,r31,r32,r33,r34,r35,r36,r37,r38,r39,r40,r41,r42,r43,r44,r45,r46,r47,r48,r49,r50,r51,r52,r53,r54,r55,r56,r57,r58,r59,r60,r61,r62,r63,r64,r65,r66] [28,29] fq16.n4 fq16.n5 true none,.cells [iv 0,iv 0]],true⟩)) (R:=fun s=>s=⟨H ++ [.cells [vA],.cells [iv 1],.cells [.slice true 0 []],.cells [iv 0],.cells [iv 2,iv 0,iv 1],.cells [.sref (H.length + 4) 0 3 3 1],.cells [.slice false 1 [],.fn F_fq17 [.ptr H.length 0 1]],.map shI 3 [(iv 0,.sref (H.length + 10) 0 2 2 1),(iv 1,.sref (H.length + 13) 0 1 1 1)],.cells [.map (H.length + 7)],x1,.cells [iv 0,iv 1],x2,x3,.cells [iv 2],.loop [r0,r1,.ptr H.length 0 1,.ptr (H.length + 1) 0 1,.ptr (H.length + 2) 0 1,.ptr (H.length + 3) 0 1,r6,.ptr (H.length + 5) 0 1,.ptr (H.length + 6) 0 2,r9,r10,r11,r12,r13,r14,r15,r16,r17,r18,r19,r20,r21,r22,r23,r24,r25,r26,r27,r28,r29,r30,r31,r32,r33,r34,r35,r36,r37,r38,r39,r40,r41,r42,r43,r44,r45,r46,r47,r48,r49,r50,r51,r52,r53,r54,r55,r56,r57,r58,r59,r60,r61,r62,r63,r64,r65,r66] [28,29] fq16.n4 fq16.n5 true none,.cells [iv 0,iv 0]],true⟩) (by omega) ?_ (.inl ⟨rfl,_,rfl⟩) (fun s h=>by rcases h with ⟨h,_⟩ | ⟨h,_⟩ | ⟨h,_⟩ | ⟨_,h⟩ <;> first | omega | exact h) (fun s h=>by subst h; exact ⟨rfl,hK⟩)
  rintro t s ht (⟨rfl,lk',rfl⟩ | ⟨rfl,rfl⟩ | ⟨rfl,rfl⟩ | ⟨h3,rfl⟩)
  · refine ⟨.map (H.length + 7),.sref (H.length + 10) 0 2 2 1,by simp -implicitDefEqProofs only [sw0,sw1,sw2,sw3,sw4,sw5,reduceCtorEq,Nat.reduceEqDiff,Nat.reduceAdd,Nat.reduceDiv,Nat.reduceLeDiff,dw0,Int.reduceAdd,Int.reduceSub,Int.reduceMul,Int.reduceLT,Int.reduceLE,Int.reduceNeg,Int.reduceEq,Int.reduceToNat,Nat.reduceLT,Nat.reduceMul,Nat.reduceSub,Nat.reduceBEq,Nat.reduceLeDiff,xw0,eApp,rowOf,appRow,lkL,lkN,eMupd,vLook,mapSh,findE,putE,keqL,hasSh,fits,shb,Int.reduceBEq,eMksl,vSlc,boundsOf,boundOf,cleanL,Nat.reduceGT,Int.reduceGT,Int.reduceGE,Int.reduceDiv,Int.reduceTDiv,vAidx,rdc],by simp -implicitDefEqProofs only [sw0,sw1,sw2,sw3,sw4,sw5,reduceCtorEq,Nat.reduceEqDiff,Nat.reduceAdd,Nat.reduceDiv,Nat.reduceLeDiff,dw0,Int.reduceAdd,Int.reduceSub,Int.reduceMul,Int.reduceLT,Int.reduceLE,Int.reduceNeg,Int.reduceEq,Int.reduceToNat,Nat.reduceLT,Nat.reduceMul,Nat.reduceSub,Nat.reduceBEq,Nat.reduceLeDiff,xw0,eApp,rowOf,appRow,lkL,lkN,eMupd,vLook,mapSh,findE,putE,keqL,hasSh,fits,shb,Int.reduceBEq,eMksl,vSlc,boundsOf,boundOf,cleanL,Nat.reduceGT,Int.reduceGT,Int.reduceGE,Int.reduceDiv,Int.reduceTDiv,vAidx,rdc],fun b=>yA0 hk ?_⟩
    exact .inl ⟨rfl,.inr (.inl ⟨rfl,rfl⟩)⟩
  · refine ⟨.map (H.length + 7),.sref (H.length + 13) 0 1 1 1,by simp -implicitDefEqProofs only [sw0,sw1,sw2,sw3,sw4,sw5,reduceCtorEq,Nat.reduceEqDiff,Nat.reduceAdd,Nat.reduceDiv,Nat.reduceLeDiff,dw0,Int.reduceAdd,Int.reduceSub,Int.reduceMul,Int.reduceLT,Int.reduceLE,Int.reduceNeg,Int.reduceEq,Int.reduceToNat,Nat.reduceLT,Nat.reduceMul,Nat.reduceSub,Nat.reduceBEq,Nat.reduceLeDiff,xw0,eApp,rowOf,appRow,lkL,lkN,eMupd,vLook,mapSh,findE,putE,keqL,hasSh,fits,shb,Int.reduceBEq,eMksl,vSlc,boundsOf,boundOf,cleanL,Nat.reduceGT,Int.reduceGT,Int.reduceGE,Int.reduceDiv,Int.reduceTDiv,vAidx,rdc],by simp -implicitDefEqProofs only [sw0,sw1,sw2,sw3,sw4,sw5,reduceCtorEq,Nat.reduceEqDiff,Nat.reduceAdd,Nat.reduceDiv,Nat.reduceLeDiff,dw0,Int.reduceAdd,Int.reduceSub,Int.reduceMul,Int.reduceLT,Int.reduceLE,Int.reduceNeg,Int.reduceEq,Int.reduceToNat,Nat.reduceLT,Nat.reduceMul,Nat.reduceSub,Nat.reduceBEq,Nat.reduceLeDiff,xw0,eApp,rowOf,appRow,lkL,lkN,eMupd,vLook,mapSh,findE,putE,keqL,hasSh,fits,shb,Int.reduceBEq,eMksl,vSlc,boundsOf,boundOf,cleanL,Nat.reduceGT,Int.reduceGT,Int.reduceGE,Int.reduceDiv,Int.reduceTDiv,vAidx,rdc],fun b=>yA1 hk ?_⟩
    exact .inl ⟨rfl,.inr (.inr (.inl ⟨rfl,rfl⟩))⟩
  · refine ⟨.map (H.length + 7),.slice true 0 [],by simp -implicitDefEqProofs only [sw0,sw1,sw2,sw3,sw4,sw5,reduceCtorEq,Nat.reduceEqDiff,Nat.reduceAdd,Nat.reduceDiv,Nat.reduceLeDiff,dw0,Int.reduceAdd,Int.reduceSub,Int.reduceMul,Int.reduceLT,Int.reduceLE,Int.reduceNeg,Int.reduceEq,Int.reduceToNat,Nat.reduceLT,Nat.reduceMul,Nat.reduceSub,Nat.reduceBEq,Nat.reduceLeDiff,xw0,eApp,rowOf,appRow,lkL,lkN,eMupd,vLook,mapSh,findE,putE,keqL,hasSh,fits,shb,Int.reduceBEq,eMksl,vSlc,boundsOf,boundOf,cleanL,Nat.reduceGT,Int.reduceGT,Int.reduceGE,Int.reduceDiv,Int.reduceTDiv,vAidx,rdc],by simp -implicitDefEqProofs only [sw0,sw1,sw2,sw3,sw4,sw5,reduceCtorEq,Nat.reduceEqDiff,Nat.reduceAdd,Nat.reduceDiv,Nat.reduceLeDiff,dw0,Int.reduceAdd,Int.reduceSub,Int.reduceMul,Int.reduceLT,Int.reduceLE,Int.reduceNeg,Int.reduceEq,Int.reduceToNat,Nat.reduceLT,Nat.reduceMul,Nat.reduceSub,Nat.reduceBEq,Nat.reduceLeDiff,xw0,eApp,rowOf,appRow,lkL,lkN,eMupd,vLook,mapSh,findE,putE,keqL,hasSh,fits,shb,Int.reduceBEq,eMksl,vSlc,boundsOf,boundOf,cleanL,Nat.reduceGT,Int.reduceGT,Int.reduceGE,Int.reduceDiv,Int.reduceTDiv,vAidx,rdc],fun b=>yA2 hk ?_⟩
    exact .inl ⟨rfl,.inr (.inr (.inr ⟨by omega,rfl⟩))⟩
  · have e0:((t:Int) == 0)=false:=by simp; omega
    have e1:((t:Int) == 1)=false:=by simp; omega
    refine ⟨.map (H.length + 7),.slice true 0 [],by simp -implicitDefEqProofs only [sw0,sw1,sw2,sw3,sw4,sw5,reduceCtorEq,Nat.reduceEqDiff,Nat.reduceAdd,Nat.reduceDiv,Nat.reduceLeDiff,dw0,Int.reduceAdd,Int.reduceSub,Int.reduceMul,Int.reduceLT,Int.reduceLE,Int.reduceNeg,Int.reduceEq,Int.reduceToNat,Nat.reduceLT,Nat.reduceMul,Nat.reduceSub,Nat.reduceBEq,Nat.reduceLeDiff,xw0,eApp,rowOf,appRow,lkL,lkN,eMupd,vLook,mapSh,findE,putE,keqL,hasSh,fits,shb,Int.reduceBEq,eMksl,vSlc,boundsOf,boundOf,cleanL,Nat.reduceGT,Int.reduceGT,Int.reduceGE,Int.reduceDiv,Int.reduceTDiv,vAidx,rdc],by simp -implicitDefEqProofs only [sw0,sw1,sw2,sw3,sw4,sw5,reduceCtorEq,Nat.reduceEqDiff,Nat.reduceAdd,Nat.reduceDiv,Nat.reduceLeDiff,dw0,Int.reduceAdd,Int.reduceSub,Int.reduceMul,Int.reduceLT,Int.reduceLE,Int.reduceNeg,Int.reduceEq,Int.reduceToNat,Nat.reduceLT,Nat.reduceMul,Nat.reduceSub,Nat.reduceBEq,Nat.reduceLeDiff,xw0,eApp,rowOf,appRow,lkL,lkN,eMupd,vLook,mapSh,findE,putE,keqL,hasSh,fits,shb,Int.reduceBEq,eMksl,vSlc,boundsOf,boundOf,cleanL,Nat.reduceGT,Int.reduceGT,Int.reduceGE,Int.reduceDiv,Int.reduceTDiv,vAidx,rdc,e0,e1],fun b=>yA3 hk ?_⟩
    exact .inl ⟨rfl,.inr (.inr (.inr ⟨by omega,rfl⟩))⟩
theorem slotsA (hk:200≤k) (hK:K (.fn F_fq41 [.ptr (H.length + 1) 0 1]) ⟨H ++ [.map shI 3 [(iv 0,.sref (H.length + 3) 0 2 2 1),(iv 1,.sref (H.length + 6) 0 1 1 1)],.cells [.map H.length],.cells [iv 0,iv 0,iv 3],.cells [iv 0,iv 1],.cells [iv 1,iv 0,iv 2],.cells [iv 2,iv 1,iv 2],.cells [iv 2]],false⟩):VC ⟨prog,k + 1,b⟩ F_fq40 [vA] ⟨H,false⟩ K:=by
  apply fq40.enter
  have hu:AV.under H.length (AV.fn F_fq41 [AV.ptr (H.length + 1) 0 1])=false:=by simp [AV.under,underL]
  simp -implicitDefEqProofs only [fq40.n0_w,sw0,sw1,sw2,sw3,sw4,sw5,reduceCtorEq,Nat.reduceEqDiff,Nat.reduceAdd,Nat.reduceDiv,Nat.reduceLeDiff,dw0,Int.reduceAdd,Int.reduceSub,Int.reduceMul,Int.reduceLT,Int.reduceLE,Int.reduceNeg,Int.reduceEq,Int.reduceToNat,Nat.reduceLT,Nat.reduceMul,Nat.reduceSub,Nat.reduceBEq,Nat.reduceLeDiff,xw0,eApp,rowOf,appRow,lkL,lkN,eMupd,vLook,mapSh,findE,putE,keqL,hasSh,fits,shb,Int.reduceBEq,eMksl,vSlc,boundsOf,boundOf,cleanL,Nat.reduceGT,Int.reduceGT,Int.reduceGE,Int.reduceDiv,Int.reduceTDiv,vAidx,rdc,slots_u1]
  rw [wl_1 (by omega)]
  simp -implicitDefEqProofs only [fq40.n2_w,sw0,sw1,sw2,sw3,sw4,sw5,reduceCtorEq,Nat.reduceEqDiff,Nat.reduceAdd,Nat.reduceDiv,Nat.reduceLeDiff,dw0,Int.reduceAdd,Int.reduceSub,Int.reduceMul,Int.reduceLT,Int.reduceLE,Int.reduceNeg,Int.reduceEq,Int.reduceToNat,Nat.reduceLT,Nat.reduceMul,Nat.reduceSub,Nat.reduceBEq,Nat.reduceLeDiff,xw0,eApp,rowOf,appRow,lkL,lkN,eMupd,vLook,mapSh,findE,putE,keqL,hasSh,fits,shb,Int.reduceBEq,eMksl,vSlc,boundsOf,boundOf,cleanL,Nat.reduceGT,Int.reduceGT,Int.reduceGE,Int.reduceDiv,Int.reduceTDiv,vAidx,rdc,fq40.n4_w]
  rw [wl_1 (by omega)]
  simp -implicitDefEqProofs only [fq40.n2_w,sw0,sw1,sw2,sw3,sw4,sw5,reduceCtorEq,Nat.reduceEqDiff,Nat.reduceAdd,Nat.reduceDiv,Nat.reduceLeDiff,dw0,Int.reduceAdd,Int.reduceSub,Int.reduceMul,Int.reduceLT,Int.reduceLE,Int.reduceNeg,Int.reduceEq,Int.reduceToNat,Nat.reduceLT,Nat.reduceMul,Nat.reduceSub,Nat.reduceBEq,Nat.reduceLeDiff,xw0,eApp,rowOf,appRow,lkL,lkN,eMupd,vLook,mapSh,findE,putE,keqL,hasSh,fits,shb,Int.reduceBEq,eMksl,vSlc,boundsOf,boundOf,cleanL,Nat.reduceGT,Int.reduceGT,Int.reduceGE,Int.reduceDiv,Int.reduceTDiv,vAidx,rdc,fq40.n4_w]
  rw [wl_1 (by omega)]
  simp -implicitDefEqProofs only [fq40.n2_w,sw0,sw1,sw2,sw3,sw4,sw5,reduceCtorEq,Nat.reduceEqDiff,Nat.reduceAdd,Nat.reduceDiv,Nat.reduceLeDiff,dw0,Int.reduceAdd,Int.reduceSub,Int.reduceMul,Int.reduceLT,Int.reduceLE,Int.reduceNeg,Int.reduceEq,Int.reduceToNat,Nat.reduceLT,Nat.reduceMul,Nat.reduceSub,Nat.reduceBEq,Nat.reduceLeDiff,xw0,eApp,rowOf,appRow,lkL,lkN,eMupd,vLook,mapSh,findE,putE,keqL,hasSh,fits,shb,Int.reduceBEq,eMksl,vSlc,boundsOf,boundOf,cleanL,Nat.reduceGT,Int.reduceGT,Int.reduceGE,Int.reduceDiv,Int.reduceTDiv,vAidx,rdc,fq40.n4_w]
  rw [wl_1 (by omega)]
  simp -implicitDefEqProofs only [fq40.n2_w,sw0,sw1,sw2,sw3,sw4,sw5,reduceCtorEq,Nat.reduceEqDiff,Nat.reduceAdd,Nat.reduceDiv,Nat.reduceLeDiff,dw0,Int.reduceAdd,Int.reduceSub,Int.reduceMul,Int.reduceLT,Int.reduceLE,Int.reduceNeg,Int.reduceEq,Int.reduceToNat,Nat.reduceLT,Nat.reduceMul,Nat.reduceSub,Nat.reduceBEq,Nat.reduceLeDiff,xw0,eApp,rowOf,appRow,lkL,lkN,eMupd,vLook,mapSh,findE,putE,keqL,hasSh,fits,shb,Int.reduceBEq,eMksl,vSlc,boundsOf,boundOf,cleanL,Nat.reduceGT,Int.reduceGT,Int.reduceGE,Int.reduceDiv,Int.reduceTDiv,vAidx,rdc,fq40.n5_w,fq40.ret,hu]
  exact hK
theorem PlanA (hk:3000≤k) (hK:∀ L n,SI (H ++ L) n [2,0,1]→K (.tup [n,iv 0]) ⟨H ++ L,true⟩):VC ⟨prog,k,b⟩ F_fq16 [vA,iv 1] ⟨H,lk⟩ K:=by
  obtain ⟨k,rfl⟩:∃ j,k=j + 1:=⟨k - 1,by omega⟩
  apply fq16.enter
  have hjb:(decide (jA.length≤200) && jA.all jobOk)=true:=by decide
  have h11:((1:Int)≤1∧(1:Int)≤8)=True:=by simp
  have hask:=fun (H':List AObj) (K:AV→St→Prop)=>asked_s (K:=K) (k:=k) (b:=some H.length) (lk:=false) (by omega) (H:=H') vA_sl (c:=1) (by decide)
  simp -implicitDefEqProofs only [hjb,if_true,h11] at hask
  have hmk:∀ (H':List AObj),eMksl ⟨H',false⟩ 1 8 [iv 0] (iv 3) (iv 3)=some (.sref H'.length 0 3 (3 * 1) 1,⟨H' ++ [.cells [iv 0,iv 0,iv 0]],false⟩):=fun H'=>by simp [eMksl,push]
  simp -implicitDefEqProofs only [fq16.n0_w,sw0,sw1,sw2,sw3,sw4,sw5,reduceCtorEq,Nat.reduceEqDiff,Nat.reduceAdd,Nat.reduceDiv,Nat.reduceLeDiff,dw0,Int.reduceAdd,Int.reduceSub,Int.reduceMul,Int.reduceLT,Int.reduceLE,Int.reduceNeg,Int.reduceEq,Int.reduceToNat,Nat.reduceLT,Nat.reduceMul,Nat.reduceSub,Nat.reduceBEq,Nat.reduceLeDiff,hask,fq16.n2_w,hmk]
  obtain ⟨k1,hk1⟩:∃ j,k=j + 1:=⟨k - 1,by omega⟩
  have hsl:=fun (H':List AObj) (K:AV→St→Prop) (b:Option Nat) (hK)=>@slotsA k1 b H' K (by omega) hK
  rw [← hk1] at hsl
  refine hsl _ _ _ ?_
  simp -implicitDefEqProofs only [sw0,sw1,sw2,sw3,sw4,sw5,reduceCtorEq,Nat.reduceEqDiff,Nat.reduceAdd,Nat.reduceDiv,Nat.reduceLeDiff,dw0,Int.reduceAdd,Int.reduceSub,Int.reduceMul,Int.reduceLT,Int.reduceLE,Int.reduceNeg,Int.reduceEq,Int.reduceToNat,Nat.reduceLT,Nat.reduceMul,Nat.reduceSub,Nat.reduceBEq,Nat.reduceLeDiff,xw0,eApp,rowOf,appRow,lkL,lkN,eMupd,vLook,mapSh,findE,putE,keqL,hasSh,fits,shb,Int.reduceBEq,eMksl,vSlc,boundsOf,boundOf,cleanL,Nat.reduceGT,Int.reduceGT,Int.reduceGE,Int.reduceDiv,Int.reduceTDiv,vAidx,rdc]
  refine WC_rf (f:=F_fq41) (caps:=[.ptr (H.length + 8) 0 1]) rfl ?_
  obtain ⟨k',hk'⟩:∃ j,k=j + 2:=⟨k - 2,by omega⟩
  simp -implicitDefEqProofs only [sw0,sw1,sw2,sw3,sw4,sw5,reduceCtorEq,Nat.reduceEqDiff,Nat.reduceAdd,Nat.reduceDiv,Nat.reduceLeDiff,dw0,Int.reduceAdd,Int.reduceSub,Int.reduceMul,Int.reduceLT,Int.reduceLE,Int.reduceNeg,Int.reduceEq,Int.reduceToNat,Nat.reduceLT,Nat.reduceMul,Nat.reduceSub,Nat.reduceBEq,Nat.reduceLeDiff,xw0,eApp,rowOf,appRow,lkL,lkN,eMupd,vLook,mapSh,findE,putE,keqL,hasSh,fits,shb,Int.reduceBEq,eMksl,vSlc,boundsOf,boundOf,cleanL,Nat.reduceGT,Int.reduceGT,Int.reduceGE,Int.reduceDiv,Int.reduceTDiv,vAidx,rdc]
  have hrun:=fun (K:AV→St→Prop) (b:Option Nat)=>@runA k' b H false K (by omega)
  rw [← hk'] at hrun
  refine hrun _ _ ?_
  simp -implicitDefEqProofs only [RF,sw0,sw1,sw2,sw3,sw4,sw5,reduceCtorEq,Nat.reduceEqDiff,Nat.reduceAdd,Nat.reduceDiv,Nat.reduceLeDiff,dw0,Int.reduceAdd,Int.reduceSub,Int.reduceMul,Int.reduceLT,Int.reduceLE,Int.reduceNeg,Int.reduceEq,Int.reduceToNat,Nat.reduceLT,Nat.reduceMul,Nat.reduceSub,Nat.reduceBEq,Nat.reduceLeDiff,xw0,eApp,rowOf,appRow,lkL,lkN,eMupd,vLook,mapSh,findE,putE,keqL,hasSh,fits,shb,Int.reduceBEq,eMksl,vSlc,boundsOf,boundOf,cleanL,Nat.reduceGT,Int.reduceGT,Int.reduceGE,Int.reduceDiv,Int.reduceTDiv,vAidx,rdc,fq16.n18_w,fq16.n20_w]
  simp -implicitDefEqProofs only [RK_r,fq16.res,resultsOf,resultOf,sw0,sw1,sw2,sw3,sw4,sw5,reduceCtorEq,Nat.reduceEqDiff,Nat.reduceAdd,Nat.reduceDiv,Nat.reduceLeDiff,dw0,Int.reduceAdd,Int.reduceSub,Int.reduceMul,Int.reduceLT,Int.reduceLE,Int.reduceNeg,Int.reduceEq,Int.reduceToNat,Nat.reduceLT,Nat.reduceMul,Nat.reduceSub,Nat.reduceBEq,Nat.reduceLeDiff,xw0,eApp,rowOf,appRow,lkL,lkN,eMupd,vLook,mapSh,findE,putE,keqL,hasSh,fits,shb,Int.reduceBEq,eMksl,vSlc,boundsOf,boundOf,cleanL,Nat.reduceGT,Int.reduceGT,Int.reduceGE,Int.reduceDiv,Int.reduceTDiv,vAidx,rdc]
  refine hK _ _ ⟨Nat.one_pos,ic_len,.inr ⟨H.length + 4,0,3,[iv 2,iv 0,iv 1],rfl,by simp -implicitDefEqProofs only [sw0,sw1,sw2,sw3,sw4,sw5,reduceCtorEq,Nat.reduceEqDiff,Nat.reduceAdd,Nat.reduceDiv,Nat.reduceLeDiff,dw0,Int.reduceAdd,Int.reduceSub,Int.reduceMul,Int.reduceLT,Int.reduceLE,Int.reduceNeg,Int.reduceEq,Int.reduceToNat,Nat.reduceLT,Nat.reduceMul,Nat.reduceSub,Nat.reduceBEq,Nat.reduceLeDiff,xw0,eApp,rowOf,appRow,lkL,lkN,eMupd,vLook,mapSh,findE,putE,keqL,hasSh,fits,shb,Int.reduceBEq,eMksl,vSlc,boundsOf,boundOf,cleanL,Nat.reduceGT,Int.reduceGT,Int.reduceGE,Int.reduceDiv,Int.reduceTDiv,vAidx,rdc],rfl⟩⟩
end Go.Proofs.YtcebebhaahpoiaaDoor
end
section
namespace Go.Proofs.YtcebebhaahpoiaaDoor
open Go Go.Ai Go.W
attribute [local irreducible] VC YC WC
set_option linter.unusedSimpArgs false
set_option linter.unusedVariables false
set_option maxRecDepth 10000
variable {k:Nat} {b:Option Nat} {H:List AObj} {lk:Bool} {K:AV→St→Prop}
theorem eqs_kc {p q:Int × Int}:vEqs true (.sh (.mk true [.int .i64,.int .i64])) (.agg (kc p)) (.agg (kc q))=some (.bool (!decide (p=q))):=by
  show vEqs true (.sh (.mk true [.int .i64,.int .i64])) (ev2 p) (ev2 q)=_
  simp -implicitDefEqProofs only [vEqs,evEq,key_iv2.sh,key_iv2.keq,Bool.and_self,if_true,Option.bind_some]
theorem SamePairs_s (hk:1005≤k) {v w:AV} {xs ys:List (Int × Int)} (hs:Sl H 2 kc v xs) (ht:Sl H 2 kc w ys) (hl:xs.length≤1000):VC ⟨prog,k,b⟩ F_fq46 [v,w] ⟨H,lk⟩ K=K (.bool (decide (xs=ys))) ⟨H,lk⟩:=by
  obtain ⟨k,rfl⟩:∃ j,k=j + 1:=⟨k - 1,by omega⟩
  apply VC_iff
  apply fq46.enter
  simp -implicitDefEqProofs only [fq46.n0_w,sw0,sw1,sw2,sw3,sw4,sw5,reduceCtorEq,Nat.reduceEqDiff,Nat.reduceAdd,Nat.reduceDiv,Nat.reduceLeDiff,hs.len,ht.len]
  split
  · rename_i hne
    have:xs ≠ ys:=fun e=>hne (by rw [e])
    simp -implicitDefEqProofs only [fq46.n1_w,sw0,sw1,sw2,sw3,sw4,sw5,reduceCtorEq,Nat.reduceEqDiff,Nat.reduceAdd,Nat.reduceDiv,Nat.reduceLeDiff,fq46.ret,decide_eq_false this]
  · rename_i heq
    have hlen:xs.length=ys.length:=by omega
    simp -implicitDefEqProofs only [fq46.n2_w,sw0,sw1,sw2,sw3,sw4,sw5,reduceCtorEq,Nat.reduceEqDiff,Nat.reduceAdd,Nat.reduceDiv,Nat.reduceLeDiff]
    refine fq46.n3_l (fun m r3 s=>∃ i:Nat,r3=iv i∧s=⟨H,false⟩∧m=xs.length - i∧i≤xs.length∧∀ j (h:j < xs.length) (h':j < ys.length),j < i→xs[j]=ys[j]) xs.length (by simp -implicitDefEqProofs only []; omega) ⟨0,rfl,rfl,by omega,by omega,fun j _ _ h=>by omega⟩ ?_
    rintro m r2 r3 r4 r5 s ⟨i,rfl,rfl,rfl,hi,hno⟩
    simp -implicitDefEqProofs only [fq46.n4_w,sw0,sw1,sw2,sw3,sw4,sw5,reduceCtorEq,Nat.reduceEqDiff,Nat.reduceAdd,Nat.reduceDiv,Nat.reduceLeDiff,hs.len]
    split
    · rename_i hlt
      have hlt:i < xs.length:=by omega
      have hlt':i < ys.length:=by omega
      simp -implicitDefEqProofs only [fq46.n6_w,sw0,sw1,sw2,sw3,sw4,sw5,reduceCtorEq,Nat.reduceEqDiff,Nat.reduceAdd,Nat.reduceDiv,Nat.reduceLeDiff,hs.at,ht.at,hlt,hlt',hs.lda hlt,ht.lda hlt',eqs_kc]
      split
      · rename_i hne
        have:xs ≠ ys:=fun e=>hne (by subst e; rfl)
        simp -implicitDefEqProofs only [fq46.n7_w,sw0,sw1,sw2,sw3,sw4,sw5,reduceCtorEq,Nat.reduceEqDiff,Nat.reduceAdd,Nat.reduceDiv,Nat.reduceLeDiff,fq46.ret,decide_eq_false this]
      · rename_i he
        simp -implicitDefEqProofs only [fq46.n8_w,sw0,sw1,sw2,sw3,sw4,sw5,reduceCtorEq,Nat.reduceEqDiff,Nat.reduceAdd,Nat.reduceDiv,Nat.reduceLeDiff]
        refine fq46.n3_go (m':=xs.length - (i + 1)) (by omega) ⟨i + 1,by rw [wrap64 (by omega)]; rfl,rfl,rfl,by omega,?_⟩
        intro j h h' hj
        by_cases hji:j=i
        · subst hji; simpa using he
        · exact hno j h h' (by omega)
    · rename_i hge
      have:xs=ys:=List.ext_getElem hlen fun j h h'=>hno j h h' (by omega)
      simp -implicitDefEqProofs only [fq46.n9_w,sw0,sw1,sw2,sw3,sw4,sw5,reduceCtorEq,Nat.reduceEqDiff,Nat.reduceAdd,Nat.reduceDiv,Nat.reduceLeDiff,fq46.ret,decide_eq_true this]
def plA:Plt:={ heat:=5,low:=0,high:=10,loads:=[4,4,4],prices:=[1,3,1],machs:=[⟨6,2,1⟩] }
abbrev csA:List AV:=[iv 5,iv 0,iv 10,.slice true 1 [[iv 4],[iv 4],[iv 4]],.slice true 1 [[iv 1],[iv 3],[iv 1]],.slice true 3 [[iv 6,iv 2,iv 1]]]
theorem plA_pv:PV H csA plA:=⟨_,_,_,rfl,Sl.lit Nat.one_pos ic_len rfl,Sl.lit Nat.one_pos ic_len rfl,Sl.lit (by omega) (fun _=>rfl) rfl⟩
theorem plA_cool:plA.cool=[.slice false 1 [[iv 1],[iv 0],[iv 1]],iv 6,iv 0]:=by rfl
theorem plA_sched:plA.sched [1,0,1]=true:=by rfl
def msA:List (Int × Int):=[(0,0),(10,0),(11,0),(1,0)]
theorem msA_ans:matchAns msA=[.slice false 2 [[iv 0,iv 3],[iv 1,iv 2]],iv 2,iv 0]:=by rfl
theorem nxA:nextAns 2 [(.slice true 1 [[iv 0],[iv 1]],[0,1])]=[.slice false 1 [[iv 1],[iv 0]],iv 0]:=by rfl
theorem awake_s (hk:16 ^ 53≤k) (hK:∀ s,K (.bool true) s):VC ⟨prog,k,b⟩ F_fq2 [] ⟨H,lk⟩ K:=by
  have e53:(16:Nat) ^ 53=6582018229284824168619876730229402019930943462534319453394436096:=by decide
  have e52:(16:Nat) ^ 52=411376139330301510538742295639337626245683966408394965837152256:=by decide
  obtain ⟨k,rfl⟩:∃ j,k=j + 1:=⟨k - 1,by omega⟩
  apply fq2.enter
  have hp:PV (H ++ [.cells csA]) csA plA:=plA_pv
  have hcool:=fun (K:AV→St→Prop)=>Cool_s (K:=K) (k:=k) (b:=some H.length) (lk:=false) (by omega) hp (by decide)
  rw [plA_cool] at hcool
  have hS:SI (H ++ [.cells csA]) (.slice true 1 [[iv 1],[iv 0],[iv 1]]) [1,0,1]:=Sl.lit Nat.one_pos ic_len rfl
  have hheats:=fun (K:AV→St→Prop)=>Heats_s (K:=K) (k:=k) (b:=some H.length) (lk:=false) (by omega) hp hS (by decide) (by decide)
  have e1:heatsFrom plA 0 plA.heat [1,0,1]=[3,7,5]:=by rfl
  rw [if_pos plA_sched,e1] at hheats
  simp -implicitDefEqProofs only [List.map_cons,List.map_nil,ic] at hheats
  simp -implicitDefEqProofs only [fq2.n0_w,sw0,sw1,sw2,sw3,sw4,sw5,reduceCtorEq,Nat.reduceEqDiff,Nat.reduceAdd,Nat.reduceDiv,Nat.reduceLeDiff,hcool,hheats]
  refine PlanA (by omega) ?_
  intro L n hn
  simp -implicitDefEqProofs only [sw0,sw1,sw2,sw3,sw4,sw5,reduceCtorEq,Nat.reduceEqDiff,Nat.reduceAdd,Nat.reduceDiv,Nat.reduceLeDiff]
  refine PlanB (by omega) ?_
  intro L2
  simp -implicitDefEqProofs only [sw0,sw1,sw2,sw3,sw4,sw5,reduceCtorEq,Nat.reduceEqDiff,Nat.reduceAdd,Nat.reduceDiv,Nat.reduceLeDiff,CrowdB (k:=k) (by omega)]
  obtain ⟨G,hG⟩:∃ G,G=H ++ AObj.cells csA :: (L ++ L2):=⟨_,rfl⟩
  have hn':SI G n [2,0,1]:=by
    have:=hn.app (L:=L2)
    rw [hG]
    simpa using this
  rw [← hG]
  have hm:=fun (K:AV→St→Prop)=>Match_s (K:=K) (k:=k) (b:=some H.length) (lk:=true) (H:=G) (by omega) (show Sl G 2 kc (.slice true 2 [[iv 0,iv 0],[iv 10,iv 0],[iv 11,iv 0],[iv 1,iv 0]]) msA from Sl.lit (by omega) kc_len rfl) (by decide)
  rw [msA_ans] at hm
  have hx:=fun (K:AV→St→Prop)=>Next_s (K:=K) (k:=k) (b:=some H.length) (lk:=true) (H:=G) (n:=2) (by omega) (show RD G (.slice true 1 [[.slice true 1 [[iv 0],[iv 1]]]]) [(.slice true 1 [[iv 0],[iv 1]],[0,1])] from ⟨Sl.lit Nat.one_pos rc_len rfl,fun q hq=>by simp -implicitDefEqProofs only [List.mem_singleton] at hq; subst hq; exact Sl.lit Nat.one_pos ic_len rfl⟩) (by decide) (by decide)
  rw [nxA] at hx
  have hI:∀ {v w:AV} {xs:List Int},SI G v xs→SI G w xs→xs.length≤1000→∀ (K:AV→St→Prop),VC ⟨prog,k,some H.length⟩ F_fq44 [v,w] ⟨G,true⟩ K=K (.bool true) ⟨G,true⟩:=fun h1 h2 h3 K=>by
    rw [r02_Ints_s (k:=k) (by omega) h1 h2 h3,decide_eq_true rfl]
  have hV:∀ (f:Bool) (xs:List Int),SI G (.slice f 1 (xs.map ic)) xs:=fun f xs=>Sl.val Nat.one_pos ic_len
  have i1:=hI (hV false [1,0,1]) (hV true [1,0,1]) (by decide)
  have i2:=hI (hV false [3,7,5]) (hV true [3,7,5]) (by decide)
  have i3:=hI hn' (hV true [2,0,1]) (by decide)
  have i4:=hI (hV false [1,0]) (hV true [1,0]) (by decide)
  have hsp:=fun (K:AV→St→Prop)=>SamePairs_s (K:=K) (k:=k) (b:=some H.length) (lk:=true) (H:=G) (v:=.slice false 2 [[iv 0,iv 3],[iv 1,iv 2]]) (w:=.slice true 2 [[iv 0,iv 3],[iv 1,iv 2]]) (xs:=[(0,3),(1,2)]) (ys:=[(0,3),(1,2)]) (by omega) (Sl.lit (by omega) kc_len rfl) (Sl.lit (by omega) kc_len rfl) (by decide)
  rw [decide_eq_true rfl] at hsp
  simp -implicitDefEqProofs only [List.map_cons,List.map_nil,ic] at i1 i2 i3 i4
  simp -implicitDefEqProofs only [sw0,sw1,sw2,sw3,sw4,sw5,reduceCtorEq,Nat.reduceEqDiff,Nat.reduceAdd,Nat.reduceDiv,Nat.reduceLeDiff,hm,hx,i1,i2,i3,i4,hsp,fq2.ret,lv_t]
  exact hK _
end Go.Proofs.YtcebebhaahpoiaaDoor
end
section
namespace Go.Proofs.YtcebebhaahpoiaaDoor
open Go Go.Ai Go.W
attribute [local irreducible] VC YC WC
set_option linter.unusedSimpArgs false
set_option linter.unusedVariables false
set_option maxRecDepth 10000
variable {k:Nat} {b:Option Nat} {H:List AObj} {lk:Bool} {K:AV→St→Prop}
end Go.Proofs.YtcebebhaahpoiaaDoor
end
section
namespace Go.Proofs.YtcebebhaahpoiaaDoor
open Go Go.Ai Go.W
attribute [local irreducible] VC YC WC
set_option linter.unusedVariables false
set_option maxRecDepth 100000
theorem c3:Tryd.prog.cellsOf 3=1:=by kernel_rfl
end Go.Proofs.YtcebebhaahpoiaaDoor
end
section
namespace Go.Proofs.YtcebebhaahpoiaaDoor
open Go Go.Ai Go.W
attribute [local irreducible] VC YC WC
set_option linter.unusedSimpArgs false
set_option linter.unusedVariables false
set_option maxRecDepth 10000
variable {k:Nat} {b:Option Nat} {H:List AObj} {lk:Bool} {K:AV→St→Prop}
theorem PV.set {H:List AObj} {cs:List AV} {p:Plt} (h:PV H cs p) {c:Nat} {o:AObj} (hc:∀ cs,H[c]? ≠ some (AObj.cells cs)):PV (H.set c o) cs p:=by
  obtain ⟨vl,vp,vm,e,h1,h2,h3⟩:=h.how
  exact ⟨vl,vp,vm,e,slset h1 hc,slset h2 hc,slset h3 hc⟩
end Go.Proofs.YtcebebhaahpoiaaDoor
end
section
namespace Go.Proofs.YtcebebhaahpoiaaDoor
open Go Go.Ai Go.W
attribute [local irreducible] VC YC WC
set_option linter.unusedSimpArgs false
set_option linter.unusedVariables false
set_option maxRecDepth 10000
variable {k:Nat} {b:Option Nat} {H:List AObj} {lk:Bool} {K:AV→St→Prop}
end Go.Proofs.YtcebebhaahpoiaaDoor
end
section
namespace Go.Proofs.YtcebebhaahpoiaaDoor
open Go Go.Ai Go.W
attribute [local irreducible] VC YC WC
set_option linter.unusedSimpArgs false
set_option linter.unusedVariables false
set_option maxRecDepth 10000
variable {k:Nat} {b:Option Nat} {H:List AObj} {lk:Bool} {K:AV→St→Prop}
end Go.Proofs.YtcebebhaahpoiaaDoor
end
section
namespace Go.Proofs.YtcebebhaahpoiaaDoor
open Go Go.Ai Go.W
attribute [local irreducible] VC YC WC
set_option linter.unusedSimpArgs false
set_option linter.unusedVariables false
set_option maxRecDepth 10000
variable {k:Nat} {b:Option Nat} {H:List AObj} {lk:Bool} {K:AV→St→Prop}
abbrev nint (S:List Nat):List Int:=S.map fun i:Nat=>(i:Int)
end Go.Proofs.YtcebebhaahpoiaaDoor
end
section
namespace Go.Proofs.YtcebebhaahpoiaaDoor
open Go Go.Ai Go.W
attribute [local irreducible] VC YC WC
set_option linter.unusedSimpArgs false
set_option linter.unusedVariables false
set_option maxRecDepth 10000
variable {k:Nat} {b:Option Nat} {H:List AObj} {lk:Bool} {K:AV→St→Prop}
end Go.Proofs.YtcebebhaahpoiaaDoor
end
section
namespace Go.Proofs.YtcebebhaahpoiaaDoor
open Go Go.Ai Go.W
attribute [local irreducible] VC YC WC
set_option linter.unusedVariables false
set_option linter.unusedSimpArgs false
set_option maxRecDepth 100000
def i64 (n:Int):Prop:=-9223372036854775808≤n∧n≤9223372036854775807
theorem wt_u8 {d:Nat} {xs:List AV} (h:Wt Tryd.prog (d + 1) 5 xs):∃ n:Nat,xs=[.int .u8 n]∧n < 256:=by
  unfold Wt at h
  rw [Tryd.underlying5] at h
  obtain ⟨n,rfl,h1,h2⟩:=h
  have h1:(0:Int)≤n:=h1
  have h2:n≤(255:Int):=h2
  exact ⟨n.toNat,by rw [show ((n.toNat:Nat):Int)=n by omega],by omega⟩
theorem arg_u8 {x:AV} (h:Arg Tryd.prog 8 5 x):∃ n:Nat,x=.int .u8 n∧n < 256:=by
  obtain ⟨h1,_,h3⟩:=h
  obtain ⟨n,hn,hr⟩:=wt_u8 (d:=7) h1
  refine ⟨n,?_,hr⟩
  have a3:isAggT Tryd.prog 5=some false:=by kernel_rfl
  cases x <;> first | exact absurd rfl (h3 a3 _) | exact (List.cons.inj hn).1
variable {k:Nat} {b:Option Nat} {H:List AObj} {lk:Bool} {K:AV→St→Prop}
end Go.Proofs.YtcebebhaahpoiaaDoor
end
section
namespace Go.Proofs.YtcebebhaahpoiaaDoor
open Go Go.Ai Go.W
attribute [local irreducible] VC YC WC
set_option linter.unusedSimpArgs false
set_option linter.unusedVariables false
set_option maxRecDepth 10000
variable {k:Nat} {b:Option Nat} {H:List AObj} {lk:Bool} {K:AV→St→Prop}
theorem Round_s (hk:600≤k) {v:AV} {l:List Int} {n:Int} (hs:SI H v l) (hl:l.length≤400) (hn:1≤n∧n≤8):VC ⟨prog,k,b⟩ F_fq45 [iv n,v] ⟨H,lk⟩ K=K (.bool (rnd n l)) ⟨H,lk⟩:=by
  obtain ⟨k,rfl⟩:∃ j,k=j + 1:=⟨k - 1,by omega⟩
  apply VC_iff
  apply fq45.enter
  simp -implicitDefEqProofs only [fq45.n0_w,sw0,sw1,sw2,sw3,sw4,sw5,reduceCtorEq,Nat.reduceEqDiff,Nat.reduceAdd,Nat.reduceDiv,Nat.reduceLeDiff]
  refine fq45.n1_l (fun m r3 s=>∃ i:Nat,r3=iv i∧s=⟨H,false⟩∧m=l.length - i∧i≤l.length∧(∀ x,x ∈ l.take i→0≤x∧x≤n - 1)∧(l.take i).Nodup) l.length (by simp -implicitDefEqProofs only []; omega) ⟨0,rfl,rfl,by omega,by omega,by simp,by simp⟩ ?_
  rintro m r2 r3 r4 r5 r6 s ⟨i,rfl,rfl,hm,hi,hno,hnd⟩
  simp -implicitDefEqProofs only [fq45.n2_w,sw0,sw1,sw2,sw3,sw4,sw5,reduceCtorEq,Nat.reduceEqDiff,Nat.reduceAdd,Nat.reduceDiv,Nat.reduceLeDiff,hs.len]
  split
  · rename_i hlt
    have hlt:i < l.length:=by omega
    have hw:=wrap64 (n:=n - 1) (by omega)
    simp -implicitDefEqProofs only [fq45.n4_w,sw0,sw1,sw2,sw3,sw4,sw5,reduceCtorEq,Nat.reduceEqDiff,Nat.reduceAdd,Nat.reduceDiv,Nat.reduceLeDiff,hs.at',hlt,hs.ld hlt (show 0 < 1 by omega),ic,hw,r12_in_s (k:=k) (by omega)]
    by_cases c1:0≤l[i]∧l[i]≤n - 1
    · simp -implicitDefEqProofs only [eq_true c1,sw0,sw1,sw2,sw3,sw4,sw5,reduceCtorEq,Nat.reduceEqDiff,Nat.reduceAdd,Nat.reduceDiv,Nat.reduceLeDiff,fq45.n6_w]
      refine fq45.n7_l (fun m r4 s=>∃ j:Nat,r4=iv j∧s=⟨H,false⟩∧m=i - j∧j≤i∧l[i] ∉ l.take j) i (by simp -implicitDefEqProofs only []; omega) ⟨0,rfl,rfl,by omega,by omega,by simp⟩ ?_
      rintro m r2 r4 r5 r6 s ⟨j,rfl,rfl,hm2,hj,hnj⟩
      simp -implicitDefEqProofs only [fq45.n8_w,sw0,sw1,sw2,sw3,sw4,sw5,reduceCtorEq,Nat.reduceEqDiff,Nat.reduceAdd,Nat.reduceDiv,Nat.reduceLeDiff]
      split
      · rename_i hji
        have hji:j < i:=by omega
        have hjl:j < l.length:=by omega
        simp -implicitDefEqProofs only [fq45.n10_w,sw0,sw1,sw2,sw3,sw4,sw5,reduceCtorEq,Nat.reduceEqDiff,Nat.reduceAdd,Nat.reduceDiv,Nat.reduceLeDiff,hs.at',hlt,hjl,hs.ld hlt (show 0 < 1 by omega),hs.ld hjl (show 0 < 1 by omega),ic]
        by_cases e:l[j]=l[i]
        · have hbad:rnd n l=false:=by
            unfold rnd
            refine decide_eq_false fun h=>?_
            exact (List.pairwise_iff_getElem.1 h.2.1) j i hjl hlt hji e
          simp -implicitDefEqProofs only [eq_true e,sw0,sw1,sw2,sw3,sw4,sw5,reduceCtorEq,Nat.reduceEqDiff,Nat.reduceAdd,Nat.reduceDiv,Nat.reduceLeDiff,fq45.n11_w,fq45.ret,hbad]
        · simp -implicitDefEqProofs only [eq_false e,sw0,sw1,sw2,sw3,sw4,sw5,reduceCtorEq,Nat.reduceEqDiff,Nat.reduceAdd,Nat.reduceDiv,Nat.reduceLeDiff,fq45.n12_w]
          rw [wrap64 (by omega)]
          refine fq45.n7_go (m':=i - (j + 1)) (by omega) ⟨j + 1,rfl,rfl,rfl,by omega,?_⟩
          rw [← List.take_append_getElem hjl]
          simp -implicitDefEqProofs only [List.mem_append,List.mem_singleton,not_or]
          exact ⟨hnj,fun h=>e h.symm⟩
      · have hje:j=i:=by omega
        subst hje
        simp -implicitDefEqProofs only [fq45.n13_w,sw0,sw1,sw2,sw3,sw4,sw5,reduceCtorEq,Nat.reduceEqDiff,Nat.reduceAdd,Nat.reduceDiv,Nat.reduceLeDiff]
        rw [wrap64 (by omega)]
        refine fq45.n1_go (m':=l.length - (j + 1)) (by omega) ⟨j + 1,rfl,rfl,rfl,by omega,?_,?_⟩
        · rw [← List.take_append_getElem hlt]
          intro x hx
          rcases List.mem_append.1 hx with h | h
          · exact hno x h
          · simp -implicitDefEqProofs only [List.mem_singleton] at h; subst h; exact c1
        · rw [← List.take_append_getElem hlt,List.nodup_append]
          refine ⟨hnd,by simp,fun a ha b hb=>?_⟩
          simp -implicitDefEqProofs only [List.mem_singleton] at hb
          subst hb
          rintro rfl
          exact hnj ha
    · have hbad:rnd n l=false:=by
        unfold rnd
        exact decide_eq_false fun h=>c1 (h.1 _ (List.getElem_mem hlt))
      simp -implicitDefEqProofs only [eq_false c1,sw0,sw1,sw2,sw3,sw4,sw5,reduceCtorEq,Nat.reduceEqDiff,Nat.reduceAdd,Nat.reduceDiv,Nat.reduceLeDiff,fq45.n5_w,fq45.ret,hbad]
  · have hie:i=l.length:=by omega
    subst hie
    rw [List.take_length] at hno hnd
    have:rnd n l=decide ((l.length:Int)=n):=by
      unfold rnd
      refine decide_eq_decide.2 ⟨fun h=>h.2.2,fun h=>⟨hno,hnd,h⟩⟩
    simp -implicitDefEqProofs only [fq45.n14_w,sw0,sw1,sw2,sw3,sw4,sw5,reduceCtorEq,Nat.reduceEqDiff,Nat.reduceAdd,Nat.reduceDiv,Nat.reduceLeDiff,hs.len,fq45.ret,this]
theorem Used_s (hk:1100≤k) {v:AV} {rs:List (AV × List Int)} {s x:Nat} (hs:RD H v rs) (hl:rs.length≤1000) (hw:∀ q,q ∈ rs→s < q.2.length) :
    VC ⟨prog,k,b⟩ F_fq47 [v,iv s,iv x] ⟨H,lk⟩ K=K (iv (cnt rs s x)) ⟨H,lk⟩:=by
  obtain ⟨k,rfl⟩:∃ j,k=j + 1:=⟨k - 1,by omega⟩
  apply VC_iff
  apply fq47.enter
  simp -implicitDefEqProofs only [fq47.n0_w,sw0,sw1,sw2,sw3,sw4,sw5,reduceCtorEq,Nat.reduceEqDiff,Nat.reduceAdd,Nat.reduceDiv,Nat.reduceLeDiff]
  refine fq47.n1_l (fun m r4 r5 t=>∃ i:Nat,r5=iv i∧r4=iv (cnt (rs.take i) s x)∧t=⟨H,false⟩∧m=rs.length - i∧i≤rs.length) rs.length (by simp -implicitDefEqProofs only []; omega) ⟨0,rfl,rfl,rfl,by omega,by omega⟩ ?_
  rintro m r4 r5 r6 t ⟨i,rfl,rfl,rfl,hm,hi⟩
  simp -implicitDefEqProofs only [fq47.n2_w,sw0,sw1,sw2,sw3,sw4,sw5,reduceCtorEq,Nat.reduceEqDiff,Nat.reduceAdd,Nat.reduceDiv,Nat.reduceLeDiff,hs.sl.len]
  split
  · rename_i hlt
    have hlt:i < rs.length:=by omega
    have hmem:=List.getElem_mem hlt
    have hsl:=hw _ hmem
    have hrow:=hs.row _ hmem
    have hct:cnt (rs.take (i + 1)) s x=cnt (rs.take i) s x + if rs[i].2[s]=(x:Int) then 1 else 0:=by
      unfold cnt
      rw [← List.take_append_getElem hlt,List.countP_append,List.countP_singleton,List.getElem?_eq_getElem hsl]
      simp -implicitDefEqProofs only [Option.some.injEq,decide_eq_true_eq]
      split <;> simp
    have hcl:=@cnt_le (rs.take i) s x
    have hcl2:(rs.take i).length≤rs.length:=by rw [List.length_take]; omega
    simp -implicitDefEqProofs only [fq47.n4_w,sw0,sw1,sw2,sw3,sw4,sw5,reduceCtorEq,Nat.reduceEqDiff,Nat.reduceAdd,Nat.reduceDiv,Nat.reduceLeDiff,hs.sl.at',hlt,hs.sl.ld hlt (show 0 < 1 by omega),rc,hrow.at',hsl,hrow.ld hsl (show 0 < 1 by omega),ic]
    by_cases e:rs[i].2[s]=(x:Int)
    · rw [if_pos e] at hct
      simp -implicitDefEqProofs only [eq_true e,sw0,sw1,sw2,sw3,sw4,sw5,reduceCtorEq,Nat.reduceEqDiff,Nat.reduceAdd,Nat.reduceDiv,Nat.reduceLeDiff,fq47.n5_w,fq47.n6_w]
      rw [wrap64 (n:=(i:Int) + 1) (by omega),wrap64 (n:=cnt (rs.take i) s x + 1) (by omega)]
      exact fq47.n1_go (m':=rs.length - (i + 1)) (by omega) ⟨i + 1,rfl,by rw [hct],rfl,rfl,by omega⟩
    · rw [if_neg e,Int.add_zero] at hct
      simp -implicitDefEqProofs only [eq_false e,sw0,sw1,sw2,sw3,sw4,sw5,reduceCtorEq,Nat.reduceEqDiff,Nat.reduceAdd,Nat.reduceDiv,Nat.reduceLeDiff,fq47.n6_w]
      rw [wrap64 (n:=(i:Int) + 1) (by omega)]
      exact fq47.n1_go (m':=rs.length - (i + 1)) (by omega) ⟨i + 1,rfl,by rw [hct],rfl,rfl,by omega⟩
  · have hie:i=rs.length:=by omega
    subst hie
    rw [List.take_length]
    simp -implicitDefEqProofs only [fq47.n7_w,sw0,sw1,sw2,sw3,sw4,sw5,reduceCtorEq,Nat.reduceEqDiff,Nat.reduceAdd,Nat.reduceDiv,Nat.reduceLeDiff,fq47.ret]
end Go.Proofs.YtcebebhaahpoiaaDoor
end
section
namespace Go.Proofs.YtcebebhaahpoiaaDoor
open Go Go.Ai Go.W
attribute [local irreducible] VC YC WC
set_option linter.unusedSimpArgs false
set_option linter.unusedVariables false
set_option maxRecDepth 10000
variable {k:Nat} {b:Option Nat} {H:List AObj} {lk:Bool} {K:AV→St→Prop}
def rem (n:Nat) (R:List Int):List Nat:=(List.range n).filter fun i=>decide ((i:Int) ∉ R)
def OV (H X:List AObj) (v:AV) (l:List Int):Prop:=VS 1 ic v l∨Own H X 1 ic v l
theorem OV.ext {X Y:List AObj} {v:AV} {l:List Int} (h:OV H X v l):OV H (X ++ Y) v l:=h.imp id fun h=>h.ext
theorem OV.fz {X:List AObj} {v:AV} {l:List Int} (h:OV H X v l):VS 1 ic (frz H.length (H ++ X) 1 v) l:=by
  rcases h with h | h
  · rw [h.fz]; exact h
  · exact h.fz (Nat.le_refl _) ic_clean
end Go.Proofs.YtcebebhaahpoiaaDoor
end
section
namespace Go.Proofs.YtcebebhaahpoiaaDoor
open Go Go.Ai Go.W
attribute [local irreducible] VC YC WC
set_option linter.unusedSimpArgs false
set_option linter.unusedVariables false
set_option maxRecDepth 10000
variable {k:Nat} {b:Option Nat} {H:List AObj} {lk:Bool} {K:AV→St→Prop}
end Go.Proofs.YtcebebhaahpoiaaDoor
end
section
namespace Go.Proofs.YtcebebhaahpoiaaDoor
open Go Go.Ai Go.W
attribute [local irreducible] VC YC WC
set_option linter.unusedVariables false
set_option maxRecDepth 100000
end Go.Proofs.YtcebebhaahpoiaaDoor
end
section
namespace Go.Proofs.YtcebebhaahpoiaaDoor
open Go Go.Ai Go.W
attribute [local irreducible] VC YC WC
set_option linter.unusedSimpArgs false
set_option linter.unusedVariables false
set_option maxRecDepth 100000
def pm2 (free:Nat→Nat→Bool):Nat→Nat→List Nat→Bool
  | 0,_,_=>true
  | r + 1,s,S=>S.any fun c=>free s c && pm2 free r (s + 1) (wo c S)
def grow (free:Nat→Nat→Bool):Nat→Nat→List Nat→List Nat
  | 0,_,_=>[]
  | r + 1,s,S=>match S.find? (fun c=>free s c && pm2 free r (s + 1) (wo c S)) with
    | none=>[]
    | some c=>c :: grow free r (s + 1) (wo c S)
def cntL:List (List Nat)→Nat→Nat→Nat
  | [],_,_=>0
  | r :: L,s,x=>(bif Nat.beq (r.getD s 99) x then 1 else 0) + cntL L s x
def lat:Nat→List (List Nat)
  | 1=>[[0]]
  | 2=>[[0,1],[1,0]]
  | 3=>[[0,1,2],[1,2,0],[2,0,1]]
  | 4=>[[0,1,2,3],[1,0,3,2],[2,3,0,1],[3,2,1,0]]
  | 5=>[[0,1,2,3,4],[1,0,3,4,2],[2,3,4,0,1],[3,4,1,2,0],[4,2,0,1,3]]
  | 6=>[[0,1,2,3,4,5],[1,0,3,2,5,4],[2,3,4,5,0,1],[3,2,5,4,1,0],[4,5,0,1,2,3],[5,4,1,0,3,2]]
  | 7=>[[0,1,2,3,4,5,6],[1,0,3,2,5,6,4],[2,3,0,1,6,4,5],[3,4,5,6,0,1,2],[4,2,6,5,1,0,3],[5,6,1,4,2,3,0],[6,5,4,0,3,2,1]]
  | 8=>[[0,1,2,3,4,5,6,7],[1,0,3,2,5,4,7,6],[2,3,0,1,6,7,4,5],[3,2,1,0,7,6,5,4],[4,5,6,7,0,1,2,3],[5,4,7,6,1,0,3,2],[6,7,4,5,2,3,0,1],[7,6,5,4,3,2,1,0]]
  | _=>[]
def latRow (n i:Nat):List Nat:=(lat n).getD (i % n) []
def rowsTo (n:Nat):Nat→List (List Nat)
  | 0=>[]
  | i + 1=>rowsTo n i ++ [latRow n i]
def frI (n i s x:Nat):Bool:=Nat.beq (cntL (rowsTo n i) s x) (i / n)
def nodupB:List Nat→Bool
  | []=>true
  | a :: l=>!l.elem a && nodupB l
def permB (n:Nat) (r:List Nat):Bool:=Nat.beq r.length n && r.all (fun x=>Nat.blt x n) && nodupB r
def eqN:List Nat→List Nat→Bool
  | [],[]=>true
  | a :: as',b :: bs=>Nat.beq a b && eqN as' bs
  | _,_=>false
def chkI (n i:Nat):Bool :=
  permB n (latRow n i) && ((List.range n).all fun s=>(List.range n).all fun x=>frI n i s x || Nat.beq (cntL (rowsTo n i) s x) (i / n + 1)) &&
  pm2 (frI n i) n 0 (List.range n) && eqN (grow (frI n i) n 0 (List.range n)) (latRow n i) &&
  (List.range n).all fun s=>Nat.beq (cntL ((rowsTo n (i + 1)).drop (i / n * n)) s ((latRow n i).getD s 99)) 1
def chkN (n:Nat):Bool:=(List.range (3 * n)).all fun i=>chkI n i
theorem chk_1:chkN 1=true:=by kernel_rfl
theorem chk_2:chkN 2=true:=by kernel_rfl
theorem chk_3:chkN 3=true:=by kernel_rfl
theorem chk_4:chkN 4=true:=by kernel_rfl
theorem chk_5:chkN 5=true:=by kernel_rfl
theorem chk_6:chkN 6=true:=by kernel_rfl
theorem chk_7:chkN 7=true:=by kernel_rfl
theorem chk_8:chkN 8=true:=by kernel_rfl
theorem chk_all {n:Nat} (h1:1≤n) (h8:n≤8):chkN n=true:=by
  have:n=1∨n=2∨n=3∨n=4∨n=5∨n=6∨n=7∨n=8:=by omega
  rcases this with rfl | rfl | rfl | rfl | rfl | rfl | rfl | rfl
  · exact chk_1
  · exact chk_2
  · exact chk_3
  · exact chk_4
  · exact chk_5
  · exact chk_6
  · exact chk_7
  · exact chk_8
theorem eqN_eq:∀ {a b:List Nat},eqN a b=true→a=b
  | [],[],_=>rfl
  | a :: l,b :: m,h=>by
    simp -implicitDefEqProofs only [eqN,Bool.and_eq_true] at h
    rw [Nat.eq_of_beq_eq_true h.1,eqN_eq h.2]
  | [],_ :: _,h | _ :: _,[],h=>by cases h
theorem nodupB_nd:∀ {l:List Nat},nodupB l=true→l.Nodup
  | [],_=>List.nodup_nil
  | a :: l,h=>by
    simp -implicitDefEqProofs only [nodupB,Bool.and_eq_true,Bool.not_eq_true',List.elem_eq_mem,decide_eq_false_iff_not] at h
    exact List.nodup_cons.2 ⟨h.1,nodupB_nd h.2⟩
theorem permB_rnd {n:Nat} {r:List Nat} (h:permB n r=true):rnd n (nint r)=true∧r.length=n∧∀ x,x ∈ r→x < n:=by
  simp -implicitDefEqProofs only [permB,Bool.and_eq_true,List.all_eq_true] at h
  obtain ⟨⟨h1,h2⟩,h3⟩:=h
  have h1:=Nat.eq_of_beq_eq_true h1
  have h2':∀ x,x ∈ r→x < n:=fun x hx=>by have:=h2 x hx; exact Nat.le_of_ble_eq_true this
  refine ⟨decide_eq_true ⟨?_,?_,by simp [h1]⟩,h1,h2'⟩
  · intro x hx
    obtain ⟨y,hy,rfl⟩:=List.mem_map.1 hx
    have:=h2' y hy
    omega
  · exact List.Pairwise.map _ (fun a b hab e=>hab (by exact Int.ofNat.inj e)) (nodupB_nd h3)
theorem lv_pm {D:Nat→Nat→Int} {n:Nat} {b:Int} {free:Nat→Nat→Bool} (hn:n≤8) (hD:∀ a c,0≤D a c) (hf:∀ s x,s < n→x < n→D s x=b + if free s x then 0 else 1) :
    ∀ (r:Nat) (S:List Nat),S.Nodup→S.length=r→r≤n→(∀ x,x ∈ S→x < n)→b * r≤(lv D n S).1∧((lv D n S).1=b * r↔pm2 free r (n - r) S=true)
  | 0,S,_,hl,_,_=>by
    have:S=[]:=List.eq_nil_of_length_eq_zero hl
    subst this
    simp [lv_nil,pm2]
  | r + 1,S,hnd,hl,hr,hS=>by
    have hne:S ≠ []:=by rintro rfl; simp at hl
    have h:=lv_cons (D:=D) (n:=n) hne hnd (by omega)
    rw [pstep_m] at h
    have hs:n - S.length=n - (r + 1):=by omega
    rw [hs] at h
    obtain ⟨l1,l2,g1,g2,g3,g4,g5⟩:=fold_first hne (fun c _=>by have:=lm_pos (n:=n) hD 64 (wo c S); have:=hD (n - (r + 1)) c; unfold lv; omega) h.symm
    have hmin:∀ d,d ∈ S→(lv D n S).1≤(lv D n (wo d S)).1 + D (n - (r + 1)) d:=by
      intro d hd
      rw [g1] at hd
      rcases List.mem_append.1 hd with h | h
      · have:=g4 d h; omega
      · rcases List.mem_cons.1 h with rfl | h
        · omega
        · exact g5 d h
    have hcS:(lv D n S).2 ∈ S:=by
      have h:(lv D n S).2 ∈ l1 ++ (lv D n S).2 :: l2:=by simp
      rwa [← g1] at h
    have ih:=fun d (hd:d ∈ S)=>lv_pm hn hD hf r (wo d S) (wo_nodup hnd) (by have:=wo_len hnd hd; omega) (by omega) (fun x hx=>hS x (mem_wo.1 hx).1)
    have hss:n - (r + 1) + 1=n - r:=by omega
    have hDv:=fun d (hd:d ∈ S)=>hf (n - (r + 1)) d (by omega) (hS d hd)
    have hb:b * ((r + 1:Nat):Int)=b * r + b:=by rw [Int.natCast_add,Int.mul_add]; simp
    rw [hb]
    have h1:=(ih _ hcS).1
    have h2:=hDv _ hcS
    have hlow:b * r + b≤(lv D n S).1:=by
      rw [← g2]
      split at h2 <;> omega
    refine ⟨hlow,fun e=>?_,fun e=>?_⟩
    · rw [pm2,List.any_eq_true]
      refine ⟨_,hcS,?_⟩
      rw [hss,Bool.and_eq_true]
      cases hfr:free (n - (r + 1)) (lv D n S).2 with
      | false=>rw [hfr] at h2; simp -implicitDefEqProofs only [Bool.false_eq_true,if_false] at h2; omega
      | true =>
        rw [hfr] at h2
        simp -implicitDefEqProofs only [if_true] at h2
        exact ⟨rfl,(ih _ hcS).2.1 (by omega)⟩
    · rw [pm2,List.any_eq_true] at e
      obtain ⟨c,hc,e⟩:=e
      rw [hss,Bool.and_eq_true] at e
      have h3:=(ih c hc).2.2 e.2
      have h4:=hDv c hc
      rw [e.1] at h4
      simp -implicitDefEqProofs only [if_true] at h4
      have:=hmin c hc
      omega
theorem nrow_grow {D:Nat→Nat→Int} {n:Nat} {b:Int} {free:Nat→Nat→Bool} (hn:n≤8) (hD:∀ a c,0≤D a c) (hf:∀ s x,s < n→x < n→D s x=b + if free s x then 0 else 1) :
    ∀ (r:Nat) (S:List Nat),S.Nodup→S.length=r→r≤n→(∀ x,x ∈ S→x < n)→pm2 free r (n - r) S=true→nrow D n r S=nint (grow free r (n - r) S)
  | 0,S,_,_,_,_,_=>rfl
  | r + 1,S,hnd,hl,hr,hS,hp=>by
    have hne:S ≠ []:=by rintro rfl; simp at hl
    have hv:=((lv_pm hn hD hf (r + 1) S hnd hl hr hS).2).2 hp
    obtain ⟨l1,l2,g1,g2,g3⟩:=lv_first (n:=n) hD hne hnd (by omega)
    have hs:n - S.length=n - (r + 1):=by omega
    rw [hs] at g2 g3
    have hss:n - (r + 1) + 1=n - r:=by omega
    have ih:=fun d (hd:d ∈ S)=>lv_pm hn hD hf r (wo d S) (wo_nodup hnd) (by have:=wo_len hnd hd; omega) (by omega) (fun x hx=>hS x (mem_wo.1 hx).1)
    have hDv:=fun d (hd:d ∈ S)=>hf (n - (r + 1)) d (by omega) (hS d hd)
    have hb:b * ((r + 1:Nat):Int)=b * r + b:=by rw [Int.natCast_add,Int.mul_add]; simp
    rw [hb] at hv
    have hcS:(lv D n S).2 ∈ S:=by
      have h:(lv D n S).2 ∈ l1 ++ (lv D n S).2 :: l2:=by simp
      rwa [← g1] at h
    have key:∀ d,d ∈ S→((lv D n (wo d S)).1 + D (n - (r + 1)) d=(lv D n S).1↔(free (n - (r + 1)) d && pm2 free r (n - (r + 1) + 1) (wo d S))=true):=by
      intro d hd
      rw [hv,hss,Bool.and_eq_true,← (ih d hd).2]
      have h1:=(ih d hd).1
      have h2:=hDv d hd
      cases hfr:free (n - (r + 1)) d <;> rw [hfr] at h2 <;> simp -implicitDefEqProofs only [Bool.false_eq_true,if_false,if_true,false_and,true_and,iff_false] at h2 ⊢ <;> omega
    have hfind:S.find? (fun c=>free (n - (r + 1)) c && pm2 free r (n - (r + 1) + 1) (wo c S))=some (lv D n S).2:=by
      rw [List.find?_eq_some_iff_append]
      refine ⟨(key _ hcS).1 g2,l1,l2,g1,fun d hd=>?_⟩
      have hdS:d ∈ S:=by rw [g1]; simp [hd]
      have:=mt (key d hdS).2 (g3 d hd)
      rw [Bool.not_eq_true] at this
      rw [this]; rfl
    rw [nrow_ne hne,grow,hfind]
    have hpc:=(Bool.and_eq_true _ _).mp ((key _ hcS).1 g2)
    have:=nrow_grow hn hD hf r (wo (lv D n S).2 S) (wo_nodup hnd) (by have:=wo_len hnd hcS; omega) (by omega) (fun x hx=>hS x (mem_wo.1 hx).1) (by rw [← hss]; exact hpc.2)
    rw [this,hss]
    rfl
theorem cnt_L {n:Nat}:∀ {rs:List (AV × List Int)} {L:List (List Nat)},rs.map (·.2)=L.map nint→∀ {s x:Nat},x < 99→cnt rs s x=cntL L s x
  | [],[],_,_,_,_=>rfl
  | q :: rs,r :: L,h,s,x,hx=>by
    simp -implicitDefEqProofs only [List.map_cons,List.cons.injEq] at h
    have ih:=cnt_L (n:=n) h.2 (s:=s) hx
    unfold cnt at ih ⊢
    rw [List.countP_cons,cntL,h.1]
    have e:decide ((nint r)[s]?=some (x:Int))=Nat.beq (r.getD s 99) x:=by
      rw [List.getElem?_map,List.getD_eq_getElem?_getD]
      cases r[s]? with
      | none=>simp -implicitDefEqProofs only [Option.map_none,Option.getD_none,reduceCtorEq,decide_false]; symm; rw [Bool.eq_false_iff]; intro h; have:=Nat.eq_of_beq_eq_true h; omega
      | some y=>simp -implicitDefEqProofs only [Option.map_some,Option.some.injEq,Option.getD_some,Int.natCast_inj]; rw [Bool.eq_iff_iff,decide_eq_true_eq]; exact ⟨fun h=>by rw [h]; exact Nat.beq_refl _,fun h=>Nat.eq_of_beq_eq_true h⟩
    rw [e]
    cases Nat.beq (r.getD s 99) x <;> simp [ih] <;> omega
  | [],_ :: _,h,_,_,_ | _ :: _,[],h,_,_,_=>by simp at h
end Go.Proofs.YtcebebhaahpoiaaDoor
end
section
namespace Go.Proofs.YtcebebhaahpoiaaDoor
open Go Go.Ai Go.W
attribute [local irreducible] VC YC WC
set_option linter.unusedSimpArgs false
set_option linter.unusedVariables false
set_option maxRecDepth 10000
variable {k:Nat} {b:Option Nat} {H:List AObj} {lk:Bool} {K:AV→St→Prop}
theorem rowsTo_len {n i:Nat}:(rowsTo n i).length=i:=by
  induction i with
  | zero=>rfl
  | succ i ih=>rw [rowsTo,List.length_append,ih]; rfl
theorem rowsTo_mem {n i:Nat}:∀ {r:List Nat},r ∈ rowsTo n i→∃ j,j < i∧r=latRow n j:=by
  induction i with
  | zero=>intro r h; cases h
  | succ i ih =>
    intro r h
    rw [rowsTo] at h
    rcases List.mem_append.1 h with h | h
    · obtain ⟨j,hj,e⟩:=ih h
      exact ⟨j,by omega,e⟩
    · simp -implicitDefEqProofs only [List.mem_singleton] at h
      exact ⟨i,by omega,h⟩
theorem chk_at {n i:Nat} (h1:1≤n) (h8:n≤8) (hi:i < 3 * n) {rs:List (AV × List Int)} (hrs:rs.map (·.2)=(rowsTo n i).map nint) :
    rnd n (nint (latRow n i))=true∧(latRow n i).length=n∧(∀ x,x ∈ latRow n i→x < n)∧nrow (cnt rs) n n (List.range n)=nint (latRow n i)∧∀ s,s < n→cntL ((rowsTo n (i + 1)).drop (i / n * n)) s ((latRow n i).getD s 99)=1:=by
  have hc:=chk_all h1 h8
  unfold chkN at hc
  rw [List.all_eq_true] at hc
  have hc:=hc i (List.mem_range.2 hi)
  simp -implicitDefEqProofs only [chkI,Bool.and_eq_true,List.all_eq_true,List.mem_range,Bool.or_eq_true] at hc
  obtain ⟨⟨⟨⟨g1,g2⟩,g3⟩,g4⟩,g5⟩:=hc
  obtain ⟨p1,p2,p3⟩:=permB_rnd g1
  refine ⟨p1,p2,p3,?_,fun s hs=>Nat.eq_of_beq_eq_true (g5 s hs)⟩
  have hf:∀ s x,s < n→x < n→cnt rs s x=((i / n:Nat):Int) + if frI n i s x then 0 else 1:=by
    intro s x hs hx
    rw [cnt_L (n:=n) hrs (by omega)]
    cases hfr:frI n i s x with
    | true =>
      unfold frI at hfr
      rw [Nat.eq_of_beq_eq_true hfr]
      simp
    | false =>
      have:=g2 s hs x hx
      rw [hfr] at this
      rcases this with h | h
      · cases h
      · rw [Nat.eq_of_beq_eq_true h]
        simp
  have:=nrow_grow (n:=n) h8 (fun a c=>cnt_le.1) hf n (List.range n) List.nodup_range (by simp) (Nat.le_refl _) (fun x hx=>by simpa using hx) (by rw [Nat.sub_self]; exact g3)
  rw [this,Nat.sub_self,eqN_eq g4]
def RV (rs:List (AV × List Int)):Prop:=∀ q,q ∈ rs→q.1=.slice false 1 (q.2.map ic)
theorem PlantTurns_s (hk:16 ^ 54≤k) {a c:Nat} (ha:a < 256) (hc:c < 256) (hK:∀ s,K (.bool true) s):VC ⟨prog,k,b⟩ F_fq1 [.int .u8 a,.int .u8 c] ⟨H,lk⟩ K:=by
  have e54:(16:Nat) ^ 54=105312291668557186697918027683670432318895095400549111254310977536:=by decide
  have e53:(16:Nat) ^ 53=6582018229284824168619876730229402019930943462534319453394436096:=by decide
  obtain ⟨k,rfl⟩:∃ j,k=j + 1:=⟨k - 1,by omega⟩
  apply fq1.enter
  obtain ⟨n,hn⟩:∃ n,n=1 + a % 8:=⟨_,rfl⟩
  obtain ⟨m,hm⟩:∃ m,m=1 + c % 3:=⟨_,rfl⟩
  have hn8:1≤n∧n≤8:=by omega
  have hm3:1≤m∧m≤3:=by omega
  have hmn:m * n≤3 * n:=Nat.mul_le_mul_right _ hm3.2
  have hw1:=wrap64 (n:=(a:Int)) (by omega)
  have hw2:=wrap64 (n:=(c:Int)) (by omega)
  have hz8:¬ (8:Int)=0:=by omega
  have hz3:¬ (3:Int)=0:=by omega
  have ht1:(a:Int).tmod 8=((a % 8:Nat):Int):=(Int.ofNat_tmod _ 8).symm
  have ht2:(c:Int).tmod 3=((c % 3:Nat):Int):=(Int.ofNat_tmod _ 3).symm
  have hw3:IntKind.i64.wrap (1 + ((a % 8:Nat):Int))=(n:Int):=by rw [wrap64 (by omega)]; omega
  have hw4:IntKind.i64.wrap (1 + ((c % 3:Nat):Int))=(m:Int):=by rw [wrap64 (by omega)]; omega
  have hw5:IntKind.i64.wrap ((m:Int) * (n:Int))=((m * n:Nat):Int):=by rw [← Int.natCast_mul,wrap64 (by omega)]
  simp -implicitDefEqProofs only [fq1.n0_w,sw0,sw1,sw2,sw3,sw4,sw5,reduceCtorEq,Nat.reduceEqDiff,Nat.reduceAdd,Nat.reduceDiv,Nat.reduceLeDiff,hw1,hz8,ht1,hw3]
  refine fq1.n1_l (fun j r3 r4 t=>∃ (i:Nat) (rs:List (AV × List Int)),r4=iv i∧r3=.sref H.length 0 i (i * 1) 1∧t=⟨H ++ [.cells (rs.map rc).flatten],false⟩∧j=m * n - i∧i≤m * n∧rs.map (·.2)=(rowsTo n i).map nint∧RV rs) (m * n) (by simp -implicitDefEqProofs only []; omega)
    ⟨0,[],rfl,rfl,rfl,by omega,by omega,rfl,fun q h=>by cases h⟩ ?_
  rintro j r2 r3 r4 r5 r6 r7 r8 r9 t ⟨i,rs,rfl,rfl,rfl,rfl,hi,hrs,hrv⟩
  have hrl:rs.length=i:=by have:=congrArg List.length hrs; simpa [rowsTo_len] using this
  simp -implicitDefEqProofs only [fq1.n2_w,sw0,sw1,sw2,sw3,sw4,sw5,reduceCtorEq,Nat.reduceEqDiff,Nat.reduceAdd,Nat.reduceDiv,Nat.reduceLeDiff,hw2,hz3,ht2,hw4,hw5]
  split
  · rename_i hlt
    have hlt:i < m * n:=by omega
    obtain ⟨q1,q2,q3,q4,q5⟩:=chk_at hn8.1 hn8.2 (show i < 3 * n by omega) hrs
    have hRD:∀ X,RD (H ++ (.cells (rs.map rc).flatten :: X)) (.sref H.length 0 i (i * 1) 1) rs:=by
      intro X
      refine ⟨⟨Nat.one_pos,rc_len,.inr ⟨H.length,0,i * 1,(rs.map rc).flatten,by rw [hrl],?_,?_⟩⟩,fun q hq=>?_⟩
      · simp -implicitDefEqProofs only [sw0,sw1,sw2,sw3,sw4,sw5,reduceCtorEq,Nat.reduceEqDiff,Nat.reduceAdd,Nat.reduceDiv,Nat.reduceLeDiff,row_hd,flat_len rc_len,hrl]
      · rw [List.drop_zero,← flat_len rc_len rs,List.take_length]
      · rw [hrv q hq]; exact Sl.val Nat.one_pos ic_len
    have hrows:∀ q,q ∈ rs→rnd n q.2=true∧q.2.length=n:=by
      intro q hq
      have h1:q.2 ∈ (rowsTo n i).map nint:=by rw [← hrs]; exact List.mem_map.2 ⟨q,hq,rfl⟩
      obtain ⟨r,hr,e⟩:=List.mem_map.1 h1
      obtain ⟨j,hj,rfl⟩:=rowsTo_mem hr
      have hc:=chk_all hn8.1 hn8.2
      unfold chkN at hc
      rw [List.all_eq_true] at hc
      have hc:=hc j (List.mem_range.2 (by omega))
      simp -implicitDefEqProofs only [chkI,Bool.and_eq_true] at hc
      obtain ⟨p1,p2,p3⟩:=permB_rnd hc.1.1.1.1
      rw [← e]
      exact ⟨p1,by simp [p2]⟩
    have hrot:rot n rs=true:=by
      unfold rot
      rw [decide_eq_true (by omega),decide_eq_true (by omega),Bool.and_true,Bool.true_and,List.all_eq_true]
      exact fun q hq=>(hrows q hq).1
    have h100:rs.length ≠ 100:=by omega
    have hans:nextAns n rs=[.slice false 1 ((nint (latRow n i)).map ic),iv 0]:=by
      unfold nextAns
      rw [if_pos hrot,if_neg h100,Int.toNat_natCast,q4]
    have hnx:=fun (K:AV→St→Prop)=>Next_s (K:=K) (k:=k) (b:=some H.length) (lk:=false) (n:=n) (by omega) (hRD []) (by omega) (fun q hq=>by have:=(hrows q hq).2; omega)
    rw [hans] at hnx
    have hlr:((nint (latRow n i)).map ic).length=n:=by simp [q2]
    have hSI:∀ G,SI G (.slice false 1 ((nint (latRow n i)).map ic)) (nint (latRow n i)):=fun G=>Sl.val Nat.one_pos ic_len
    have hrd:=fun (G:List AObj) (K:AV→St→Prop)=>Round_s (K:=K) (k:=k) (b:=some H.length) (lk:=false) (H:=G) (n:=n) (by omega) (hSI G) (by simp [q2]; omega) (by omega)
    have hnn:(n:Int)=n:=rfl
    simp -implicitDefEqProofs only [fq1.n4_w,sw0,sw1,sw2,sw3,sw4,sw5,reduceCtorEq,Nat.reduceEqDiff,Nat.reduceAdd,Nat.reduceDiv,Nat.reduceLeDiff,hnx,hlr,hrd,q1]
    obtain ⟨q,hq⟩:∃ q:AV × List Int,q=(.slice false 1 ((nint (latRow n i)).map ic),nint (latRow n i)):=⟨_,rfl⟩
    have happ:=app_own (base:=some H.length) (lk:=false) (fl:=true) (bytes:=24) (xs:=rs) (x:=q) (f:=rc) (c:=H.length) (H:=H ++ [.cells (rs.map rc).flatten]) Nat.one_pos rc_len (by rw [hq]; rfl) (by rw [hq]; rfl) rfl (by simp -implicitDefEqProofs only [sw0,sw1,sw2,sw3,sw4,sw5,reduceCtorEq,Nat.reduceEqDiff,Nat.reduceAdd,Nat.reduceDiv,Nat.reduceLeDiff,row_hd,flat_len rc_len]) (by omega)
    have hrcq:rc q=[.slice false 1 ((nint (latRow n i)).map ic)]:=by rw [hq]
    rw [hrl,hrcq] at happ
    have hqu:IntKind.i64.wrap ((i:Int).tdiv (n:Int))=((i / n:Nat):Int):=by
      have e:(i:Int).tdiv (n:Int)=((i / n:Nat):Int):=(Int.ofNat_tdiv _ _).symm
      have hle:((i / n:Nat):Int)≤(i:Int):=Int.ofNat_le.2 (Nat.div_le_self _ _)
      have hge:(0:Int)≤((i / n:Nat):Int):=Int.natCast_nonneg _
      rw [e]
      generalize ((i / n:Nat):Int)=z at hle hge
      rw [wrap64 (by omega)]
    have hst:i / n * n≤i:=Nat.div_mul_le_self _ _
    have hmu:IntKind.i64.wrap (((i / n:Nat):Int) * (n:Int))=((i / n * n:Nat):Int):=by rw [← Int.natCast_mul,wrap64 (by omega)]
    have hn0:¬ (n:Int)=0:=by omega
    simp -implicitDefEqProofs only [fq1.n6_w,sw0,sw1,sw2,sw3,sw4,sw5,reduceCtorEq,Nat.reduceEqDiff,Nat.reduceAdd,Nat.reduceDiv,Nat.reduceLeDiff,happ,eq_false hn0,hqu,hmu]
    have hrs':(rs ++ [q]).map (·.2)=(rowsTo n (i + 1)).map nint:=by rw [List.map_append,hrs,rowsTo,List.map_append,hq]; rfl
    have hrv':RV (rs ++ [q]):=by
      intro p hp
      rcases List.mem_append.1 hp with h | h
      · exact hrv p h
      · simp -implicitDefEqProofs only [List.mem_singleton] at h; rw [h,hq]
    have hrl':(rs ++ [q]).length=i + 1:=by simp [hrl]
    have hRD':RD (H ++ [.cells ((rs ++ [q]).map rc).flatten]) (.sref H.length 0 (i + 1) ((i + 1) * 1) 1) (rs ++ [q]):=by
      refine ⟨⟨Nat.one_pos,rc_len,.inr ⟨H.length,0,(i + 1) * 1,((rs ++ [q]).map rc).flatten,by rw [hrl'],?_,?_⟩⟩,fun p hp=>?_⟩
      · simp -implicitDefEqProofs only [sw0,sw1,sw2,sw3,sw4,sw5,reduceCtorEq,Nat.reduceEqDiff,Nat.reduceAdd,Nat.reduceDiv,Nat.reduceLeDiff,row_hd,flat_len rc_len,hrl']
      · rw [List.drop_zero,← flat_len rc_len (rs ++ [q]),List.take_length]
      · rw [hrv' p hp]; exact Sl.val Nat.one_pos ic_len
    have hrows':∀ p,p ∈ rs ++ [q]→p.2.length=n:=by
      intro p hp
      rcases List.mem_append.1 hp with h | h
      · exact (hrows p h).2
      · simp -implicitDefEqProofs only [List.mem_singleton] at h; rw [h,hq]; simp [q2]
    have hbd:boundsOf (rs ++ [q]).length (some (iv ((i / n * n:Nat):Int))) none=some (i / n * n,(rs ++ [q]).length):=bnd_lo (by omega)
    obtain ⟨v',hv1,hv2⟩:=hRD'.sl.slc hbd
    rw [List.take_length] at hv2
    have hRDd:RD (H ++ [.cells ((rs ++ [q]).map rc).flatten]) v' ((rs ++ [q]).drop (i / n * n)):=⟨hv2,fun p hp=>hRD'.row p (List.mem_of_mem_drop hp)⟩
    refine fq1.n7_l (fun j r5 t=>∃ s:Nat,r5=iv s∧t=⟨H ++ [.cells ((rs ++ [q]).map rc).flatten],false⟩∧j=n - s∧s≤n) n (by simp -implicitDefEqProofs only []; omega) ⟨0,rfl,rfl,by omega,by omega⟩ ?_
    rintro j r2 r5 r8 r9 t ⟨s,rfl,rfl,rfl,hs⟩
    simp -implicitDefEqProofs only [fq1.n8_w,sw0,sw1,sw2,sw3,sw4,sw5,reduceCtorEq,Nat.reduceEqDiff,Nat.reduceAdd,Nat.reduceDiv,Nat.reduceLeDiff]
    split
    · rename_i hlt2
      have hlt2:s < n:=by omega
      have hsl:s < (nint (latRow n i)).length:=by simp [q2]; exact hlt2
      have hS:=hSI (H ++ [.cells ((rs ++ [q]).map rc).flatten])
      have hxs:s < (latRow n i).length:=by omega
      have hval:(nint (latRow n i))[s]=(((latRow n i).getD s 99:Nat):Int):=by
        rw [List.getD_eq_getElem?_getD,List.getElem?_eq_getElem hxs]
        simp
      have hx99:(latRow n i).getD s 99 < 99:=by
        rw [List.getD_eq_getElem?_getD,List.getElem?_eq_getElem hxs]
        have:=q3 _ (List.getElem_mem hxs)
        simp -implicitDefEqProofs only [Option.getD_some]
        omega
      have hus:=fun (K:AV→St→Prop)=>Used_s (K:=K) (k:=k) (b:=some H.length) (lk:=false) (s:=s) (x:=(latRow n i).getD s 99) (by omega) hRDd (by rw [List.length_drop]; omega) (fun p hp=>by rw [hrows' p (List.mem_of_mem_drop hp)]; exact hlt2)
      have hcnt:cnt ((rs ++ [q]).drop (i / n * n)) s ((latRow n i).getD s 99)=1:=by
        rw [cnt_L (n:=n) (L:=(rowsTo n (i + 1)).drop (i / n * n)) (by rw [List.map_drop,hrs',List.map_drop]) hx99,q5 s hlt2]; rfl
      rw [hcnt] at hus
      simp -implicitDefEqProofs only [fq1.n10_w,sw0,sw1,sw2,sw3,sw4,sw5,reduceCtorEq,Nat.reduceEqDiff,Nat.reduceAdd,Nat.reduceDiv,Nat.reduceLeDiff,hv1,hS.at',hsl,hS.ld hsl (show 0 < 1 by omega),ic,hval,hus,fq1.n12_w]
      rw [wrap64 (by omega)]
      exact fq1.n7_go (m':=n - (s + 1)) (by omega) ⟨s + 1,rfl,rfl,rfl,by omega⟩
    · simp -implicitDefEqProofs only [fq1.n13_w,sw0,sw1,sw2,sw3,sw4,sw5,reduceCtorEq,Nat.reduceEqDiff,Nat.reduceAdd,Nat.reduceDiv,Nat.reduceLeDiff]
      rw [wrap64 (by omega)]
      exact fq1.n1_go (m':=m * n - (i + 1)) (by omega) ⟨i + 1,rs ++ [q],rfl,rfl,rfl,rfl,by omega,hrs',hrv'⟩
  · have hie:i=m * n:=by omega
    simp -implicitDefEqProofs only [fq1.n14_w,sw0,sw1,sw2,sw3,sw4,sw5,reduceCtorEq,Nat.reduceEqDiff,Nat.reduceAdd,Nat.reduceDiv,Nat.reduceLeDiff]
    refine awake_s (by omega) fun s=>?_
    obtain ⟨G,g⟩:=s
    cases g <;> simp -implicitDefEqProofs only [sw0,sw1,sw2,sw3,sw4,sw5,reduceCtorEq,Nat.reduceEqDiff,Nat.reduceAdd,Nat.reduceDiv,Nat.reduceLeDiff,fq1.ret,lv_t,hK]
end Go.Proofs.YtcebebhaahpoiaaDoor
end
section
namespace Go.Proofs.YtcebebhaahpoiaaDoor
open Go Go.Ai Go.W Go.RowKit Go.ChangeShapes Go.WideShapes Go.ChangeAt Go.Lib
set_option maxRecDepth 100000
theorem plantturns_law (xs:List AV) (hl:xs.length=Tryd.f8.params.toList.length) (hx:∀ (j:Nat) t x,Tryd.f8.params.toList[j]?=some t→xs[j]?=some x→Arg Tryd.prog 8 t x) :
    ∃ k,(ev prog k (.fn 8) xs ⟨[],false⟩).All fun p=>p.1=.val (.bool true):=by
  have hl2:xs.length=2:=hl
  match xs,hl2 with
  | [a,b],_ =>
    obtain ⟨m,rfl,hm⟩:=arg_u8 (hx 0 5 a rfl rfl)
    obtain ⟨n,rfl,hn⟩:=arg_u8 (hx 1 5 b rfl rfl)
    refine ⟨16 ^ 54,?_⟩
    have h:=PlantTurns_s (k:=16 ^ 54) (b:=none) (H:=[]) (lk:=false) (K:=fun v _=>v=.bool true) (Nat.le_refl _) hm hn (fun _=>rfl)
    unfold VC at h
    refine Res.All.mono (fun r hr=>?_) h
    obtain ⟨v,s⟩:=r
    cases v with
    | val v=>exact congrArg _ hr
    | panic v=>exact hr.elim
theorem plantturns_lifted (os:Os) (started:os.Started) (X:Type) (enc:TypeId × Value→X) :
    ReturnsInHanded {} Tryd.checked os 8 .any (fun w args=>(Rows.plantTurnsSpec.pre enc Tryd.prog Tryd.f8 [] false w args∧laidMetH Tryd.prog laidL w)∧sizedMet enc Tryd.prog Tryd.f8 (OpenSpec.ofChange Rows.plantTurnsSpec) false w args)
      (Rows.plantTurnsSpec.post enc Tryd.prog Tryd.f8 false true false false):=by
  refine returnsInHanded_of_change_and (C:=Tryd.checked) (X:=fun w _=>laidMetH Tryd.prog laidL w) (fun _ _ _ hh h=>h.of_heap hh) own started (by kernel_rfl) Tryd.func8
    (ChangeSpec.witness_shaped (enc:=enc) (C:=Tryd.checked) (os:=os) (X:=fun w _=>laidMetH Tryd.prog laidL w) false (World.laidAll Tryd.prog os laidL) #[.int .u8 0,.int .u8 0] 8 (World.laidAll_os _ _ _)
      (World.shaped_of_ZipB (by kernel_rfl) (by kernel_rfl)) (by kernel_rfl) (by kernel_rfl) (by kernel_rfl)
      (by rw [MakeChecks.laidMetH_plain _ _ _ (by kernel_rfl)]; exact laidMet_laidAll _ (by kernel_rfl) (by kernel_rfl))) ?_
  intro W base args ds gs before hval0 hW _ _ hL _
  have hval:∀ (j:Nat) t v,Tryd.f8.params.toList[j]?=some t→args.toList[j]?=some v→Value.okWide Tryd.prog W .any base t v:=fun j t v h1 h2=>hval0 j t v (by simpa using h1) (by simpa using h2)
  have hW':=hW
  obtain ⟨p,q,hA0,hV,rfl,_,_⟩:=hW
  have hA:DataW.TrodAll enc Tryd.prog W 0 (fun _=>true) true Tryd.f8.params.toList args.toList ds p:=hA0
  obtain ⟨rfl,rfl⟩:=trodVars_none hV
  rw [MakeChecks.laidMetH_plain _ _ _ (by kernel_rfl)] at hL
  obtain ⟨o,ho,hTab⟩:=tab_of_laid hL
  have hpl:(Tryd.f8.params.toList.all fun t=>plainT Tryd.prog 8 t)=true:=by kernel_rfl
  obtain ⟨xs,hLR,hxl,hxa⟩:=read_args (d:=8) hA hval (fun t ht=>List.all_eq_true.1 hpl t ht)
  obtain ⟨k,hk⟩:=plantturns_law xs hxl hxa
  have hrd:(Tryd.f8.params.toList.all fun t=>Tryd.prog.readableRec t && decide (t < Tryd.prog.types.size))=true:=by kernel_rfl
  have hlen:ds.length=2:=(trodAll_len hA).trans (by kernel_rfl)
  have hcall:=law_call (progOK hTab) mixedP k 8 W args.toList xs hLR (fun p hp=>by simp -implicitDefEqProofs only [List.mem_singleton] at hp; subst hp; exact ho) hk
  refine hcall.mono fun e W' ⟨he,hb⟩=>⟨_,he,?_⟩
  refine post_of_law laidOutP (fun t ht=>by have:=List.all_eq_true.1 hrd t ht; simp -implicitDefEqProofs only [Bool.and_eq_true,decide_eq_true_eq] at this; exact this) (tb:=4) (by kernel_rfl) Tryd.underlying4 rfl hW' ?_ hb
  match ds,hlen with
  | [d1,d2],_=>exact ⟨rfl,rfl,rfl⟩
theorem plantturns_holds:Rows.PlantTurnsSaid :=
  OpenClaim.holds_of_wide 8 Tryd.f8 rfl rfl rfl rfl rfl rfl rfl ⟨rfl,rfl,rfl,rfl,rfl⟩ rfl rfl rfl rfl rfl (by kernel_rfl) Tryd.func8 (by kernel_rfl)
    (of_decide_eq_true (by kernel_rfl)) (by unfold Func.isWrapper; first | (rw [if_pos (by decide +kernel)]; kernel_rfl) | (rw [if_neg (by decide +kernel)]; exact ⟨rfl,rfl⟩))
    (fun os started H enc _=>plantturns_lifted os started H enc)
theorem plantturns_card:Rows.PlantTurnsCardSaid :=
  Claim7.holds_tied_plain_at .later [] [.data, .data] true (true, "98e795a669b5da70fd090277ed8c58b8aa4305f620608e823b1754817605947f") false plantturns_holds (fun _ h => by cases h) (by kernel_rfl) (fun _ h => by cases h) plantTurns_row_tie rfl ⟨rfl, rfl⟩ (by kernel_rfl) rfl
    (fun f fn hf hfn=>by
      obtain rfl : f = 8 := Option.some.inj ((show Tryd.prog.funcNamed "besom/besomlaw12.PlantTurns" = some 8 by kernel_rfl).symm.trans hf) |>.symm
      obtain rfl:fn=Tryd.f8:=(Option.some.inj (Tryd.func8.symm.trans hfn)).symm
      exact ⟨by kernel_rfl,fun j t ht=>by
        have hall:(Tryd.f8.params.toList.all fun u=>!Tryd.prog.wantsStandIn u)=true:=by kernel_rfl
        have hm:t ∈ Tryd.f8.params.toList:=by simpa using Array.mem_of_getElem? ht
        exact (show Tryd.prog.wantsStandIn t=false by simpa using List.all_eq_true.1 hall t hm)⟩)
    (by kernel_rfl)
end Go.Proofs.YtcebebhaahpoiaaDoor
end
#print axioms Go.Proofs.YtcebebhaahpoiaaDoor.plantturns_card
