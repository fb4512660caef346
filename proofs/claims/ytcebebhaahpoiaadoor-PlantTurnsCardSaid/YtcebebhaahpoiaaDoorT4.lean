/- PlantTurns: for all sets and blocks the law answers true and turns nothing, with no condition. Part 4 of 5. -/
import Derived.Test.YtcebebhaahpoiaaDoorT3
set_option maxHeartbeats 2000000
set_option linter.unusedSimpArgs false
set_option linter.unusedVariables false
set_option linter.deprecated false
set_option linter.all false
section
namespace Go.Proofs.YtcebebhaahpoiaaDoor
open Go Go.Ai Go.W
attribute [local irreducible] VC YC WC
set_option linter.unusedSimpArgs false
set_option linter.unusedVariables false
set_option maxRecDepth 10000
variable {k:Nat} {b:Option Nat} {H:List AObj} {lk:Bool} {K:AV→St→Prop}
abbrev uv (n:Nat):AV:=.int .u64 n
theorem p88:prog F_bits_TrailingZeros64=some (.ext ctz64):=by kernel_rfl
theorem ctz_nat {x:Nat} (hx:x < 18446744073709551616):ctz64 [uv x]=some (iv (ctzN 64 x)):=by
  show (if 0≤(x:Int)∧(x:Int) < 18446744073709551616 then some (AV.int .i64 (ctzN 64 (x:Int).toNat)) else none)=_
  rw [if_pos ⟨by omega,by omega⟩,Int.toNat_natCast]
theorem tz64_s (hk:1≤k) {x:Nat} (hx:x < 18446744073709551616) {s:St}:VC ⟨prog,k,b⟩ F_bits_TrailingZeros64 [uv x] s K=K (iv (ctzN 64 x)) s:=by
  obtain ⟨k,rfl⟩:∃ j,k=j + 1:=⟨k - 1,by omega⟩
  apply VC_iff
  exact VC_ext1 p88 (ctz_nat hx) ⟨rfl,rfl⟩
theorem tz_s (hk:2≤k) {x:Nat} (hx:x < 18446744073709551616):VC ⟨prog,k,b⟩ F_fq0 [uv x] ⟨H,lk⟩ K=K (iv (ctzN 64 x)) ⟨H,lk⟩:=by
  obtain ⟨k,rfl⟩:∃ j,k=j + 1:=⟨k - 1,by omega⟩
  apply VC_iff
  apply fq0.enter
  simp -implicitDefEqProofs only [fq0.n0_w,sw0,sw1,sw2,sw3,sw4,sw5,reduceCtorEq,Nat.reduceEqDiff,Nat.reduceAdd,Nat.reduceDiv,Nat.reduceLeDiff,fq0.n2_w,tz64_s (k:=k) (by omega) hx,fq0.ret]
theorem has_val {x i:Nat} (hi:i < 64) (hx:x < 18446744073709551616):((x / 2 ^ i) &&& 1=1)=(x.testBit i=true):=by
  rw [Nat.and_one_is_mod,← tb_drop,Nat.testBit_zero]
  simp
theorem first_machine (hk:3≤k) {x:Nat} (hx:x < 18446744073709551616):VC ⟨prog,k,b⟩ F_fq30 [uv x] ⟨H,lk⟩ K=K (iv (ctzN 64 x)) ⟨H,lk⟩:=by
  obtain ⟨k,rfl⟩:∃ j,k=j + 1:=⟨k - 1,by omega⟩
  apply VC_iff
  apply fq30.enter
  simp -implicitDefEqProofs only [fq30.n0_w,sw0,sw1,sw2,sw3,sw4,sw5,reduceCtorEq,Nat.reduceEqDiff,Nat.reduceAdd,Nat.reduceDiv,Nat.reduceLeDiff,tz_s (k:=k) (by omega) hx,fq30.ret]
theorem without_machine (hk:1≤k) {x i:Nat} (hx:x < 18446744073709551616) (hi:i < 64):VC ⟨prog,k,b⟩ F_fq32 [uv x,iv i] ⟨H,lk⟩ K=K (uv (clrB x i)) ⟨H,lk⟩:=by
  obtain ⟨k,rfl⟩:∃ j,k=j + 1:=⟨k - 1,by omega⟩
  apply VC_iff
  apply fq32.enter
  have hp:(2:Nat) ^ i≤2 ^ 63:=Nat.pow_le_pow_right (by omega) (by omega)
  have hlt:clrB x i < 18446744073709551616:=(BitVec.ofNat 64 x &&& ~~~BitVec.ofNat 64 (2 ^ i)).isLt
  have hneg:¬ ((i:Int) < 0):=by omega
  have e2:(1:Int) * 2 ^ min i IntKind.u64.bits=((2 ^ i:Nat):Int):=by
    rw [show IntKind.u64.bits=64 from rfl,Nat.min_eq_left (by omega)]; simp
  have e3:=andNot_nat (x:=x) (y:=2 ^ i)
  simp -implicitDefEqProofs only [fq32.n0_w,sw0,sw1,sw2,sw3,sw4,sw5,reduceCtorEq,Nat.reduceEqDiff,Nat.reduceAdd,Nat.reduceDiv,Nat.reduceLeDiff,wrapu (show i < 18446744073709551616 by omega),hneg,Int.toNat_natCast,e2,wrapu (show 2 ^ i < 18446744073709551616 by omega),e3,fq32.ret]
  rw [show (BitVec.ofNat 64 x &&& ~~~BitVec.ofNat 64 (2 ^ i)).toNat=clrB x i from rfl,wrapu hlt]
theorem first_stone (hk:3≤k) {x:Nat} (hx:x < 18446744073709551616):VC ⟨prog,k,b⟩ F_fq37 [uv x] ⟨H,lk⟩ K=K (iv (ctzN 64 x)) ⟨H,lk⟩:=by
  obtain ⟨k,rfl⟩:∃ j,k=j + 1:=⟨k - 1,by omega⟩
  apply VC_iff
  apply fq37.enter
  simp -implicitDefEqProofs only [fq37.n0_w,sw0,sw1,sw2,sw3,sw4,sw5,reduceCtorEq,Nat.reduceEqDiff,Nat.reduceAdd,Nat.reduceDiv,Nat.reduceLeDiff,tz_s (k:=k) (by omega) hx,fq37.ret]
theorem without_stone (hk:1≤k) {x i:Nat} (hx:x < 18446744073709551616) (hi:i < 64):VC ⟨prog,k,b⟩ F_fq38 [uv x,iv i] ⟨H,lk⟩ K=K (uv (clrB x i)) ⟨H,lk⟩:=by
  obtain ⟨k,rfl⟩:∃ j,k=j + 1:=⟨k - 1,by omega⟩
  apply VC_iff
  apply fq38.enter
  have hp:(2:Nat) ^ i≤2 ^ 63:=Nat.pow_le_pow_right (by omega) (by omega)
  have hlt:clrB x i < 18446744073709551616:=(BitVec.ofNat 64 x &&& ~~~BitVec.ofNat 64 (2 ^ i)).isLt
  have hneg:¬ ((i:Int) < 0):=by omega
  have e2:(1:Int) * 2 ^ min i IntKind.u64.bits=((2 ^ i:Nat):Int):=by
    rw [show IntKind.u64.bits=64 from rfl,Nat.min_eq_left (by omega)]; simp
  have e3:=andNot_nat (x:=x) (y:=2 ^ i)
  simp -implicitDefEqProofs only [fq38.n0_w,sw0,sw1,sw2,sw3,sw4,sw5,reduceCtorEq,Nat.reduceEqDiff,Nat.reduceAdd,Nat.reduceDiv,Nat.reduceLeDiff,wrapu (show i < 18446744073709551616 by omega),hneg,Int.toNat_natCast,e2,wrapu (show 2 ^ i < 18446744073709551616 by omega),e3,fq38.ret]
  rw [show (BitVec.ofNat 64 x &&& ~~~BitVec.ofNat 64 (2 ^ i)).toNat=clrB x i from rfl,wrapu hlt]
theorem first_place (hk:3≤k) {x:Nat} (hx:x < 18446744073709551616):VC ⟨prog,k,b⟩ F_fq33 [uv x] ⟨H,lk⟩ K=K (iv (ctzN 64 x)) ⟨H,lk⟩:=by
  obtain ⟨k,rfl⟩:∃ j,k=j + 1:=⟨k - 1,by omega⟩
  apply VC_iff
  apply fq33.enter
  simp -implicitDefEqProofs only [fq33.n0_w,sw0,sw1,sw2,sw3,sw4,sw5,reduceCtorEq,Nat.reduceEqDiff,Nat.reduceAdd,Nat.reduceDiv,Nat.reduceLeDiff,tz_s (k:=k) (by omega) hx,fq33.ret]
theorem without_place (hk:1≤k) {x i:Nat} (hx:x < 18446744073709551616) (hi:i < 64):VC ⟨prog,k,b⟩ F_fq36 [uv x,iv i] ⟨H,lk⟩ K=K (uv (clrB x i)) ⟨H,lk⟩:=by
  obtain ⟨k,rfl⟩:∃ j,k=j + 1:=⟨k - 1,by omega⟩
  apply VC_iff
  apply fq36.enter
  have hp:(2:Nat) ^ i≤2 ^ 63:=Nat.pow_le_pow_right (by omega) (by omega)
  have hlt:clrB x i < 18446744073709551616:=(BitVec.ofNat 64 x &&& ~~~BitVec.ofNat 64 (2 ^ i)).isLt
  have hneg:¬ ((i:Int) < 0):=by omega
  have e2:(1:Int) * 2 ^ min i IntKind.u64.bits=((2 ^ i:Nat):Int):=by
    rw [show IntKind.u64.bits=64 from rfl,Nat.min_eq_left (by omega)]; simp
  have e3:=andNot_nat (x:=x) (y:=2 ^ i)
  simp -implicitDefEqProofs only [fq36.n0_w,sw0,sw1,sw2,sw3,sw4,sw5,reduceCtorEq,Nat.reduceEqDiff,Nat.reduceAdd,Nat.reduceDiv,Nat.reduceLeDiff,wrapu (show i < 18446744073709551616 by omega),hneg,Int.toNat_natCast,e2,wrapu (show 2 ^ i < 18446744073709551616 by omega),e3,fq36.ret]
  rw [show (BitVec.ofNat 64 x &&& ~~~BitVec.ofNat 64 (2 ^ i)).toNat=clrB x i from rfl,wrapu hlt]
theorem has_machine (hk:1≤k) {x i:Nat} (hx:x < 18446744073709551616) (hi:i < 64):VC ⟨prog,k,b⟩ F_fq31 [uv x,iv i] ⟨H,lk⟩ K=K (.bool (x.testBit i)) ⟨H,lk⟩:=by
  obtain ⟨k,rfl⟩:∃ j,k=j + 1:=⟨k - 1,by omega⟩
  apply VC_iff
  apply fq31.enter
  have hneg:¬ ((i:Int) < 0):=by omega
  have e2:(x:Int).fdiv (2 ^ min i IntKind.u64.bits)=((x / 2 ^ i:Nat):Int):=by
    rw [show IntKind.u64.bits=64 from rfl,Nat.min_eq_left (by omega),show (2:Int) ^ i=((2 ^ i:Nat):Int) by simp,fdiv_nat]
  have hd:x / 2 ^ i≤x:=Nat.div_le_self _ _
  have e3:(BitVec.ofInt IntKind.u64.bits ((x / 2 ^ i:Nat):Int) &&& BitVec.ofInt IntKind.u64.bits 1).toNat=x / 2 ^ i &&& 1:=and_nat (y:=1) (by omega) (by omega)
  have hand:x / 2 ^ i &&& 1 < 18446744073709551616:=Nat.lt_of_le_of_lt Nat.and_le_right (by omega)
  simp -implicitDefEqProofs only [fq31.n0_w,sw0,sw1,sw2,sw3,sw4,sw5,reduceCtorEq,Nat.reduceEqDiff,Nat.reduceAdd,Nat.reduceDiv,Nat.reduceLeDiff,wrapu (show i < 18446744073709551616 by omega),hneg,Int.toNat_natCast,e2,e3,wrapu hand,fq31.ret]
  have:=has_val hi hx
  congr 1
  rw [Bool.eq_iff_iff,← this,decide_eq_true_eq]
  omega
theorem has_place (hk:1≤k) {x i:Nat} (hx:x < 18446744073709551616) (hi:i < 64):VC ⟨prog,k,b⟩ F_fq34 [uv x,iv i] ⟨H,lk⟩ K=K (.bool (x.testBit i)) ⟨H,lk⟩:=by
  obtain ⟨k,rfl⟩:∃ j,k=j + 1:=⟨k - 1,by omega⟩
  apply VC_iff
  apply fq34.enter
  have hneg:¬ ((i:Int) < 0):=by omega
  have e2:(x:Int).fdiv (2 ^ min i IntKind.u64.bits)=((x / 2 ^ i:Nat):Int):=by
    rw [show IntKind.u64.bits=64 from rfl,Nat.min_eq_left (by omega),show (2:Int) ^ i=((2 ^ i:Nat):Int) by simp,fdiv_nat]
  have hd:x / 2 ^ i≤x:=Nat.div_le_self _ _
  have e3:(BitVec.ofInt IntKind.u64.bits ((x / 2 ^ i:Nat):Int) &&& BitVec.ofInt IntKind.u64.bits 1).toNat=x / 2 ^ i &&& 1:=and_nat (y:=1) (by omega) (by omega)
  have hand:x / 2 ^ i &&& 1 < 18446744073709551616:=Nat.lt_of_le_of_lt Nat.and_le_right (by omega)
  simp -implicitDefEqProofs only [fq34.n0_w,sw0,sw1,sw2,sw3,sw4,sw5,reduceCtorEq,Nat.reduceEqDiff,Nat.reduceAdd,Nat.reduceDiv,Nat.reduceLeDiff,wrapu (show i < 18446744073709551616 by omega),hneg,Int.toNat_natCast,e2,e3,wrapu hand,fq34.ret]
  have:=has_val hi hx
  congr 1
  rw [Bool.eq_iff_iff,← this,decide_eq_true_eq]
  omega
def colds (p:Plt) (n:Nat):List Int:=(List.range n).map (coldOf p.machs)
def powers (p:Plt) (n:Nat):List Int:=(List.range n).map (powerOf p.machs)
theorem colds_len {p n}:(colds p n).length=n:=by simp [colds]
theorem powers_len {p n}:(powers p n).length=n:=by simp [powers]
theorem colds_succ {p n}:colds p (n + 1)=colds p n ++ [coldOf p.machs n]:=by simp [colds,List.range_succ]
theorem powers_succ {p n}:powers p (n + 1)=powers p n ++ [powerOf p.machs n]:=by simp [powers,List.range_succ]
theorem colds_at {p n i} (h:i < (colds p n).length):(colds p n)[i]=coldOf p.machs i:=by simp [colds]
theorem powers_at {p n i} (h:i < (powers p n).length):(powers p n)[i]=powerOf p.machs i:=by simp [powers]
structure PX (H:List AObj) (c:Nat) (p:Plt):Prop where
  how:∃ vl vp vm vc vw,H[c]?=some (.cells [iv p.heat,iv p.low,iv p.high,vl,vp,vm,vc,vw])∧SI H vl p.loads∧SI H vp p.prices∧Sl H 3 mc vm p.machs∧SI H vc (colds p (2 ^ p.machs.length))∧SI H vw (powers p (2 ^ p.machs.length))
theorem PX.app {c p} (h:PX H c p) {L:List AObj}:PX (H ++ L) c p:=by
  obtain ⟨vl,vp,vm,vc,vw,e,h1,h2,h3,h4,h5⟩:=h.how
  exact ⟨vl,vp,vm,vc,vw,get_app e,h1.app,h2.app,h3.app,h4.app,h5.app⟩
theorem ic_flat (xs:List Int):(xs.map ic).flatten.length=xs.length:=by rw [flat_len ic_len,Nat.mul_one]
def Same (m:Nat) (G G':List AObj):Prop:=∀ d,m≤d→d < G.length→G'[d]?=G[d]?
theorem Same.refl (m:Nat) (G:List AObj):Same m G G:=fun _ _ _=>rfl
theorem laid_g (hk:1020≤k) {H0:List AObj} {cs:List AV} {p:Plt} (hp:PV H0 cs p) (hH:∃ X,H=H0 ++ X) (hl:p.loads.length≤1000∧p.prices.length≤1000∧p.machs.length≤60)
    (hno:p.ok=false→K (.tup [.nilptr,.bool false]) ⟨H,lk⟩) (hyes:p.ok=true→∀ L c,(∀ G',Same H.length (H ++ L) G'→(∃ L',G'=H0 ++ L')→PX G' (H.length + c) p)→K (.tup [.ptr (H.length + c) 0 8,.bool true]) ⟨H ++ L,lk⟩):VC ⟨prog,k,b⟩ F_fq23 [.agg cs] ⟨H,lk⟩ K:=by
  obtain ⟨k,rfl⟩:∃ j,k=j + 1:=⟨k - 1,by omega⟩
  obtain ⟨X0,hX0⟩:=hH
  have hp0:=hp
  have hp:PV H cs p:=by rw [hX0]; exact hp0.app
  obtain ⟨vl,vp,vm,rfl,h01,h02,h03⟩:=hp0.how
  have h1:SI H vl p.loads:=by rw [hX0]; exact h01.app
  have h2:SI H vp p.prices:=by rw [hX0]; exact h02.app
  have h3:Sl H 3 mc vm p.machs:=by rw [hX0]; exact h03.app
  apply fq23.enter
  have hpa:=hp.app (L:=[.cells [iv p.heat,iv p.low,iv p.high,vl,vp,vm]])
  simp -implicitDefEqProofs only [fq23.n0_w,sw0,sw1,sw2,sw3,sw4,sw5,reduceCtorEq,Nat.reduceEqDiff,Nat.reduceAdd,Nat.reduceDiv,Nat.reduceLeDiff,h1.one,h2.one,h3.one,CheckPlant_s (k:=k) (by omega) hpa ⟨hl.1,hl.2.1,by omega⟩]
  cases hok:p.ok
  · simp -implicitDefEqProofs only [sw0,sw1,sw2,sw3,sw4,sw5,reduceCtorEq,Nat.reduceEqDiff,Nat.reduceAdd,Nat.reduceDiv,Nat.reduceLeDiff,fq23.n1_w,fq23.ret]
    exact hno hok
  · have ho := Plt.ok_Ok hok
    have hfew:=ho.few
    obtain ⟨N,hN⟩:∃ N,N=2 ^ p.machs.length:=⟨_,rfl⟩
    have hpw:N≤16:=by rw [hN]; exact Nat.pow_le_pow_right (by omega) hfew
    have hneg:¬ ((p.machs.length:Int) < 0):=by omega
    have e2:(1:Int) * 2 ^ min p.machs.length IntKind.u64.bits=(N:Int):=by
      rw [hN,show IntKind.u64.bits=64 from rfl,Nat.min_eq_left (by omega)]; simp
    simp -implicitDefEqProofs only [sw0,sw1,sw2,sw3,sw4,sw5,reduceCtorEq,Nat.reduceEqDiff,Nat.reduceAdd,Nat.reduceDiv,Nat.reduceLeDiff,fq23.n2_w,h1.one,h2.one,h3.one,h1.cells,h2.cells,h3.cells,h3.len,hneg,Int.toNat_natCast,e2,wrapu (show N < 18446744073709551616 by omega)]
    refine fq23.n3_l (fun m r5 s=>∃ n:Nat,r5=uv n∧m=N - n∧n≤N∧((n=0∧∃ L,s=⟨H ++ (.cells [iv p.heat,iv p.low,iv p.high,vl,vp,vm] :: .cells [iv p.heat,iv p.low,iv p.high,vl,vp,vm,.slice true 0 [],.slice true 0 []] :: L),false⟩) ∨
      (0 < n∧∃ L1 L2,s=⟨H ++ (.cells [iv p.heat,iv p.low,iv p.high,vl,vp,vm] :: .cells [iv p.heat,iv p.low,iv p.high,vl,vp,vm,.sref (H.length + (L1.length + 1 + 1)) 0 n (n * 1) 1,.sref (H.length + (L1.length + 1 + 1 + 1)) 0 n (n * 1) 1] :: (L1 ++ (.cells ((colds p n).map ic).flatten :: .cells ((powers p n).map ic).flatten :: L2))),false⟩)))
      (N) (by simp -implicitDefEqProofs only []; omega) ⟨0,rfl,by omega,by omega,.inl ⟨rfl,[],by simp⟩⟩ ?_
    rintro m r3 r4 r5 r6 r9 r10 r11 r12 r13 r14 r15 r16 r17 r18 r19 r20 r21 r22 r23 r24 r25 r26 r27 r28 s ⟨n,rfl,hm,hn,hs⟩
    simp -implicitDefEqProofs only [fq23.n4_w,sw0,sw1,sw2,sw3,sw4,sw5,reduceCtorEq,Nat.reduceEqDiff,Nat.reduceAdd,Nat.reduceDiv,Nat.reduceLeDiff]
    split
    · rename_i hlt
      have hlt:n < N:=by omega

      obtain ⟨G,hG,hG2⟩:∃ G,s=⟨H ++ (.cells [iv p.heat,iv p.low,iv p.high,vl,vp,vm] :: G),false⟩∧((n=0∧∃ L,G=.cells [iv p.heat,iv p.low,iv p.high,vl,vp,vm,.slice true 0 [],.slice true 0 []] :: L) ∨
          (0 < n∧∃ L1 L2,G=.cells [iv p.heat,iv p.low,iv p.high,vl,vp,vm,.sref (H.length + (L1.length + 1 + 1)) 0 n (n * 1) 1,.sref (H.length + (L1.length + 1 + 1 + 1)) 0 n (n * 1) 1] :: (L1 ++ (.cells ((colds p n).map ic).flatten :: .cells ((powers p n).map ic).flatten :: L2)))):=by
        rcases hs with ⟨h0,L,rfl⟩ | ⟨h0,L1,L2,rfl⟩
        · exact ⟨_,rfl,.inl ⟨h0,L,rfl⟩⟩
        · exact ⟨_,rfl,.inr ⟨h0,L1,L2,rfl⟩⟩
      subst hG
      simp -implicitDefEqProofs only [fq23.n6_w,sw0,sw1,sw2,sw3,sw4,sw5,reduceCtorEq,Nat.reduceEqDiff,Nat.reduceAdd,Nat.reduceDiv,Nat.reduceLeDiff,h3.len]
      refine fq23.n7_l (fun m r3 r4 r6 s=>∃ (i:Nat) (x y:Int) (J:List AObj),r3=iv x∧r4=iv y∧r6=iv i∧s=⟨H ++ (.cells [iv p.heat,iv p.low,iv p.high,vl,vp,vm] :: (G ++ J)),false⟩∧m=p.machs.length - i∧i≤p.machs.length∧0≤x∧x≤i * 1000000∧0≤y∧y≤i * 1000000 ∧
        x + coldOf (p.machs.drop i) (n / 2 ^ i)=coldOf p.machs n∧y + powerOf (p.machs.drop i) (n / 2 ^ i)=powerOf p.machs n) p.machs.length (by simp -implicitDefEqProofs only []; omega) ⟨0,0,0,[],rfl,rfl,rfl,by simp,by omega,by omega,by omega,by omega,by omega,by omega,by simp,by simp⟩ ?_
      rintro m' r3 r4 r6 r11 r12 s ⟨i,x,y,J,rfl,rfl,rfl,rfl,hm',hi,hx1,hx2,hy1,hy2,hx,hy⟩
      simp -implicitDefEqProofs only [fq23.n8_w,sw0,sw1,sw2,sw3,sw4,sw5,reduceCtorEq,Nat.reduceEqDiff,Nat.reduceAdd,Nat.reduceDiv,Nat.reduceLeDiff]
      split
      · rename_i hlti
        have hlti:i < p.machs.length:=by omega
        have hmi:=ho.machs i hlti
        have h3':=h3.app (L:=.cells [iv p.heat,iv p.low,iv p.high,vl,vp,vm] :: (G ++ J))
        rw [coldOf_drop hlti] at hx
        rw [powerOf_drop hlti] at hy
        simp -implicitDefEqProofs only [fq23.n10_w,sw0,sw1,sw2,sw3,sw4,sw5,reduceCtorEq,Nat.reduceEqDiff,Nat.reduceAdd,Nat.reduceDiv,Nat.reduceLeDiff,h3'.at,hlti,h3'.lda hlti,mc,has_machine (k:=k) (by omega) (show n < 18446744073709551616 by omega) (show i < 64 by omega)]
        split
        · rename_i hbit
          rw [if_pos hbit] at hx hy
          simp -implicitDefEqProofs only [fq23.n11_w,sw0,sw1,sw2,sw3,sw4,sw5,reduceCtorEq,Nat.reduceEqDiff,Nat.reduceAdd,Nat.reduceDiv,Nat.reduceLeDiff,fq23.n12_w]
          refine fq23.n7_go (m':=m' - 1) (by omega) ⟨i + 1,x + p.machs[i].cold,y + p.machs[i].power,J ++ [.cells [iv p.machs[i].cold,iv p.machs[i].power,iv p.machs[i].start]],by rw [wrap64 (by omega)],by rw [wrap64 (by omega)],by rw [wrap64 (by omega)]; rfl,rfl,by omega,by omega,by omega,by omega,by omega,by omega,by omega,by omega⟩
        · rename_i hbit
          rw [if_neg hbit] at hx hy
          simp -implicitDefEqProofs only [fq23.n12_w,sw0,sw1,sw2,sw3,sw4,sw5,reduceCtorEq,Nat.reduceEqDiff,Nat.reduceAdd,Nat.reduceDiv,Nat.reduceLeDiff]
          refine fq23.n7_go (m':=m' - 1) (by omega) ⟨i + 1,x,y,J ++ [.cells [iv p.machs[i].cold,iv p.machs[i].power,iv p.machs[i].start]],rfl,rfl,by rw [wrap64 (by omega)]; rfl,rfl,by omega,by omega,by omega,by omega,by omega,by omega,by omega,by omega⟩
      · rename_i hgei
        rw [List.drop_of_length_le (by omega)] at hx hy
        simp -implicitDefEqProofs only [coldOf,powerOf,Int.add_zero] at hx hy
        subst hx; subst hy
        rcases hG2 with ⟨rfl,L,rfl⟩ | ⟨h0,L1,L2,rfl⟩
        · have e1:∀ (base:Option Nat) (H':List AObj) (fl:Bool) (x:Int),eApp base ⟨H',false⟩ 1 8 (.slice true 0 []) (.slice fl 1 [[iv x]])=some (.sref H'.length 0 1 (1 * 1) 1,⟨H' ++ [.cells [iv x]],false⟩):=fun base H' fl x=>app_nil rfl rfl (by omega)
          simp -implicitDefEqProofs only [fq23.n13_w,sw0,sw1,sw2,sw3,sw4,sw5,reduceCtorEq,Nat.reduceEqDiff,Nat.reduceAdd,Nat.reduceDiv,Nat.reduceLeDiff,e1,fq23.n14_w]
          refine fq23.n3_go (m':=m - 1) (by omega) ⟨1,by rw [show ((0:Nat):Int) + 1=((1:Nat):Int) by omega,wrapu (by omega)],by omega,by omega,.inr ⟨by omega,L ++ J,[],?_⟩⟩
          simp [colds,powers,Nat.add_assoc]
          try omega
        · have hrow1:row (H ++ .cells [iv p.heat,iv p.low,iv p.high,vl,vp,vm] :: .cells [iv p.heat,iv p.low,iv p.high,vl,vp,vm,.sref (H.length + (L1.length + 1 + 1)) 0 n (n * 1) 1,.sref (H.length + (L1.length + 1 + 1 + 1)) 0 n (n * 1) 1] :: (L1 ++ (.cells ((colds p n).map ic).flatten :: .cells ((powers p n).map ic).flatten :: (L2 ++ J))))
              (H.length + (L1.length + 1 + 1)) (n * 1)=some ((colds p n).map ic).flatten:=by
            simp -implicitDefEqProofs only [sw0,sw1,sw2,sw3,sw4,sw5,reduceCtorEq,Nat.reduceEqDiff,Nat.reduceAdd,Nat.reduceDiv,Nat.reduceLeDiff,ic_flat,colds_len,Nat.mul_one]
          have hrow2:row (H ++ .cells [iv p.heat,iv p.low,iv p.high,vl,vp,vm] :: .cells [iv p.heat,iv p.low,iv p.high,vl,vp,vm,.sref (H.length + (L1.length + 1 + 1)) 0 n (n * 1) 1,.sref (H.length + (L1.length + 1 + 1 + 1)) 0 n (n * 1) 1] :: (L1 ++ (.cells ((colds p (n + 1)).map ic).flatten :: .cells ((powers p n).map ic).flatten :: (L2 ++ J))))
              (H.length + (L1.length + 1 + 1 + 1)) (n * 1)=some ((powers p n).map ic).flatten:=by
            rw [show H.length + (L1.length + 1 + 1 + 1)=H.length + ((L1.length + 1) + 1 + 1) by omega]
            simp -implicitDefEqProofs only [sw0,sw1,sw2,sw3,sw4,sw5,reduceCtorEq,Nat.reduceEqDiff,Nat.reduceAdd,Nat.reduceDiv,Nat.reduceLeDiff,ic_flat,powers_len,Nat.mul_one]
          have happ1:=app_own (base:=some H.length) (lk:=false) (fl:=true) (bytes:=8) (x:=coldOf p.machs n) Nat.one_pos ic_len (ic_one _) (ic_clean _) (by rw [colds_len]) hrow1 (by rw [colds_len]; omega)
          have happ2:=app_own (base:=some H.length) (lk:=false) (fl:=true) (bytes:=8) (x:=powerOf p.machs n) Nat.one_pos ic_len (ic_one _) (ic_clean _) (by rw [powers_len]) hrow2 (by rw [powers_len]; omega)
          rw [colds_len,← colds_succ] at happ1
          rw [powers_len,← powers_succ] at happ2
          simp -implicitDefEqProofs only [ic] at happ1 happ2
          simp -implicitDefEqProofs only [fq23.n13_w,sw0,sw1,sw2,sw3,sw4,sw5,reduceCtorEq,Nat.reduceEqDiff,Nat.reduceAdd,Nat.reduceDiv,Nat.reduceLeDiff,happ1,happ2,fq23.n14_w]
          refine fq23.n3_go (m':=m - 1) (by omega) ⟨n + 1,by rw [show (n:Int) + 1=((n + 1:Nat):Int) by omega,wrapu (by omega)],by omega,by omega,.inr ⟨by omega,L1,L2 ++ J,rfl⟩⟩
    · rename_i hge
      have hn2:n=N:=by omega
      simp -implicitDefEqProofs only [fq23.n15_w,fq23.ret,sw0,sw1,sw2,sw3,sw4,sw5,reduceCtorEq,Nat.reduceEqDiff,Nat.reduceAdd,Nat.reduceDiv,Nat.reduceLeDiff]
      have hN1:0 < N:=by rw [hN]; exact Nat.two_pow_pos _
      rcases hs with ⟨h0,L,rfl⟩ | ⟨h0,L1,L2,rfl⟩
      · omega
      · have hu:AV.under H.length (.ptr (H.length + 1) 0 8)=false:=by simp [AV.under]
        subst hn2
        simp -implicitDefEqProofs only [sw0,sw1,sw2,sw3,sw4,sw5,reduceCtorEq,Nat.reduceEqDiff,Nat.reduceAdd,Nat.reduceDiv,Nat.reduceLeDiff,hu]
        refine hyes hok _ 1 (fun G' hag hpre=>?_)
        obtain ⟨L',rfl⟩:=hpre
        have hagA:row (H0 ++ L') (H.length + (L1.length + 1 + 1)) (n * 1)=some ((colds p n).map ic).flatten:=row_of ((hag _ (by omega) (by first | (simp; done) | (simp; omega))).trans (by simp -implicitDefEqProofs only [sw0,sw1,sw2,sw3,sw4,sw5,reduceCtorEq,Nat.reduceEqDiff,Nat.reduceAdd,Nat.reduceDiv,Nat.reduceLeDiff])) (by rw [ic_flat,colds_len]; omega)
        have hagB:row (H0 ++ L') (H.length + (L1.length + 1 + 1 + 1)) (n * 1)=some ((powers p n).map ic).flatten:=row_of ((hag _ (by omega) (by first | (simp; done) | (simp; omega))).trans (by rw [show H.length + (L1.length + 1 + 1 + 1)=H.length + ((L1.length + 1) + 1 + 1) by omega]; simp -implicitDefEqProofs only [sw0,sw1,sw2,sw3,sw4,sw5,reduceCtorEq,Nat.reduceEqDiff,Nat.reduceAdd,Nat.reduceDiv,Nat.reduceLeDiff])) (by rw [ic_flat,powers_len]; omega)
        refine ⟨vl,vp,vm,_,_,(hag _ (by omega) (by first | (simp; done) | (simp; omega))).trans (by simp -implicitDefEqProofs only [sw0,sw1,sw2,sw3,sw4,sw5,reduceCtorEq,Nat.reduceEqDiff,Nat.reduceAdd,Nat.reduceDiv,Nat.reduceLeDiff]; rfl),h01.app,h02.app,h03.app,⟨Nat.one_pos,ic_len,.inr ⟨_,0,_,_,by rw [← hN,colds_len],hagA,by rw [← hN,List.drop_zero,List.take_of_length_le (by rw [ic_flat,colds_len]; omega)]⟩⟩,⟨Nat.one_pos,ic_len,.inr ⟨_,0,_,_,by rw [← hN,powers_len],hagB,by rw [← hN,List.drop_zero,List.take_of_length_le (by rw [ic_flat,powers_len]; omega)]⟩⟩⟩
theorem laid_s (hk:1020≤k) {cs:List AV} {p:Plt} (hp:PV H cs p) (hl:p.loads.length≤1000∧p.prices.length≤1000∧p.machs.length≤60)
    (hno:p.ok=false→K (.tup [.nilptr,.bool false]) ⟨H,lk⟩) (hyes:p.ok=true→∀ L c,PX (H ++ L) (H.length + c) p→K (.tup [.ptr (H.length + c) 0 8,.bool true]) ⟨H ++ L,lk⟩):VC ⟨prog,k,b⟩ F_fq23 [.agg cs] ⟨H,lk⟩ K :=
  laid_g hk hp ⟨[],by simp⟩ hl hno (fun hok L c hx=>hyes hok L c (hx _ (Same.refl _ _) ⟨L,rfl⟩))
end Go.Proofs.YtcebebhaahpoiaaDoor
end
section
namespace Go.Proofs.YtcebebhaahpoiaaDoor
open Go Go.Ai Go.W
attribute [local irreducible] VC YC WC
set_option linter.unusedSimpArgs false
set_option linter.unusedVariables false
set_option maxRecDepth 10000
variable {k:Nat} {b:Option Nat} {H:List AObj} {lk:Bool} {K:AV→St→Prop}
theorem heat_s (hk:10≤k) {c:Nat} {p:Plt} (hp:PX H c p) (ho:p.Ok) {h n:Nat} {before:Int} (hh:h < p.loads.length) (hn:n < 2 ^ p.machs.length) (hb:-100000000≤before∧before≤100000000) :
    VC ⟨prog,k,b⟩ F_fq26 [.ptr c 0 8,iv h,iv before,iv n] ⟨H,lk⟩ K=K (iv (p.heatBy h before n)) ⟨H,lk⟩:=by
  obtain ⟨k,rfl⟩:∃ j,k=j + 1:=⟨k - 1,by omega⟩
  obtain ⟨vl,vp,vm,vc,vw,hc,h1,h2,h3,h4,h5⟩:=hp.how
  have hrow:row H c 8=some [iv p.heat,iv p.low,iv p.high,vl,vp,vm,vc,vw]:=row_of hc rfl
  have hn':n < (colds p (2 ^ p.machs.length)).length:=by rw [colds_len]; exact hn
  have hld:=ho.loads h hh
  have hfew:=ho.few
  have hcl:=coldOf_le (fun i hi=>(ho.machs i hi).1) n
  apply VC_iff
  apply fq26.enter
  simp -implicitDefEqProofs only [fq26.n0_w,sw0,sw1,sw2,sw3,sw4,sw5,reduceCtorEq,Nat.reduceEqDiff,Nat.reduceAdd,Nat.reduceDiv,Nat.reduceLeDiff,hrow,h1.at,hh,h1.ld hh h1.pos,ic,h4.at,hn',h4.ld hn' h4.pos,colds_at]
  rw [wrap64 (n:=before + p.loads[h]) (by omega),wrap64 (by omega)]
  simp -implicitDefEqProofs only [fq26.ret,sw0,sw1,sw2,sw3,sw4,sw5,reduceCtorEq,Nat.reduceEqDiff,Nat.reduceAdd,Nat.reduceDiv,Nat.reduceLeDiff,Plt.heatBy,List.getD_eq_getElem?_getD,List.getElem?_eq_getElem hh,Option.getD_some]
def startsOf (ms:List Mach) (s:Nat):Int:=startOf ms s 0
theorem startOf_ext:∀ (ms:List Mach) (n o s:Nat),(∀ j,s.testBit j=(n.testBit j && !o.testBit j))→startsOf ms s=startOf ms n o
  | [],_,_,_,_=>rfl
  | m :: ms,n,o,s,h=>by
    have ih:=startOf_ext ms (n / 2) (o / 2) (s / 2) (fun j=>by have:=h (j + 1); simpa only [Nat.testBit_succ] using this)
    unfold startsOf at ih ⊢
    simp -implicitDefEqProofs only [startOf,h 0,Nat.zero_testBit,Bool.not_false,Bool.and_true,Nat.zero_div,ih]
theorem startsOf_clr:∀ (ms:List Mach) (s i:Nat) (h:i < ms.length),s < 18446744073709551616→s.testBit i=true→startsOf ms s=ms[i].start + startsOf ms (clrB s i)
  | m :: ms,s,0,h,hs,hb=>by
    have e:∀ j,(clrB s 0 / 2).testBit j=(s / 2).testBit j:=fun j=>by
      rw [← Nat.testBit_succ,← Nat.testBit_succ,tb_clr hs]; simp
    have e2:clrB s 0 / 2=s / 2:=Nat.eq_of_testBit_eq e
    have e3:(clrB s 0).testBit 0=false:=by rw [tb_clr hs]; simp
    unfold startsOf
    simp -implicitDefEqProofs only [startOf,e2,e3,hb,Nat.zero_testBit,List.getElem_cons_zero]
    simp
  | m :: ms,s,i + 1,h,hs,hb=>by
    have ih:=startsOf_clr ms (s / 2) i (by simpa using h) (by omega) (by rw [← Nat.testBit_succ]; exact hb)
    have e:∀ j,(clrB s (i + 1) / 2).testBit j=(clrB (s / 2) i).testBit j:=fun j=>by
      rw [← Nat.testBit_succ,tb_clr hs,tb_clr (by omega),Nat.testBit_succ]; simp
    have e2:clrB s (i + 1) / 2=clrB (s / 2) i:=Nat.eq_of_testBit_eq e
    have e3:(clrB s (i + 1)).testBit 0=s.testBit 0:=by rw [tb_clr hs]; simp
    unfold startsOf at ih ⊢
    simp -implicitDefEqProofs only [startOf,e2,e3,ih,Nat.zero_div,List.getElem_cons_succ]
    omega
theorem startsOf_le {p:Plt} (ho:p.Ok) (s:Nat):0≤startsOf p.machs s∧startsOf p.machs s≤4000000:=by
  have:=startOf_le (fun i hi=>(ho.machs i hi).2.2) s 0
  have:=ho.few
  unfold startsOf
  omega
theorem cost_s (hk:1000≤k) {c:Nat} {p:Plt} (hp:PX H c p) (ho:p.Ok) {h n o:Nat} (hh:h < p.loads.length) (hn:n < 2 ^ p.machs.length) (hno:o < 2 ^ p.machs.length) :
    VC ⟨prog,k,b⟩ F_fq25 [.ptr c 0 8,iv h,iv o,iv n] ⟨H,lk⟩ K=K (iv (p.costBy h o n)) ⟨H,lk⟩:=by
  obtain ⟨k,rfl⟩:∃ j,k=j + 1:=⟨k - 1,by omega⟩
  obtain ⟨vl,vp,vm,vc,vw,hc,h1,h2,h3,h4,h5⟩:=hp.how
  have hrow:row H c 8=some [iv p.heat,iv p.low,iv p.high,vl,vp,vm,vc,vw]:=row_of hc rfl
  have hn':n < (powers p (2 ^ p.machs.length)).length:=by rw [powers_len]; exact hn
  have hh2:h < p.prices.length:=by rw [← ho.len]; exact hh
  have hpr:=ho.prices h hh2
  have hfew:=ho.few
  have hpw:=powerOf_le (fun i hi=>(ho.machs i hi).2.1) n
  have hmul:=mul_amt hpr ⟨hpw.1,show powerOf p.machs n≤4000000 by omega⟩
  have hso:=startOf_le (fun i hi=>(ho.machs i hi).2.2) n o
  obtain ⟨N,hN⟩:∃ N,N=2 ^ p.machs.length:=⟨_,rfl⟩
  have hN16:N≤16:=by rw [hN]; exact Nat.pow_le_pow_right (by omega) hfew
  rw [← hN] at hn hno
  obtain ⟨X,hX⟩:∃ X,X=(BitVec.ofNat 64 n &&& ~~~BitVec.ofNat 64 o).toNat:=⟨_,rfl⟩
  have hXt:∀ j,X.testBit j=(n.testBit j && !o.testBit j):=fun j=>by rw [hX]; exact tb_andNot (by omega)
  have hXn:X < N:=by
    rw [hN]
    refine Nat.lt_pow_two_of_testBit _ (fun j hj=>?_)
    rw [hXt,Nat.testBit_lt_two_pow (Nat.lt_of_lt_of_le (hN ▸ hn) (Nat.pow_le_pow_right (by omega) hj))]
    rfl
  apply VC_iff
  apply fq25.enter
  have e1:=andNot_i64 (x:=n) (y:=o)
  rw [← hX] at e1
  simp -implicitDefEqProofs only [fq25.n0_w,sw0,sw1,sw2,sw3,sw4,sw5,reduceCtorEq,Nat.reduceEqDiff,Nat.reduceAdd,Nat.reduceDiv,Nat.reduceLeDiff,hrow,h2.at,hh2,h2.ld hh2 h2.pos,ic,h5.at,hn',h5.ld hn' h5.pos,powers_at,e1]
  rw [wrap64 (n:=p.prices[h] * powerOf p.machs n) (by omega),wrap64 (n:=(X:Int)) (by omega),wrapu (by omega)]
  refine fq25.n1_l (fun m r5 r6 s=>∃ (x:Nat) (t:Int),r5=iv t∧r6=uv x∧s=⟨H,false⟩∧m=x∧x < N∧0≤t∧t≤5000000000000∧t + startsOf p.machs x=p.prices[h] * powerOf p.machs n + startOf p.machs n o) X (by simp -implicitDefEqProofs only []; omega)
    ⟨X,_,rfl,rfl,rfl,rfl,by omega,by omega,by omega,by rw [startOf_ext p.machs n o X hXt]⟩ ?_
  rintro m r1 r2 r3 r5 r6 r7 r8 r9 r10 r11 r12 r13 r14 r15 s ⟨x,t,rfl,rfl,rfl,rfl,hx,ht1,ht2,ht⟩
  simp -implicitDefEqProofs only [fq25.n2_w,sw0,sw1,sw2,sw3,sw4,sw5,reduceCtorEq,Nat.reduceEqDiff,Nat.reduceAdd,Nat.reduceDiv,Nat.reduceLeDiff]
  split
  · rename_i hne
    have hne:m ≠ 0:=by omega
    have hlt64:m < 2 ^ 64:=by omega
    have hfirst:=ctzN_spec 64 m hne hlt64
    have hc64:=ctzN_lt hne hlt64
    have hi:ctzN 64 m < p.machs.length:=by
      rcases Nat.lt_or_ge (ctzN 64 m) p.machs.length with h | h
      · exact h
      · have h6:=Nat.ge_two_pow_of_testBit hfirst.1
        have h7:=Nat.pow_le_pow_right (show 0 < 2 by omega) h
        omega
    have hmi:=ho.machs _ hi
    have hcl:=startsOf_clr p.machs m (ctzN 64 m) hi (by omega) hfirst.1
    have hlt2:=clrB_lt (show m < 18446744073709551616 by omega) hfirst.1
    have hb1:=startsOf_le ho m
    have hb2:=startsOf_le ho (clrB m (ctzN 64 m))
    simp -implicitDefEqProofs only [fq25.n4_w,sw0,sw1,sw2,sw3,sw4,sw5,reduceCtorEq,Nat.reduceEqDiff,Nat.reduceAdd,Nat.reduceDiv,Nat.reduceLeDiff,hrow,first_machine (k:=k) (by omega) (show m < 18446744073709551616 by omega),without_machine (k:=k) (by omega) (show m < 18446744073709551616 by omega) hc64,h3.at,hi,h3.off,h3.ld hi (show 2 < 3 by omega),mc]
    refine fq25.n1_go (m':=clrB m (ctzN 64 m)) hlt2 ⟨_,t + p.machs[ctzN 64 m].start,by rw [wrap64 (by omega)],rfl,rfl,rfl,by omega,by omega,by omega,by omega⟩
  · rename_i hz
    have hz:m=0:=by omega
    subst hz
    have e0:startsOf p.machs 0=0:=by
      have:∀ ms:List Mach,startsOf ms 0=0:=by
        intro ms
        induction ms with
        | nil=>rfl
        | cons m ms ih=>unfold startsOf at ih ⊢; simp [startOf,ih]
      exact this _
    have:t=p.costBy h o n:=by
      unfold Plt.costBy
      simp -implicitDefEqProofs only [List.getD_eq_getElem?_getD,List.getElem?_eq_getElem hh2,Option.getD_some]
      omega
    simp -implicitDefEqProofs only [fq25.n5_w,sw0,sw1,sw2,sw3,sw4,sw5,reduceCtorEq,Nat.reduceEqDiff,Nat.reduceAdd,Nat.reduceDiv,Nat.reduceLeDiff,fq25.ret,this]
theorem scheduled_1_s (hk:5≤k) {c q:Nat} {p:Plt} (hp:PX H c p) (ho:p.Ok) (hq:H[q]?=some (.cells [.ptr c 0 8])) {n:Int}:VC ⟨prog,k,b⟩ F_fq29 [iv n,.ptr q 0 1] ⟨H,lk⟩ K=K (.bool (!p.num n)) ⟨H,lk⟩:=by
  obtain ⟨k,rfl⟩:∃ j,k=j + 1:=⟨k - 1,by omega⟩
  obtain ⟨vl,vp,vm,vc,vw,hc,h1,h2,h3,h4,h5⟩:=hp.how
  have hrow:row H c 8=some [iv p.heat,iv p.low,iv p.high,vl,vp,vm,vc,vw]:=row_of hc rfl
  have hrow2:row H q 1=some [.ptr c 0 8]:=row_of hq rfl
  obtain ⟨N,hN⟩:∃ N,N=2 ^ p.machs.length:=⟨_,rfl⟩
  have hN16:N≤16:=by rw [hN]; exact Nat.pow_le_pow_right (by omega) ho.few
  apply VC_iff
  apply fq29.enter
  simp -implicitDefEqProofs only [fq29.n0_w,sw0,sw1,sw2,sw3,sw4,sw5,reduceCtorEq,Nat.reduceEqDiff,Nat.reduceAdd,Nat.reduceDiv,Nat.reduceLeDiff,hrow,hrow2,h4.len,colds_len]
  rw [← hN,wrap64 (by omega)]
  simp -implicitDefEqProofs only [sw0,sw1,sw2,sw3,sw4,sw5,reduceCtorEq,Nat.reduceEqDiff,Nat.reduceAdd,Nat.reduceDiv,Nat.reduceLeDiff,within_s (k:=k) (by omega),fq29.ret,Plt.num,← hN]
theorem scheduled_s (hk:1030≤k) {cs:List AV} {v:AV} {p:Plt} {l:List Int} (hp:PV H cs p) (hs:SI H v l) (hl:p.loads.length≤1000∧p.prices.length≤1000∧p.machs.length≤60) (hll:l.length≤1000)
    (hno:p.sched l=false→∀ L,K (.tup [.nilptr,.bool false]) ⟨H ++ L,lk⟩) (hyes:p.sched l=true→∀ L c,PX (H ++ L) c p→K (.tup [.ptr c 0 8,.bool true]) ⟨H ++ L,lk⟩):VC ⟨prog,k,b⟩ F_fq28 [.agg cs,v] ⟨H,lk⟩ K:=by
  obtain ⟨k,rfl⟩:∃ j,k=j + 1:=⟨k - 1,by omega⟩
  have hp':=hp
  obtain ⟨vl,vp,vm,rfl,h1,h2,h3⟩:=hp'.how
  apply fq28.enter
  have hpa:=hp.app (L:=[.cells [iv p.heat,iv p.low,iv p.high,vl,vp,vm]])
  simp -implicitDefEqProofs only [fq28.n0_w,sw0,sw1,sw2,sw3,sw4,sw5,reduceCtorEq,Nat.reduceEqDiff,Nat.reduceAdd,Nat.reduceDiv,Nat.reduceLeDiff,h1.one,h2.one,h3.one]
  refine laid_s (k:=k) (by omega) hpa hl ?_ ?_
  · intro hok
    have hns:p.sched l=false:=by simp [Plt.sched,hok]
    have:=hno hns []
    simp -implicitDefEqProofs only [List.append_nil] at this
    simp -implicitDefEqProofs only [sw0,sw1,sw2,sw3,sw4,sw5,reduceCtorEq,Nat.reduceEqDiff,Nat.reduceAdd,Nat.reduceDiv,Nat.reduceLeDiff,fq28.n1_w,fq28.ret]
    exact this
  · intro hok L c hx
    have ho:=Plt.ok_Ok hok
    simp -implicitDefEqProofs only [sw0,sw1,sw2,sw3,sw4,sw5,reduceCtorEq,Nat.reduceEqDiff,Nat.reduceAdd,Nat.reduceDiv,Nat.reduceLeDiff,hs.len,h1.len]
    by_cases d1:(l.length:Int)=p.loads.length
    · have d1':l.length=p.loads.length:=by omega
      have hs':=hs.app (L:=.cells [iv p.heat,iv p.low,iv p.high,vl,vp,vm] :: (L ++ [.cells [.ptr (H.length + 1 + c) 0 8]]))
      have hx':PX (H ++ .cells [iv p.heat,iv p.low,iv p.high,vl,vp,vm] :: (L ++ [.cells [.ptr (H.length + 1 + c) 0 8]])) (H.length + 1 + c) p:=by
        have:=hx.app (L:=[.cells [.ptr (H.length + 1 + c) 0 8]])
        simpa using this
      simp -implicitDefEqProofs only [eq_true d1,sw0,sw1,sw2,sw3,sw4,sw5,reduceCtorEq,Nat.reduceEqDiff,Nat.reduceAdd,Nat.reduceDiv,Nat.reduceLeDiff,ContainsFunc_int (k:=k) (by omega) (f:=F_fq29) (caps:=[.ptr (H.length + (L.length + 1)) 0 1]) hs' hll (vl:=iv) (fun x=>rfl) (p:=fun x=>!p.num x) (fun x hx b lk K=>scheduled_1_s (k:=k - 2) (q:=H.length + (L.length + 1)) (by omega) hx' ho (by simp -implicitDefEqProofs only [sw0,sw1,sw2,sw3,sw4,sw5,reduceCtorEq,Nat.reduceEqDiff,Nat.reduceAdd,Nat.reduceDiv,Nat.reduceLeDiff]))]
      cases hany:l.any (fun x=>!p.num x)
      · have hyes':p.sched l=true:=by
          have:l.all p.num=true:=by rw [List.all_eq_not_any_not,hany]; rfl
          simp [Plt.sched,hok,d1',this]
        have hu:AV.under H.length (.ptr (H.length + 1 + c) 0 8)=false:=by simp [AV.under]; omega
        simp -implicitDefEqProofs only [sw0,sw1,sw2,sw3,sw4,sw5,reduceCtorEq,Nat.reduceEqDiff,Nat.reduceAdd,Nat.reduceDiv,Nat.reduceLeDiff,fq28.n2_w,fq28.ret,hu]
        exact hyes hyes' _ _ hx'
      · have hns:p.sched l=false:=by
          have:l.all p.num=false:=by rw [List.all_eq_not_any_not,hany]; rfl
          simp [Plt.sched,this]
        have:=hno hns []
        simp -implicitDefEqProofs only [List.append_nil] at this
        simp -implicitDefEqProofs only [sw0,sw1,sw2,sw3,sw4,sw5,reduceCtorEq,Nat.reduceEqDiff,Nat.reduceAdd,Nat.reduceDiv,Nat.reduceLeDiff,fq28.n1_w,fq28.ret]
        exact this
    · have d1':¬ l.length=p.loads.length:=by omega
      have hns:p.sched l=false:=by simp [Plt.sched,d1']
      have:=hno hns []
      simp -implicitDefEqProofs only [List.append_nil] at this
      simp -implicitDefEqProofs only [eq_false d1,sw0,sw1,sw2,sw3,sw4,sw5,reduceCtorEq,Nat.reduceEqDiff,Nat.reduceAdd,Nat.reduceDiv,Nat.reduceLeDiff,fq28.n1_w,fq28.ret]
      exact this
theorem Heats_s (hk:1040≤k) {cs:List AV} {v:AV} {p:Plt} {l:List Int} (hp:PV H cs p) (hs:SI H v l) (hl:p.loads.length≤1000∧p.prices.length≤1000∧p.machs.length≤60) (hll:l.length≤1000) :
    VC ⟨prog,k,b⟩ F_fq10 [.agg cs,v] ⟨H,lk⟩ K=K (.tup (if p.sched l then [.slice false 1 ((heatsFrom p 0 p.heat l).map ic),iv 0] else [.slice true 0 [],iv 2])) ⟨H,lk⟩:=by
  obtain ⟨k,rfl⟩:∃ j,k=j + 1:=⟨k - 1,by omega⟩
  have hp':=hp
  obtain ⟨vl,vp,vm,rfl,h1,h2,h3⟩:=hp'.how
  apply VC_iff
  apply fq10.enter
  have hpa:=hp.app (L:=[.cells [iv p.heat,iv p.low,iv p.high,vl,vp,vm]])
  have hs':=hs.app (L:=[.cells [iv p.heat,iv p.low,iv p.high,vl,vp,vm]])
  simp -implicitDefEqProofs only [fq10.n0_w,sw0,sw1,sw2,sw3,sw4,sw5,reduceCtorEq,Nat.reduceEqDiff,Nat.reduceAdd,Nat.reduceDiv,Nat.reduceLeDiff,h1.one,h2.one,h3.one]
  refine scheduled_s (k:=k) (by omega) hpa hs' hl hll ?_ ?_
  · intro hok L
    simp -implicitDefEqProofs only [sw0,sw1,sw2,sw3,sw4,sw5,reduceCtorEq,Nat.reduceEqDiff,Nat.reduceAdd,Nat.reduceDiv,Nat.reduceLeDiff,fq10.n1_w,fq10.ret,hok]
  · intro hok L c hx
    obtain ⟨ho,hlen,hnum⟩:=sched_at hok
    have hlow:=ho.low
    have hheat:=ho.heat
    have hhigh:=ho.high
    have hhrs:=ho.hours
    simp -implicitDefEqProofs only [sw0,sw1,sw2,sw3,sw4,sw5,reduceCtorEq,Nat.reduceEqDiff,Nat.reduceAdd,Nat.reduceDiv,Nat.reduceLeDiff,fq10.n2_w,hs.len]
    refine fq10.n3_l (fun m r4 r5 r6 s=>∃ (i:Nat) (t:Int) (xs:List Int),r4=.sref (H.length + (L.length + 1)) 0 xs.length (xs.length * 1) 1∧r5=iv t∧r6=iv i∧s=⟨H ++ (.cells [iv p.heat,iv p.low,iv p.high,vl,vp,vm] :: (L ++ [.cells (xs.map ic).flatten])),false⟩∧m=l.length - i∧i≤l.length∧xs.length=i ∧
      -1000000≤t∧t≤2000000 + i * 1000000∧xs ++ heatsFrom p i t (l.drop i)=heatsFrom p 0 p.heat l) l.length (by simp -implicitDefEqProofs only []; omega) ⟨0,p.heat,[],rfl,rfl,rfl,rfl,by omega,by omega,rfl,by omega,by omega,rfl⟩ ?_
    rintro m r4 r5 r6 r7 s ⟨i,t,xs,rfl,rfl,rfl,rfl,hm,hi,hxl,ht1,ht2,hxs⟩
    simp -implicitDefEqProofs only [fq10.n4_w,sw0,sw1,sw2,sw3,sw4,sw5,reduceCtorEq,Nat.reduceEqDiff,Nat.reduceAdd,Nat.reduceDiv,Nat.reduceLeDiff]
    have hsb:=hs.app (L:=.cells [iv p.heat,iv p.low,iv p.high,vl,vp,vm] :: (L ++ [.cells (xs.map ic).flatten]))
    have hxb:PX (H ++ .cells [iv p.heat,iv p.low,iv p.high,vl,vp,vm] :: (L ++ [.cells (xs.map ic).flatten])) c p:=by
      have:=hx.app (L:=[.cells (xs.map ic).flatten])
      simpa using this
    have hrow:row (H ++ .cells [iv p.heat,iv p.low,iv p.high,vl,vp,vm] :: (L ++ [.cells (xs.map ic).flatten])) (H.length + (L.length + 1)) (xs.length * 1)=some (xs.map ic).flatten:=by
      simp -implicitDefEqProofs only [sw0,sw1,sw2,sw3,sw4,sw5,reduceCtorEq,Nat.reduceEqDiff,Nat.reduceAdd,Nat.reduceDiv,Nat.reduceLeDiff,flat_len ic_len]
    split
    · rename_i hlt
      have hlt:i < l.length:=by omega
      have hn:=hnum i hlt
      have hcast:l[i]=(l[i].toNat:Int):=by omega
      have hb:=heatBy_le ho (show i < p.loads.length by omega) (n:=l[i].toNat) ⟨ht1,ht2⟩ (by omega)
      simp -implicitDefEqProofs only [fq10.n6_w,sw0,sw1,sw2,sw3,sw4,sw5,reduceCtorEq,Nat.reduceEqDiff,Nat.reduceAdd,Nat.reduceDiv,Nat.reduceLeDiff,hsb.at,hlt,hsb.ld hlt hs.pos,ic]
      rw [hcast]
      simp -implicitDefEqProofs only [sw0,sw1,sw2,sw3,sw4,sw5,reduceCtorEq,Nat.reduceEqDiff,Nat.reduceAdd,Nat.reduceDiv,Nat.reduceLeDiff,heat_s (k:=k) (by omega) hxb ho (show i < p.loads.length by omega) (show l[i].toNat < 2 ^ p.machs.length by omega) (show -100000000≤t∧t≤100000000 by omega)]
      have happ:=app_own (base:=some H.length) (lk:=false) (fl:=true) (bytes:=8) (x:=p.heatBy i t l[i].toNat) Nat.one_pos ic_len (ic_one _) (ic_clean _) rfl hrow (by omega)
      simp -implicitDefEqProofs only [ic] at happ
      simp -implicitDefEqProofs only [happ,sw0,sw1,sw2,sw3,sw4,sw5,reduceCtorEq,Nat.reduceEqDiff,Nat.reduceAdd,Nat.reduceDiv,Nat.reduceLeDiff]
      refine fq10.n3_go (m':=m - 1) (by omega) ⟨i + 1,p.heatBy i t l[i].toNat,xs ++ [p.heatBy i t l[i].toNat],by simp,rfl,by rw [wrap64 (by omega)]; rfl,rfl,by omega,by omega,by simp [hxl],hb.1,by omega,?_⟩
      rw [← hxs,drop_at hlt,heatsFrom]
      simp
    · rename_i hge
      have hz:l.drop i=[]:=List.drop_of_length_le (by omega)
      rw [hz] at hxs
      simp -implicitDefEqProofs only [heatsFrom,List.append_nil] at hxs
      have hfz:=fz_own (m:=H.length) Nat.one_pos ic_len ic_clean rfl hrow (by omega)
      rw [← hxs]
      simp -implicitDefEqProofs only [fq10.n7_w,sw0,sw1,sw2,sw3,sw4,sw5,reduceCtorEq,Nat.reduceEqDiff,Nat.reduceAdd,Nat.reduceDiv,Nat.reduceLeDiff,fq10.ret,hfz,hok]
end Go.Proofs.YtcebebhaahpoiaaDoor
end
section
namespace Go.Proofs.YtcebebhaahpoiaaDoor
open Go Go.Ai Go.W
attribute [local irreducible] VC YC WC
set_option linter.unusedSimpArgs false
set_option linter.unusedVariables false
def minF (val:Nat→Option Int):Nat→Option (Int × Nat)
  | 0=>none
  | n + 1=>match val n,minF val n with
    | none,a=>a
    | some d,none=>some (d,n)
    | some d,some (c,m)=>if d < c then some (d,n) else some (c,m)
theorem minF_none {val:Nat→Option Int}:∀ {N:Nat},minF val N=none→∀ n,n < N→val n=none
  | 0,_,n,hn=>absurd hn (by omega)
  | N + 1,h,n,hn=>by
    unfold minF at h
    split at h
    · rename_i h1
      by_cases e:n=N
      · rw [e,h1]
      · exact minF_none h n (by omega)
    · cases h
    · split at h <;> cases h
theorem minF_some {val:Nat→Option Int}:∀ {N:Nat} {c:Int} {m:Nat},minF val N=some (c,m)→m < N∧val m=some c∧(∀ n,n < N→∀ d,val n=some d→c≤d)∧(∀ n,n < m→∀ d,val n=some d→c < d)
  | 0,_,_,h=>by cases h
  | N + 1, c,m,h=>by
    unfold minF at h
    split at h
    · rename_i h1
      obtain ⟨a1,a2,a3,a4⟩:=minF_some h
      refine ⟨by omega,a2,fun n hn d hd=>?_,a4⟩
      by_cases e:n=N
      · rw [e,h1] at hd; cases hd
      · exact a3 n (by omega) d hd
    · rename_i d h1 h2
      simp -implicitDefEqProofs only [Option.some.injEq,Prod.mk.injEq] at h
      obtain ⟨rfl,rfl⟩:=h
      refine ⟨by omega,h1,fun n hn d' hd=>?_,fun n hn d' hd=>?_⟩
      · by_cases e:n=N
        · rw [e,h1] at hd; simp at hd; omega
        · rw [minF_none h2 n (by omega)] at hd; cases hd
      · rw [minF_none h2 n (by omega)] at hd; cases hd
    · rename_i d c' m' h1 h2
      obtain ⟨a1,a2,a3,a4⟩:=minF_some h2
      split at h
      · rename_i hlt
        simp -implicitDefEqProofs only [Option.some.injEq,Prod.mk.injEq] at h
        obtain ⟨rfl,rfl⟩:=h
        refine ⟨by omega,h1,fun n hn d' hd=>?_,fun n hn d' hd=>?_⟩
        · by_cases e:n=N
          · rw [e,h1] at hd; simp at hd; omega
          · have:=a3 n (by omega) d' hd; omega
        · have:=a3 n (by omega) d' hd; omega
      · rename_i hge
        simp -implicitDefEqProofs only [Option.some.injEq,Prod.mk.injEq] at h
        obtain ⟨rfl,rfl⟩:=h
        refine ⟨by omega,a2,fun n hn d' hd=>?_,a4⟩
        by_cases e:n=N
        · rw [e,h1] at hd; simp at hd; omega
        · exact a3 n (by omega) d' hd
def best (p:Plt):Nat→Nat→Int→Nat→Option (Int × Nat)
  | 0,_,_,_=>some (0,0)
  | r + 1,h,t,o=>minF (fun n=>if p.heatBy h t n≤p.high then (best p r (h + 1) (p.heatBy h t n) n).map (fun q=>q.1 + p.costBy h o n) else none) (2 ^ p.machs.length)
def bval (p:Plt) (r h:Nat) (t:Int) (o:Nat) (n:Nat):Option Int :=
  if p.heatBy h t n≤p.high then (best p r (h + 1) (p.heatBy h t n) n).map (fun q=>q.1 + p.costBy h o n) else none
theorem best_succ (p:Plt) (r h:Nat) (t:Int) (o:Nat):best p (r + 1) h t o=minF (bval p r h t o) (2 ^ p.machs.length):=rfl
def plan (p:Plt):Nat→Nat→Int→Nat→List Int
  | 0,_,_,_=>[]
  | r + 1,h,t,o=>match best p (r + 1) h t o with
    | none=>[]
    | some (_,n)=>(n:Int) :: plan p r (h + 1) (p.heatBy h t n) n
theorem best_le {p:Plt} (ho:p.Ok):∀ (r h:Nat) (t:Int) (o:Nat) (c:Int) (m:Nat),h + r≤p.loads.length→best p r h t o=some (c,m)→0≤c∧c≤r * 4000004000000
  | 0,h,t,o,c,m,hr,hb=>by simp [best] at hb; omega
  | r + 1,h,t,o,c,m,hr,hb=>by
    rw [best_succ] at hb
    obtain ⟨_,hv,_,_⟩:=minF_some hb
    unfold bval at hv
    split at hv
    · obtain ⟨q,hq,hc⟩:=Option.map_eq_some_iff.1 hv
      have h1:=best_le ho r (h + 1) _ _ q.1 q.2 (by omega) hq
      have h2:=costBy_le ho (show h < p.loads.length by omega) o m
      omega
    · cases hv
def Plt.cool (p:Plt):List AV :=
  if p.ok then match best p p.loads.length 0 p.heat 0 with
    | none=>[.slice false 1 [],iv 0,iv 7]
    | some (c,_)=>[.slice false 1 ((plan p p.loads.length 0 p.heat 0).map ic),iv c,iv 0]
  else [.slice false 1 [],iv 0,iv 2]
end Go.Proofs.YtcebebhaahpoiaaDoor
end
section
namespace Go.Proofs.YtcebebhaahpoiaaDoor
open Go Go.Ai Go.W
attribute [local irreducible] VC YC WC
set_option linter.unusedSimpArgs false
set_option linter.unusedVariables false
set_option maxRecDepth 10000
variable {k:Nat} {b:Option Nat} {H:List AObj} {lk:Bool} {K:AV→St→Prop}
abbrev shS:Sh:=.mk true [.int .i64,.int .i64]
def tr (ks:List (Int × Int)):List ((Int × Int) × AV):=ks.map fun q=>(q,.bool true)
def insK (ks:List (Int × Int)) (q:Int × Int):List (Int × Int):=if q ∈ ks then ks else ks ++ [q]
theorem tr_ins (ks:List (Int × Int)) (q:Int × Int):ins (tr ks) q (.bool true)=tr (insK ks q):=by
  unfold insK
  induction ks with
  | nil=>simp [tr,ins]
  | cons a ks ih =>
    simp -implicitDefEqProofs only [tr,List.map_cons,ins]
    by_cases h:q=a
    · subst h; simp [tr]
    · simp -implicitDefEqProofs only [h,if_false,List.mem_cons,false_or]
      simp -implicitDefEqProofs only [tr] at ih
      rw [ih]
      split <;> simp
theorem insK_mem {ks:List (Int × Int)} {q x:Int × Int}:x ∈ insK ks q↔x ∈ ks∨x=q:=by
  unfold insK
  split
  · rename_i h
    constructor
    · exact .inl
    · rintro (h1 | rfl)
      · exact h1
      · exact h
  · simp
theorem insK_len {ks:List (Int × Int)} {q:Int × Int}:(insK ks q).length≤ks.length + 1:=by
  unfold insK
  split <;> simp
theorem insK_nodup {ks:List (Int × Int)} {q:Int × Int} (h:ks.Nodup):(insK ks q).Nodup:=by
  unfold insK
  split
  · exact h
  · rename_i hn
    rw [List.nodup_append]
    refine ⟨h,by simp,fun a ha b hb=>?_⟩
    simp -implicitDefEqProofs only [List.mem_singleton] at hb
    subst hb
    exact fun e=>hn (e ▸ ha)
theorem mem_erase_or {α:Type} {l:List α} {i:Nat} {a x:α} (h:l[i]?=some a) (hx:x ∈ l):x=a∨x ∈ l.eraseIdx i:=by
  obtain ⟨j,hj,rfl⟩:=List.getElem_of_mem hx
  by_cases e:j=i
  · subst e
    rw [List.getElem?_eq_getElem hj] at h
    simp -implicitDefEqProofs only [Option.some.injEq] at h
    exact .inl h
  · exact .inr (List.mem_eraseIdx_iff_getElem.2 ⟨j,hj,e,rfl⟩)
theorem enc_at {rs:List (Int × Int)} {i:Nat} {k' v:AV} (h:(encE ev2 (tr rs))[i]?=some (k',v)):∃ q,rs[i]?=some q∧k'=ev2 q∧v=.bool true:=by
  simp -implicitDefEqProofs only [encE,tr,List.map_map,List.getElem?_map,Option.map_eq_some_iff] at h
  obtain ⟨q,hq,e⟩:=h
  simp -implicitDefEqProofs only [Function.comp,Prod.mk.injEq] at e
  exact ⟨q,hq,e.1.symm,e.2.symm⟩
theorem enc_erase {rs:List (Int × Int)} {i:Nat}:(encE ev2 (tr rs)).eraseIdx i=encE ev2 (tr (rs.eraseIdx i)):=by
  simp -implicitDefEqProofs only [encE,tr,List.map_map]
  induction rs generalizing i with
  | nil=>rfl
  | cons a rs ih=>cases i with
    | zero=>rfl
    | succ i=>simp -implicitDefEqProofs only [List.map_cons,List.eraseIdx_cons_succ,ih]
theorem enc_nil {rs:List (Int × Int)} (h:encE ev2 (tr rs)=[]):rs=[]:=by
  simpa [encE,tr] using h
structure RSt (p:Plt) (i:Nat) (ks:List (Int × Int)):Prop where
  nodup:ks.Nodup
  len:ks.length≤16 ^ i
  num:∀ q,q ∈ ks→p.low≤q.1∧q.1≤p.high∧0≤q.2∧q.2 < (2 ^ p.machs.length:Nat)
def Img (p:Plt) (i:Nat) (q:Int × Int) (nx:List (Int × Int)) (N:Nat):Prop:=∀ n:Nat,n < N→p.heatBy i q.1 n≤p.high→(p.heatBy i q.1 n,(n:Int)) ∈ nx
structure AllAt (G:List AObj) (c:Nat) (ms:List Nat) (kss:List (List (Int × Int))) (p:Plt):Prop where
  row:G[c]?=some (.cells (ms.map .map))
  len:kss.length=ms.length
  maps:∀ i (h:i < ms.length) (h':i < kss.length),MapAt G ms[i] shS ev2 (tr kss[i])∧RSt p i kss[i]
  start:kss[0]?=some [(p.heat,0)]
  step:∀ i (h:i + 1 < kss.length) q,q ∈ kss[i]→Img p i q kss[i + 1] (2 ^ p.machs.length)
abbrev mcell (m:Nat):List AV:=[.map m]
theorem mcell_flat (ms:List Nat):(ms.map mcell).flatten=ms.map .map:=by
  induction ms with
  | nil=>rfl
  | cons m ms ih=>simp [ih]
theorem AllAt.lts {G c ms kss p} (h:AllAt G c ms kss p):c < G.length∧∀ i (hi:i < ms.length),ms[i] < G.length∧ms[i] ≠ c:=by
  refine ⟨(List.getElem?_eq_some_iff.1 h.row).1,fun i hi=>?_⟩
  obtain ⟨hm,_⟩:=h.maps i hi (by rw [h.len]; exact hi)
  refine ⟨hm.lt,fun e=>?_⟩
  obtain ⟨ver,hv⟩:=hm.how
  rw [e,h.row] at hv
  cases hv
theorem reached_s (hk : 16 ^ 50 ≤ k) {px : Nat} {p:Plt} (hp:PX H px p) (ho:p.Ok)
    (hK:∀ L c ms kss,AllAt (H ++ L) c ms kss p→ms.length=p.loads.length + 1→H.length≤c→K (.sref c 0 ms.length (ms.length * 1) 1) ⟨H ++ L,lk⟩):VC ⟨prog,k,b⟩ F_fq27 [.ptr px 0 8] ⟨H,lk⟩ K:=by
  obtain ⟨k, rfl⟩ : ∃ j, k = j + 1 := ⟨k - 1, by have:0 < 16 ^ 50:=by decide
                                                 omega⟩
  have e50:(16:Nat) ^ 50=1606938044258990275541962092341162602522202993782792835301376:=by decide
  have e49:(16:Nat) ^ 49=100433627766186892221372630771322662657637687111424552206336:=by decide
  obtain ⟨vl,vp,vm,vc,vw,hc,h1,h2,h3,h4,h5⟩:=hp.how
  have hrow:row H px 8=some [iv p.heat,iv p.low,iv p.high,vl,vp,vm,vc,vw]:=row_of hc rfl
  have hrowA:∀ L,row (H ++ L) px 8=some [iv p.heat,iv p.low,iv p.high,vl,vp,vm,vc,vw]:=fun L=>row_app hrow
  have hhrs:=ho.hours
  have hheat:=ho.heat
  have hhigh:=ho.high
  have hlow:=ho.low
  apply fq27.enter
  have hupd0:eMupd (some H.length) ⟨H ++ [.map shS 0 []],false⟩ shS (.map H.length) (ev2 (p.heat,0)) (.bool true)=some ⟨H ++ [.map shS 1 (encE ev2 (tr [(p.heat,0)]))],false⟩:=by
    have:=upd_at key_iv2 (H:=H ++ [.map shS 0 []]) (c:=H.length) (l:=[]) (ver:=0) (by simp -implicitDefEqProofs only [sw0,sw1,sw2,sw3,sw4,sw5,reduceCtorEq,Nat.reduceEqDiff,Nat.reduceAdd,Nat.reduceDiv,Nat.reduceLeDiff]; rfl) (base:=some H.length) (lk:=false) (p.heat,0) (v:=.bool true) rfl
    rw [this]
    simp -implicitDefEqProofs only [sw0,sw1,sw2,sw3,sw4,sw5,reduceCtorEq,Nat.reduceEqDiff,Nat.reduceAdd,Nat.reduceDiv,Nat.reduceLeDiff]
    rfl
  simp -implicitDefEqProofs only [fq27.n0_w,sw0,sw1,sw2,sw3,sw4,sw5,reduceCtorEq,Nat.reduceEqDiff,Nat.reduceAdd,Nat.reduceDiv,Nat.reduceLeDiff,hrowA,hupd0,h1.len]
  obtain ⟨N,hN⟩:∃ N,N=2 ^ p.machs.length:=⟨_,rfl⟩
  have hN16:N≤16:=by rw [hN]; exact Nat.pow_le_pow_right (by omega) ho.few
  refine fq27.n1_l (fun m r2 r3 s=>∃ (G:List AObj) (c h:Nat) (ms:List Nat) (kss:List (List (Int × Int))),r2=.sref c 0 ms.length (ms.length * 1) 1∧r3=iv h∧s=⟨G,false⟩∧(∃ L,G=H ++ L)∧ms.length=h + 1∧h≤p.loads.length∧m=p.loads.length - h∧H.length≤c∧AllAt G c ms kss p)
    p.loads.length (by simp -implicitDefEqProofs only []; omega) ⟨_,H.length + 1,0,[H.length],[[(p.heat,0)]],rfl,rfl,rfl,⟨_,rfl⟩,rfl,by omega,by omega,by omega,⟨by simp -implicitDefEqProofs only [sw0,sw1,sw2,sw3,sw4,sw5,reduceCtorEq,Nat.reduceEqDiff,Nat.reduceAdd,Nat.reduceDiv,Nat.reduceLeDiff]; rfl,rfl,?_,rfl,?_⟩⟩ ?_
  · intro i hi _
    have:i=0:=by simp at hi; exact hi
    subst this
    refine ⟨⟨1,by simp -implicitDefEqProofs only [sw0,sw1,sw2,sw3,sw4,sw5,reduceCtorEq,Nat.reduceEqDiff,Nat.reduceAdd,Nat.reduceDiv,Nat.reduceLeDiff,List.getElem_cons_zero]⟩,⟨by simp,by simp,?_⟩⟩
    intro q hq
    simp -implicitDefEqProofs only [List.getElem_cons_zero,List.mem_singleton] at hq
    subst hq
    exact ⟨hheat.1,hheat.2,by simp,by have:=Nat.two_pow_pos p.machs.length; omega⟩
  · intro i hi
    simp at hi
  rintro m r2 r3 r4 r6 r7 r8 r9 r10 r11 s ⟨G,c,h,ms,kss,rfl,rfl,rfl,⟨L,hG⟩,hml,hh,hm,hcH,hA⟩
  have hGlen:H.length≤G.length:=by rw [hG]; simp
  have hpG:PX G px p:=by rw [hG]; exact hp.app
  have hrowG:∀ L',row (G ++ L') px 8=some [iv p.heat,iv p.low,iv p.high,vl,vp,vm,vc,vw]:=fun L'=>row_app (by rw [hG]; exact hrowA L)
  have hcN:(c < H.length)=False:=by simp; omega
  simp -implicitDefEqProofs only [fq27.n2_w,sw0,sw1,sw2,sw3,sw4,sw5,reduceCtorEq,Nat.reduceEqDiff,Nat.reduceAdd,Nat.reduceDiv,Nat.reduceLeDiff]
  split
  · rename_i hlt
    have hlt:h < p.loads.length:=by omega
    have hhm:h < ms.length:=by omega
    have hhk:h < kss.length:=by rw [hA.len]; exact hhm
    obtain ⟨hMap,hSt⟩:=hA.maps h hhm hhk
    obtain ⟨ver,hver⟩:=hMap.how
    have hrG:∀ L',row (G ++ L') c (ms.length * 1)=some (ms.map .map):=fun L'=>row_app (row_of hA.row (by simp))
    have hget:(ms.map AV.map)[h * 1]?=some (.map ms[h]):=by simp [hhm]
    have hverG:∀ L',(G ++ L')[ms[h]]?=some (.map shS ver (encE ev2 (tr kss[h]))):=fun L'=>get_app hver
    have hrng:eRange ⟨G ++ [.map shS 0 []],false⟩ (.map ms[h])=some (.iter (G.length + 1),⟨G ++ [.map shS 0 [],.iter ms[h] ver (encE ev2 (tr kss[h])) none],false⟩):=by
      have:=rng_at (lk:=false) (hverG [.map shS 0 []])
      rw [this]
      simp -implicitDefEqProofs only [sw0,sw1,sw2,sw3,sw4,sw5,reduceCtorEq,Nat.reduceEqDiff,Nat.reduceAdd,Nat.reduceDiv,Nat.reduceLeDiff]
    simp -implicitDefEqProofs only [fq27.n4_w,sw0,sw1,sw2,sw3,sw4,sw5,reduceCtorEq,Nat.reduceEqDiff,Nat.reduceAdd,Nat.reduceDiv,Nat.reduceLeDiff,hrG,hhm,hget,hrng]
    refine fq27.n5_l (fun m s=>∃ (rs nx:List (Int × Int)) (ver':Nat) (lst:Option (AV × AV)) (J:List AObj),s=⟨G ++ (.map shS ver' (encE ev2 (tr nx)) :: .iter ms[h] ver (encE ev2 (tr rs)) lst :: J),false⟩∧m=rs.length∧(∀ q,q ∈ rs→q ∈ kss[h]) ∧
        (∀ q,q ∈ kss[h]→q ∈ rs∨Img p h q nx N)∧nx.Nodup∧nx.length + rs.length * 16≤kss[h].length * 16∧(∀ q,q ∈ nx→p.low≤q.1∧q.1≤p.high∧0≤q.2∧q.2 < N))
      kss[h].length ?_ ⟨kss[h],[],0,none,[],rfl,rfl,fun q hq=>hq,fun q hq=>.inl hq,by simp,by simp,fun q hq=>by cases hq⟩ ?_
    · have:=hSt.len
      have h48:(16:Nat) ^ h≤16 ^ 49:=Nat.pow_le_pow_right (by omega) (by omega)
      simp -implicitDefEqProofs only []
      omega
    rintro m' r4 r8 r9 r10 r11 s ⟨rs,nx,ver',lst,J,rfl,rfl,hrs1,hrs2,hnd,hnl,hnb⟩
    simp -implicitDefEqProofs only [fq27.n6_w]
    refine VN_it (sh:=shS) (es:=encE ev2 (tr kss[h])) (by simp -implicitDefEqProofs only [sw0,sw1,sw2,sw3,sw4,sw5,reduceCtorEq,Nat.reduceEqDiff,Nat.reduceAdd,Nat.reduceDiv,Nat.reduceLeDiff]; rfl) (hverG _) ?_ ?_
    · intro hnil
      have hr0:=enc_nil hnil
      subst hr0
      simp -implicitDefEqProofs only [sw0,sw1,sw2,sw3,sw4,sw5,reduceCtorEq,Nat.reduceEqDiff,Nat.reduceAdd,Nat.reduceDiv,Nat.reduceLeDiff,fq27.n15_w]
      have happ:=app_own_g (base:=some H.length) (lk:=false) (bytes:=8) (f:=mcell) (xs:=ms) (x:=G.length) (y:=.sref (G.length + (J.length + 1 + 1)) 0 1 1 1) (H:=G ++ .map shS ver' (encE ev2 (tr nx)) :: .iter ms[h] ver (encE ev2 (tr [])) lst :: (J ++ [.cells [.map G.length]])) (c:=c) (v:=ms.length * 1)
        Nat.one_pos (fun _=>rfl) rfl (by simp -implicitDefEqProofs only [lk_some,hcN]; rfl) rfl (by rw [mcell_flat]; exact hrG _) (by omega) (by simp -implicitDefEqProofs only [rowOf,if_true,sw0,sw1,sw2,sw3,sw4,sw5,reduceCtorEq,Nat.reduceEqDiff,Nat.reduceAdd,Nat.reduceDiv,Nat.reduceLeDiff])
      simp -implicitDefEqProofs only [sw0,sw1,sw2,sw3,sw4,sw5,reduceCtorEq,Nat.reduceEqDiff,Nat.reduceAdd,Nat.reduceDiv,Nat.reduceLeDiff,happ,fq27.n16_w]
      have hms':(ms ++ [G.length]).length=ms.length + 1:=by simp
      refine fq27.n1_go (m':=m - 1) (by omega) ⟨_,c,h + 1,ms ++ [G.length],kss ++ [nx],by rw [hms'],by rw [wrap64 (by omega)]; rfl,rfl,?_,by omega,by omega,by omega,hcH,?_⟩
      · refine ⟨(L ++ (AObj.map shS ver' (encE ev2 (tr nx)) :: AObj.iter ms[h] ver (encE ev2 (tr [])) lst :: (J ++ [AObj.cells [.map G.length]]))).set (c - H.length) (AObj.cells ((ms ++ [G.length]).map mcell).flatten),?_⟩
        generalize G.length=gl at *
        rw [hG,List.append_assoc,List.set_append_right _ _ hcH]
      · have hclt:=hA.lts.1
        have hGX:∀ (X:List AObj) (o:AObj) d,d < G.length→d ≠ c→((G ++ X).set c o)[d]?=G[d]?:=fun X o d hd hne=>by
          rw [List.getElem?_set_ne (fun e=>hne e.symm),List.getElem?_append_left hd]
        refine ⟨?_,by simp [hA.len],?_,?_,?_⟩
        · rw [List.getElem?_set_self (by simp; omega),mcell_flat]
        · intro i hi1 hi2
          by_cases hil:i < ms.length
          · obtain ⟨hM1,hM2⟩:=hA.maps i hil (by rw [hA.len]; exact hil)
            obtain ⟨v1,hv1⟩:=hM1.how
            have hlt2:=(hA.lts.2 i hil)
            rw [List.getElem_append_left hil,List.getElem_append_left (by rw [hA.len]; exact hil)]
            exact ⟨⟨v1,(hGX _ _ _ hlt2.1 hlt2.2).trans hv1⟩,hM2⟩
          · have hie:i=ms.length:=by simp at hi1; omega
            subst hie
            have hne:c ≠ G.length:=by omega
            rw [List.getElem_append_right (Nat.le_refl _),List.getElem_append_right (by rw [hA.len]; exact Nat.le_refl _)]
            simp -implicitDefEqProofs only [Nat.sub_self,List.getElem_cons_zero,hA.len]
            refine ⟨⟨ver',?_⟩,⟨hnd,?_,?_⟩⟩
            · rw [List.getElem?_set_ne hne]
              simp -implicitDefEqProofs only [sw0,sw1,sw2,sw3,sw4,sw5,reduceCtorEq,Nat.reduceEqDiff,Nat.reduceAdd,Nat.reduceDiv,Nat.reduceLeDiff]
            · have h16:=hSt.len
              rw [hml,Nat.pow_succ]
              simp -implicitDefEqProofs only [List.length_nil,Nat.zero_mul,Nat.add_zero] at hnl
              omega
            · intro x hx
              rw [← hN]
              exact hnb x hx
        · rw [List.getElem?_append_left (by omega)]
          exact hA.start
        · intro i hi1 q hq
          simp -implicitDefEqProofs only [List.length_append,List.length_singleton] at hi1
          rw [← hN]
          by_cases hil:i + 1 < kss.length
          · rw [List.getElem_append_left hil]
            rw [List.getElem_append_left (by omega)] at hq
            rw [hN]
            exact hA.step i hil q hq
          · have hie:i + 1=kss.length:=by omega
            have hih:i=h:=by rw [hA.len] at hie; omega
            subst hih
            rw [List.getElem_append_left (by omega)] at hq
            rw [List.getElem_append_right (by omega)]
            simp -implicitDefEqProofs only [hie,Nat.sub_self,List.getElem_cons_zero]
            rcases hrs2 q hq with h9 | h9
            · cases h9
            · exact h9
    · intro i k' v hi
      obtain ⟨q,hq,rfl,rfl⟩:=enc_at hi
      rw [enc_erase]
      have hqk:=hrs1 q (List.mem_of_getElem? hq)
      obtain ⟨hq1,hq2,hq3,hq4⟩:=hSt.num q hqk
      have hil:i < rs.length:=(List.getElem?_eq_some_iff.1 hq).1
      have hrl:(rs.eraseIdx i).length=rs.length - 1:=by rw [List.length_eraseIdx]; simp [hil]
      have hent:=ent_at (H:=G ++ .map shS ver' (encE ev2 (tr nx)) :: .iter ms[h] ver (encE ev2 (tr (rs.eraseIdx i))) (some (ev2 q,.bool true)) :: J) (b:=G.length + 1) (sh:=shS) (by simp -implicitDefEqProofs only [sw0,sw1,sw2,sw3,sw4,sw5,reduceCtorEq,Nat.reduceEqDiff,Nat.reduceAdd,Nat.reduceDiv,Nat.reduceLeDiff]; rfl) (hverG _)
      simp -implicitDefEqProofs only [sw0,sw1,sw2,sw3,sw4,sw5,reduceCtorEq,Nat.reduceEqDiff,Nat.reduceAdd,Nat.reduceDiv,Nat.reduceLeDiff,fq27.n8_w,hent,hrowG,h4.len,colds_len]
      refine fq27.n9_l (fun m s4 s=>∃ (n:Nat) (nx':List (Int × Int)) (ver2:Nat),s4=iv n∧s=⟨G ++ (.map shS ver2 (encE ev2 (tr nx')) :: .iter ms[h] ver (encE ev2 (tr (rs.eraseIdx i))) (some (ev2 q,.bool true)) :: (J ++ [.cells [iv q.1,iv q.2]])),false⟩∧m=N - n∧n≤N ∧
          (∀ x,x ∈ nx→x ∈ nx')∧Img p h q nx' n∧nx'.Nodup∧nx'.length≤nx.length + n∧(∀ q,q ∈ nx'→p.low≤q.1∧q.1≤p.high∧0≤q.2∧q.2 < N)) N (by simp -implicitDefEqProofs only []; omega)
        ⟨0,nx,ver',rfl,rfl,by omega,by omega,fun x hx=>hx,fun n hn=>absurd hn (by omega),hnd,by omega,hnb⟩ ?_
      rintro m'' r4 r10 r11 s ⟨n,nx',ver2,rfl,rfl,rfl,hnN,hsub,himg,hnd',hnl',hnb'⟩
      simp -implicitDefEqProofs only [fq27.n10_w,sw0,sw1,sw2,sw3,sw4,sw5,reduceCtorEq,Nat.reduceEqDiff,Nat.reduceAdd,Nat.reduceDiv,Nat.reduceLeDiff,← hN]
      split
      · rename_i hlt2
        have hlt2:n < N:=by omega
        have hpx:=hpG.app (L:=.map shS ver2 (encE ev2 (tr nx')) :: .iter ms[h] ver (encE ev2 (tr (rs.eraseIdx i))) (some (ev2 q,.bool true)) :: (J ++ [.cells [iv q.1,iv q.2]]))
        simp -implicitDefEqProofs only [fq27.n12_w,sw0,sw1,sw2,sw3,sw4,sw5,reduceCtorEq,Nat.reduceEqDiff,Nat.reduceAdd,Nat.reduceDiv,Nat.reduceLeDiff,heat_s (k:=k) (by omega) hpx ho hlt (show n < 2 ^ p.machs.length by omega) (show -100000000≤q.1∧q.1≤100000000 by omega),hrowG]
        split
        · rename_i hle
          have hupd:eMupd (some H.length) ⟨G ++ .map shS ver2 (encE ev2 (tr nx')) :: .iter ms[h] ver (encE ev2 (tr (rs.eraseIdx i))) (some (ev2 q,.bool true)) :: (J ++ [.cells [iv q.1,iv q.2]]),false⟩ shS (.map G.length) (.agg [iv (p.heatBy h q.1 n),iv n]) (.bool true) =
              some ⟨G ++ .map shS (ver2 + 1) (encE ev2 (tr (insK nx' (p.heatBy h q.1 n,(n:Int))))) :: .iter ms[h] ver (encE ev2 (tr (rs.eraseIdx i))) (some (ev2 q,.bool true)) :: (J ++ [.cells [iv q.1,iv q.2]]),false⟩:=by
            have:=upd_at key_iv2 (H:=G ++ .map shS ver2 (encE ev2 (tr nx')) :: .iter ms[h] ver (encE ev2 (tr (rs.eraseIdx i))) (some (ev2 q,.bool true)) :: (J ++ [.cells [iv q.1,iv q.2]])) (c:=G.length) (ver:=ver2) (by simp -implicitDefEqProofs only [sw0,sw1,sw2,sw3,sw4,sw5,reduceCtorEq,Nat.reduceEqDiff,Nat.reduceAdd,Nat.reduceDiv,Nat.reduceLeDiff]; rfl) (base:=some H.length) (lk:=false) (p.heatBy h q.1 n,(n:Int)) (v:=.bool true) rfl
            rw [tr_ins] at this
            refine this.trans ?_
            simp -implicitDefEqProofs only [sw0,sw1,sw2,sw3,sw4,sw5,reduceCtorEq,Nat.reduceEqDiff,Nat.reduceAdd,Nat.reduceDiv,Nat.reduceLeDiff]
          have hlo:p.low≤p.heatBy h q.1 n:=by unfold Plt.heatBy; omega
          simp -implicitDefEqProofs only [fq27.n13_w,sw0,sw1,sw2,sw3,sw4,sw5,reduceCtorEq,Nat.reduceEqDiff,Nat.reduceAdd,Nat.reduceDiv,Nat.reduceLeDiff,hupd,fq27.n14_w]
          refine fq27.n9_go (m':=N - (n + 1)) (by omega) ⟨n + 1,_,_,by rw [wrap64 (by omega)]; rfl,rfl,rfl,by omega,fun x hx=>insK_mem.2 (.inl (hsub x hx)),?_,insK_nodup hnd',by have:=insK_len (ks:=nx') (q:=(p.heatBy h q.1 n,(n:Int))); omega,?_⟩
          · intro n' hn' hh'
            by_cases e:n'=n
            · subst e; exact insK_mem.2 (.inr rfl)
            · exact insK_mem.2 (.inl (himg n' (by omega) hh'))
          · intro x hx
            rcases insK_mem.1 hx with hx | rfl
            · exact hnb' x hx
            · exact ⟨hlo,hle,by simp,by simp; omega⟩
        · rename_i hle
          simp -implicitDefEqProofs only [sw0,sw1,sw2,sw3,sw4,sw5,reduceCtorEq,Nat.reduceEqDiff,Nat.reduceAdd,Nat.reduceDiv,Nat.reduceLeDiff,fq27.n14_w]
          refine fq27.n9_go (m':=N - (n + 1)) (by omega) ⟨n + 1,nx',ver2,by rw [wrap64 (by omega)]; rfl,rfl,rfl,by omega,hsub,?_,hnd',by omega,hnb'⟩
          intro n' hn' hh'
          by_cases e:n'=n
          · subst e; exact absurd hh' hle
          · exact himg n' (by omega) hh'
      · rename_i hge2
        have hnN:n=N:=by omega
        subst hnN
        refine fq27.n5_go (m':=(rs.eraseIdx i).length) (by omega) ⟨rs.eraseIdx i,nx',ver2,_,_,rfl,rfl,fun x hx=>hrs1 x (List.mem_of_mem_eraseIdx hx),?_,hnd',by omega,hnb'⟩
        intro x hx
        rcases hrs2 x hx with hx2 | hx2
        · rcases mem_erase_or hq hx2 with rfl | hx3
          · exact .inr himg
          · exact .inl hx3
        · exact .inr (fun n' hn' hh'=>hsub _ (hx2 n' hn' hh'))
  · rename_i hge
    have hhe:h=p.loads.length:=by omega
    simp -implicitDefEqProofs only [fq27.n17_w,fq27.ret]
    have hcl:=hA.lts.1
    have hu:AV.under H.length (.sref c 0 ms.length (ms.length * 1) 1)=false:=by simp [AV.under]; omega
    subst hG
    simp -implicitDefEqProofs only [sw0,sw1,sw2,sw3,sw4,sw5,reduceCtorEq,Nat.reduceEqDiff,Nat.reduceAdd,Nat.reduceDiv,Nat.reduceLeDiff,hu]
    exact hK L c ms kss hA (by omega) hcH
end Go.Proofs.YtcebebhaahpoiaaDoor
end
section
namespace Go.Proofs.YtcebebhaahpoiaaDoor
open Go Go.Ai Go.W
attribute [local irreducible] VC YC WC
set_option linter.unusedSimpArgs false
set_option linter.unusedVariables false
set_option maxRecDepth 10000
variable {k:Nat} {b:Option Nat} {H:List AObj} {lk:Bool} {K:AV→St→Prop}
def chV (q:Int × Nat):AV:=.agg [iv q.1,iv q.2]
structure GoodCh (p:Plt) (i:Nat) (ks:List (Int × Int)) (l:List ((Int × Int) × AV)):Prop where
  val:∀ q,q ∈ ks→lkp l q=(best p (p.loads.length - i) i q.1 q.2.toNat).map chV
  keys:∀ q,(lkp l q).isSome=true→q ∈ ks
structure Out (B:Nat) (G:List AObj) (co j:Nat) (p:Plt) (kss:List (List (Int × Int))):Prop where
  row:∃ cs,G[co]?=some (.cells cs)∧cs.length=p.loads.length + 1∧∀ i (hi:i < kss.length),j≤i→∃ o l,B≤o∧cs[i]?=some (.map o)∧MapAt G o shS ev2 l∧GoodCh p i kss[i] l
theorem mapAt_keep {κ:Type} [DecidableEq κ] {sh:Sh} {ek:κ→AV} {G G':List AObj} {co o:Nat} {l:List (κ × AV)} (h:MapAt G o sh ek l) (hco:∃ cs,G[co]?=some (.cells cs)) (hk:∀ d,d < G.length→d ≠ co→G'[d]?=G[d]?):MapAt G' o sh ek l:=by
  obtain ⟨ver,hv⟩:=h.how
  obtain ⟨cs,hc⟩:=hco
  exact ⟨ver,(hk o h.lt (fun e=>by rw [e,hc] at hv; cases hv)).trans hv⟩
theorem nodup_erase {α:Type} {l:List α} {i:Nat} (h:l.Nodup) (hi:i < l.length):l[i] ∉ l.eraseIdx i:=by
  rw [List.mem_eraseIdx_iff_getElem]
  rintro ⟨j,hj,hne,e⟩
  exact hne ((List.getElem_inj h).1 e)
theorem AllAt.keep {G G':List AObj} {c co:Nat} {ms kss p} (h:AllAt G c ms kss p) (hco:∃ cs,G[co]?=some (.cells cs)) (hne:c ≠ co) (hk:∀ d,d < G.length→d ≠ co→G'[d]?=G[d]?):AllAt G' c ms kss p :=
  ⟨(hk c h.lts.1 hne).trans h.row,h.len,fun i h1 h2=>⟨mapAt_keep (h.maps i h1 h2).1 hco hk,(h.maps i h1 h2).2⟩,h.start,h.step⟩
theorem AllAt.keep0 {G L:List AObj} {c:Nat} {ms kss p} (h:AllAt G c ms kss p):AllAt (G ++ L) c ms kss p :=
  ⟨get_app h.row,h.len,fun i h1 h2=>⟨(h.maps i h1 h2).1.app,(h.maps i h1 h2).2⟩,h.start,h.step⟩
structure ChAt (B:Nat) (G:List AObj) (c:Nat) (p:Plt):Prop where
  how:∃ kss:List (List (Int × Int)),kss.length=p.loads.length + 1∧kss[0]?=some [(p.heat,0)]∧(∀ i (h:i + 1 < kss.length) q,q ∈ kss[i]→Img p i q kss[i + 1] (2 ^ p.machs.length))∧(∀ i (h:i < kss.length),RSt p i kss[i])∧Out B G c 0 p kss
theorem choices_hours {px ca co:Nat} {p:Plt} (hk:16 ^ 50≤k) (ho:p.Ok) {ms:List Nat} {kss:List (List (Int × Int))} (hml:ms.length=p.loads.length + 1) (hkl:kss.length=p.loads.length + 1) (hca:H.length≤ca) (hcac:ca < co)
    {Q:AExit→Regs→St→Prop} {G:List AObj} {j:Nat} {r3 r6 r7 r8 r9 r10 r11 r12 r13 r14 r15 r16 r17 r18 r19 r20 r21 r22 r23 r24 r25 r26 r27:AV} (hj:j≤p.loads.length) (hG:∃ L,G=H ++ L) (hpH:PX H px p) (hA:AllAt G ca ms kss p) (hO:Out H.length G co j p kss)
    (hQ:∀ G,(∃ L,G=H ++ L)→Out H.length G co 0 p kss→∀ r2 r3 r6 r7 r8 r9 r10 r11 r12 r13 r14 r15 r16 r17 r18 r19 r20 r21 r22 r23 r24 r25 r26 r27,Q (.exit 2) [.ptr px 0 8,.slice true 0 [],r2,r3,.sref ca 0 ms.length (ms.length * 1) 1,.sref co 0 ms.length (ms.length * 1) 1,r6,r7,r8,r9,r10,r11,r12,r13,r14,r15,r16,r17,r18,r19,r20,r21,r22,r23,r24,r25,r26,r27] ⟨G,false⟩) :
    WC ⟨prog,k,some H.length⟩ fq24.n6 [.ptr px 0 8,.slice true 0 [],iv ((j:Int) - 1),r3,.sref ca 0 ms.length (ms.length * 1) 1,.sref co 0 ms.length (ms.length * 1) 1,r6,r7,r8,r9,r10,r11,r12,r13,r14,r15,r16,r17,r18,r19,r20,r21,r22,r23,r24,r25,r26,r27] ⟨G,false⟩ Q:=by
  have e50:(16:Nat) ^ 50=1606938044258990275541962092341162602522202993782792835301376:=by decide
  have e49:(16:Nat) ^ 49=100433627766186892221372630771322662657637687111424552206336:=by decide
  have hhrs:=ho.hours
  obtain ⟨N,hN⟩:∃ N,N=2 ^ p.machs.length:=⟨_,rfl⟩
  have hN16:N≤16:=by rw [hN]; exact Nat.pow_le_pow_right (by omega) ho.few
  obtain ⟨vl,vp,vm,vc,vw,hc,h1,h2,h3,h4,h5⟩:=hpH.how
  have hrowH:row H px 8=some [iv p.heat,iv p.low,iv p.high,vl,vp,vm,vc,vw]:=row_of hc rfl
  refine fq24.n6_l (fun m r2 s=>∃ (G:List AObj) (j:Nat),r2=iv ((j:Int) - 1)∧s=⟨G,false⟩∧(∃ L,G=H ++ L)∧j≤p.loads.length∧m=j∧AllAt G ca ms kss p∧Out H.length G co j p kss) j (by simp -implicitDefEqProofs only []; omega) ⟨G,j,rfl,rfl,hG,hj,rfl,hA,hO⟩ ?_
  clear hj hG hA hO
  rintro m r2 r3 r6 r7 r8 r9 r10 r11 r12 r13 r14 r15 r16 r17 r18 r19 r20 r21 r22 r23 r24 r25 r26 r27 s ⟨G,j,rfl,rfl,⟨L,hG⟩,hj,rfl,hA,hO⟩
  simp -implicitDefEqProofs only [fq24.n7_w,sw0,sw1,sw2,sw3,sw4,sw5,reduceCtorEq,Nat.reduceEqDiff,Nat.reduceAdd,Nat.reduceDiv,Nat.reduceLeDiff]
  split
  · rename_i hge
    obtain ⟨h,rfl⟩:∃ h,m=h + 1:=⟨m - 1,by omega⟩
    have e1:((h + 1:Nat):Int) - 1=(h:Nat):=by omega
    have hhm:h < ms.length:=by omega
    have hhk:h < kss.length:=by omega
    obtain ⟨cs,hcs,hcl,hcv⟩:=hO.row
    have hrowc:∀ L',row (G ++ L') co (ms.length * 1)=some cs:=fun L'=>row_app (row_of hcs (by omega))
    have hcoG:co < G.length:=(List.getElem?_eq_some_iff.1 hcs).1
    have hGH:H.length≤G.length:=by rw [hG]; simp
    have hcoH:(co < H.length)=False:=by simp; omega
    have hle1:h * 1 + 1≤cs.length:=by omega
    have hset:∀ X o,(G ++ X).set co o=G.set co o ++ X:=fun X o=>List.set_append_left _ _ hcoG
    rw [e1]
    obtain ⟨cs',hcs'⟩:∃ cs',cs'=cs.set (h * 1) (.map G.length):=⟨_,rfl⟩
    obtain ⟨G',hG'⟩:∃ G',G'=G.set co (.cells cs'):=⟨_,rfl⟩
    have hG'l:G'.length=G.length:=by rw [hG']; simp
    have hkeep:∀ d,d < G.length→d ≠ co→G'[d]?=G[d]?:=fun d _ hne=>by rw [hG',List.getElem?_set_ne (fun e=>hne e.symm)]
    have hco':G'[co]?=some (.cells cs'):=by rw [hG',List.getElem?_set_self hcoG]
    have hcs'l:cs'.length=ms.length:=by rw [hcs',List.length_set]; omega
    have hA':AllAt G' ca ms kss p:=hA.keep ⟨cs,hcs⟩ (by omega) hkeep
    have hGp':∃ L,G'=H ++ L:=⟨L.set (co - H.length) (.cells cs'),by rw [hG',hG,List.set_append_right _ _ (by omega)]⟩
    have hpG':PX G' px p:=by obtain ⟨L',e⟩:=hGp'; rw [e]; exact hpH.app
    have hrow':∀ L',row (G' ++ L') px 8=some [iv p.heat,iv p.low,iv p.high,vl,vp,vm,vc,vw]:=fun L'=>by obtain ⟨L2,e⟩:=hGp'; rw [e]; exact row_app (row_app hrowH)
    have hrowc':∀ L',row (G' ++ L') co (ms.length * 1)=some cs':=fun L'=>row_app (row_of hco' (by omega))
    have hrca':∀ L',row (G' ++ L') ca (ms.length * 1)=some (ms.map .map):=fun L'=>row_app (row_of hA'.row (by simp))
    have hgh:(ms.map AV.map)[h * 1]?=some (.map ms[h]):=by simp [hhm]
    obtain ⟨hMap,hSt⟩:=hA'.maps h hhm hhk
    obtain ⟨ver,hver⟩:=hMap.how
    have hver':∀ L',(G' ++ L')[ms[h]]?=some (.map shS ver (encE ev2 (tr kss[h]))):=fun L'=>get_app hver
    have hrng:eRange ⟨G' ++ [.map shS 0 []],false⟩ (.map ms[h])=some (.iter (G'.length + 1),⟨G' ++ [.map shS 0 [],.iter ms[h] ver (encE ev2 (tr kss[h])) none],false⟩):=by
      have:=rng_at (lk:=false) (hver' [.map shS 0 []])
      rw [this]
      simp -implicitDefEqProofs only [sw0,sw1,sw2,sw3,sw4,sw5,reduceCtorEq,Nat.reduceEqDiff,Nat.reduceAdd,Nat.reduceDiv,Nat.reduceLeDiff]

    obtain ⟨o1,l1,_,ho1,hl1,hg1⟩:=hcv (h + 1) (by omega) (by omega)
    have hl1':MapAt G' o1 shS ev2 l1:=mapAt_keep hl1 ⟨cs,hcs⟩ hkeep
    have ho1':cs'[(h + 1) * 1]?=some (.map o1):=by rw [hcs',List.getElem?_set_ne (by omega),Nat.mul_one]; exact ho1
    have hoh':cs'[h * 1]?=some (.map G'.length):=by rw [hcs',List.getElem?_set_self (by omega),hG'l]
    have hG'n:∀ i,(G'.length + i < H.length)=False:=fun i=>by simp; omega
    have hh1m:h + 1 < ms.length:=by omega
    have hr:p.loads.length - h=(p.loads.length - (h + 1)) + 1:=by omega
    simp -implicitDefEqProofs only [fq24.n9_w,sw0,sw1,sw2,sw3,sw4,sw5,reduceCtorEq,Nat.reduceEqDiff,Nat.reduceAdd,Nat.reduceDiv,Nat.reduceLeDiff,hrowc,hhm,hle1,hcoH,hset,← hcs',← hG',hrca',hgh,hrng]
    refine fq24.n10_l (fun m s=>∃ (rs:List (Int × Int)) (lch:List ((Int × Int) × AV)) (ver':Nat) (lst:Option (AV × AV)) (J:List AObj),s=⟨G' ++ (.map shS ver' (encE ev2 lch) :: .iter ms[h] ver (encE ev2 (tr rs)) lst :: J),false⟩∧m=rs.length∧(∀ q,q ∈ rs→q ∈ kss[h])∧rs.Nodup ∧
        (∀ q,q ∈ kss[h]→q ∈ rs∨lkp lch q=(best p (p.loads.length - h) h q.1 q.2.toNat).map chV)∧(∀ q,q ∈ rs→lkp lch q=none)∧(∀ q,(lkp lch q).isSome=true→q ∈ kss[h]))
      kss[h].length ?_ ⟨kss[h],[],0,none,[],rfl,rfl,fun q hq=>hq,hSt.nodup,fun q hq=>.inl hq,fun q hq=>rfl,fun q hq=>by cases hq⟩ ?_
    · have:=hSt.len
      have h48:(16:Nat) ^ h≤16 ^ 49:=Nat.pow_le_pow_right (by omega) (by omega)
      simp -implicitDefEqProofs only []
      omega
    rintro m' r3 r7 r8 r9 r10 r11 r12 r13 r14 r15 r16 r17 r18 r19 r20 r21 r22 r23 r24 r25 r26 r27 s ⟨rs,lch,ver',lst,J,rfl,rfl,hrs1,hrn,hrs2,hrs3,hkeys⟩
    simp -implicitDefEqProofs only [fq24.n11_w]
    refine VN_it (sh:=shS) (es:=encE ev2 (tr kss[h])) (by simp -implicitDefEqProofs only [sw0,sw1,sw2,sw3,sw4,sw5,reduceCtorEq,Nat.reduceEqDiff,Nat.reduceAdd,Nat.reduceDiv,Nat.reduceLeDiff]; rfl) (hver' _) ?_ ?_
    · intro hnil
      have hr0:=enc_nil hnil
      subst hr0
      simp -implicitDefEqProofs only [sw0,sw1,sw2,sw3,sw4,sw5,reduceCtorEq,Nat.reduceEqDiff,Nat.reduceAdd,Nat.reduceDiv,Nat.reduceLeDiff,fq24.n22_w]
      refine fq24.n6_go (m':=h) (by omega) ⟨_,h,by rw [wrap64 (by omega)],rfl,?_,by omega,rfl,hA'.keep0,?_⟩
      · obtain ⟨L',e⟩:=hGp'
        exact ⟨L' ++ (AObj.map shS ver' (encE ev2 lch) :: AObj.iter ms[h] ver (encE ev2 (tr [])) lst :: J),by rw [e]; simp⟩
      · refine ⟨cs',get_app hco',by omega,fun i hi hji=>?_⟩
        by_cases e:i=h
        · subst e
          refine ⟨G'.length,lch,by omega,by rw [← Nat.mul_one i]; exact hoh',⟨ver',by simp -implicitDefEqProofs only [sw0,sw1,sw2,sw3,sw4,sw5,reduceCtorEq,Nat.reduceEqDiff,Nat.reduceAdd,Nat.reduceDiv,Nat.reduceLeDiff]⟩,⟨fun q hq=>?_,hkeys⟩⟩
          rcases hrs2 q hq with h9 | h9
          · cases h9
          · exact h9
        · obtain ⟨o,l,a0,a1,a2,a3⟩:=hcv i hi (by omega)
          refine ⟨o,l,a0,?_,(mapAt_keep a2 ⟨cs,hcs⟩ hkeep).app,a3⟩
          rw [hcs',List.getElem?_set_ne (by omega)]
          exact a1
    · intro i k' v hi
      obtain ⟨q,hq,rfl,rfl⟩:=enc_at hi
      rw [enc_erase]
      have hqk:=hrs1 q (List.mem_of_getElem? hq)
      obtain ⟨hq1,hq2,hq3,hq4⟩:=hSt.num q hqk
      have hil:i < rs.length:=(List.getElem?_eq_some_iff.1 hq).1
      have hrl:(rs.eraseIdx i).length=rs.length - 1:=by rw [List.length_eraseIdx]; simp [hil]
      have hent:=ent_at (H:=G' ++ .map shS ver' (encE ev2 lch) :: .iter ms[h] ver (encE ev2 (tr (rs.eraseIdx i))) (some (ev2 q,.bool true)) :: J) (b:=G'.length + 1) (sh:=shS) (by simp -implicitDefEqProofs only [sw0,sw1,sw2,sw3,sw4,sw5,reduceCtorEq,Nat.reduceEqDiff,Nat.reduceAdd,Nat.reduceDiv,Nat.reduceLeDiff]; rfl) (hver' _)
      simp -implicitDefEqProofs only [sw0,sw1,sw2,sw3,sw4,sw5,reduceCtorEq,Nat.reduceEqDiff,Nat.reduceAdd,Nat.reduceDiv,Nat.reduceLeDiff,fq24.n13_w,hent,hrow',h4.len,colds_len]
      rw [← hN]
      obtain ⟨t,oi⟩:=q
      obtain ⟨o,rfl⟩:=Int.eq_ofNat_of_zero_le hq3
      dsimp only at hq1 hq2 hq3 hq4 ⊢
      have hoN:o < N:=by omega
      have hlk:∀ n,n < N→lkp l1 (p.heatBy h t n,(n:Int))=(if p.heatBy h t n≤p.high then best p (p.loads.length - (h + 1)) (h + 1) (p.heatBy h t n) n else none).map chV:=by
        intro n hn
        split
        · rename_i hle
          have:=hg1.val _ (hA'.step h (by omega) _ hqk n (by omega) hle)
          simpa using this
        · rename_i hle
          cases hx:lkp l1 (p.heatBy h t n,(n:Int)) with
          | none=>rfl
          | some v =>
            have hm:=hg1.keys _ (by rw [hx]; rfl)
            have:=((hA'.maps (h + 1) (by omega) (by omega)).2.num _ hm).2.1
            exact absurd this hle
      refine fq24.n14_l (fun m s3 s=>∃ (n:Nat) (lch2:List ((Int × Int) × AV)) (ver2:Nat) (J1:List AObj),s3=iv n∧s=⟨G' ++ (.map shS ver2 (encE ev2 lch2) :: .iter ms[h] ver (encE ev2 (tr (rs.eraseIdx i))) (some (ev2 (t,(o:Int)),.bool true)) :: (J ++ (.cells [iv t,iv o] :: J1))),false⟩∧m=N - n∧n≤N ∧
          lkp lch2 (t,(o:Int))=(minF (bval p (p.loads.length - (h + 1)) h t o) n).map chV∧(∀ x,x ≠ (t,(o:Int))→lkp lch2 x=lkp lch x)) N (by simp -implicitDefEqProofs only []; omega)
        ⟨0,lch,ver',[],rfl,rfl,by omega,by omega,(hrs3 _ (List.mem_of_getElem? hq)).trans rfl,fun x hx=>rfl⟩ ?_
      rintro m'' r3 r9 r10 r11 r12 r13 r14 r15 r16 r17 r18 r19 r20 r21 r22 r23 r24 r25 r26 r27 s ⟨n,lch2,ver2,J1,rfl,rfl,rfl,hnN,hval,hoth⟩
      simp -implicitDefEqProofs only [fq24.n15_w,sw0,sw1,sw2,sw3,sw4,sw5,reduceCtorEq,Nat.reduceEqDiff,Nat.reduceAdd,Nat.reduceDiv,Nat.reduceLeDiff]
      split
      · rename_i hlt2
        have hlt2:n < N:=by omega
        have hlkn:=hlk n hlt2
        have hpx:=hpG'.app (L:=.map shS ver2 (encE ev2 lch2) :: .iter ms[h] ver (encE ev2 (tr (rs.eraseIdx i))) (some (ev2 (t,(o:Int)),.bool true)) :: (J ++ (.cells [iv t,iv o] :: (J1 ++ [.cells [iv 0,iv 0]]))))
        obtain ⟨B,hB⟩:∃ B,B=(if p.heatBy h t n≤p.high then best p (p.loads.length - (h + 1)) (h + 1) (p.heatBy h t n) n else none):=⟨_,rfl⟩
        rw [← hB] at hlkn
        have hbv:bval p (p.loads.length - (h + 1)) h t o n=B.map (fun q=>q.1 + p.costBy h o n):=by
          rw [hB]; unfold bval; split <;> rfl
        have hlook:=look_at key_iv2 (hl1'.app (L:=.map shS ver2 (encE ev2 lch2) :: .iter ms[h] ver (encE ev2 (tr (rs.eraseIdx i))) (some (ev2 (t,(o:Int)),.bool true)) :: (J ++ (.cells [iv t,iv o] :: (J1 ++ [.cells [iv 0,iv 0]]))))) (zero:=.agg [iv 0,iv 0]) (ok:=true) (p.heatBy h t n,(n:Int))
        rw [hlkn] at hlook
        simp -implicitDefEqProofs only [ev2,if_true] at hlook
        have hw1:IntKind.i64.wrap ((h:Int) + 1)=((h + 1:Nat):Int):=by rw [wrap64 (by omega)]; rfl
        have hw2:IntKind.i64.wrap ((n:Int) + 1)=((n + 1:Nat):Int):=by rw [wrap64 (by omega)]; rfl
        have hheat:=fun (K:AV→St→Prop)=>heat_s (K:=K) (k:=k) (b:=some H.length) (lk:=false) (by omega) hpx ho (show h < p.loads.length by omega) (show n < 2 ^ p.machs.length by omega) (show -100000000≤t∧t≤100000000 by have:=ho.low; have:=ho.high; omega)
        cases hBc:B with
        | none =>
          rw [hBc] at hlook hbv
          simp -implicitDefEqProofs only [Option.map_none,Option.getD_none,Option.isSome_none] at hlook hbv
          simp -implicitDefEqProofs only [fq24.n17_w,sw0,sw1,sw2,sw3,sw4,sw5,reduceCtorEq,Nat.reduceEqDiff,Nat.reduceAdd,Nat.reduceDiv,Nat.reduceLeDiff,hw1,hrowc',hh1m,ho1',hheat,hlook,fq24.n21_w,hw2]
          refine fq24.n14_go (m':=N - (n + 1)) (by omega) ⟨n + 1,lch2,ver2,_,rfl,rfl,rfl,by omega,?_,hoth⟩
          rw [hval]
          simp -implicitDefEqProofs only [minF,hbv]
        | some cm =>
          obtain ⟨c0,m0⟩:=cm
          rw [hBc] at hlook hbv hB
          simp -implicitDefEqProofs only [Option.map_some,Option.getD_some,Option.isSome_some,chV] at hlook hbv
          have hbl:0≤c0∧c0≤(p.loads.length - (h + 1):Nat) * 4000004000000:=by
            split at hB
            · exact best_le ho _ _ _ _ c0 m0 (by omega) hB.symm
            · cases hB
          have hcl:=costBy_le ho (show h < p.loads.length by omega) o n
          have hpx2:=hpG'.app (L:=.map shS ver2 (encE ev2 lch2) :: .iter ms[h] ver (encE ev2 (tr (rs.eraseIdx i))) (some (ev2 (t,(o:Int)),.bool true)) :: (J ++ (.cells [iv t,iv o] :: (J1 ++ [.cells [iv c0,iv m0],.cells [iv 0,iv 0]]))))
          have hcost:=fun (K:AV→St→Prop)=>cost_s (K:=K) (k:=k) (b:=some H.length) (lk:=false) (by omega) hpx2 ho (show h < p.loads.length by omega) (show n < 2 ^ p.machs.length by omega) (show o < 2 ^ p.machs.length by omega)
          have hlook2:=look_at key_iv2 (H:=G' ++ .map shS ver2 (encE ev2 lch2) :: .iter ms[h] ver (encE ev2 (tr (rs.eraseIdx i))) (some (ev2 (t,(o:Int)),.bool true)) :: (J ++ (.cells [iv t,iv o] :: (J1 ++ [.cells [iv c0,iv m0],.cells [iv (c0 + p.costBy h o n),iv n],.cells [iv 0,iv 0]])))) (c:=G'.length) (l:=lch2) ⟨ver2,by simp -implicitDefEqProofs only [sw0,sw1,sw2,sw3,sw4,sw5,reduceCtorEq,Nat.reduceEqDiff,Nat.reduceAdd,Nat.reduceDiv,Nat.reduceLeDiff]⟩ (zero:=.agg [iv 0,iv 0]) (ok:=true) (t,(o:Int))
          rw [hval] at hlook2
          simp -implicitDefEqProofs only [ev2,if_true] at hlook2
          have hw3:IntKind.i64.wrap (c0 + p.costBy h o n)=c0 + p.costBy h o n:=wrap64 (by omega)
          have hupd:∀ X,eMupd (some H.length) ⟨G' ++ .map shS ver2 (encE ev2 lch2) :: .iter ms[h] ver (encE ev2 (tr (rs.eraseIdx i))) (some (ev2 (t,(o:Int)),.bool true)) :: X,false⟩ shS (.map G'.length) (.agg [iv t,iv o]) (.agg [iv (c0 + p.costBy h o n),iv n]) =
              some ⟨G' ++ .map shS (ver2 + 1) (encE ev2 (ins lch2 (t,(o:Int)) (chV (c0 + p.costBy h o n,n)))) :: .iter ms[h] ver (encE ev2 (tr (rs.eraseIdx i))) (some (ev2 (t,(o:Int)),.bool true)) :: X,false⟩:=by
            intro X
            have:=upd_at key_iv2 (H:=G' ++ .map shS ver2 (encE ev2 lch2) :: .iter ms[h] ver (encE ev2 (tr (rs.eraseIdx i))) (some (ev2 (t,(o:Int)),.bool true)) :: X) (c:=G'.length) (ver:=ver2) (by simp -implicitDefEqProofs only [sw0,sw1,sw2,sw3,sw4,sw5,reduceCtorEq,Nat.reduceEqDiff,Nat.reduceAdd,Nat.reduceDiv,Nat.reduceLeDiff]; rfl) (base:=some H.length) (lk:=false) (t,(o:Int)) (v:=chV (c0 + p.costBy h o n,n)) rfl
            refine this.trans ?_
            simp -implicitDefEqProofs only [sw0,sw1,sw2,sw3,sw4,sw5,reduceCtorEq,Nat.reduceEqDiff,Nat.reduceAdd,Nat.reduceDiv,Nat.reduceLeDiff]
          obtain ⟨B2,hB2⟩:∃ B2,B2=minF (bval p (p.loads.length - (h + 1)) h t o) n:=⟨_,rfl⟩
          rw [← hB2] at hlook2 hval
          cases hBc2:B2 with
          | none =>
            rw [hBc2] at hlook2 hval hB2
            simp -implicitDefEqProofs only [Option.map_none,Option.getD_none,Option.isSome_none] at hlook2
            simp -implicitDefEqProofs only [fq24.n17_w,sw0,sw1,sw2,sw3,sw4,sw5,reduceCtorEq,Nat.reduceEqDiff,Nat.reduceAdd,Nat.reduceDiv,Nat.reduceLeDiff,hw1,hrowc',hh1m,ho1',hheat,hlook,fq24.n19_w,hcost,hw3,hhm,hoh',hlook2,fq24.n20_w,hupd,fq24.n21_w,hw2]
            refine fq24.n14_go (m':=N - (n + 1)) (by omega) ⟨n + 1,_,_,_,rfl,rfl,rfl,by omega,?_,?_⟩
            · rw [lkp_ins,if_pos rfl]
              simp -implicitDefEqProofs only [minF,hbv,← hB2,Option.map_some]
            · intro x hx
              rw [lkp_ins,if_neg hx]
              exact hoth x hx
          | some cm2 =>
            obtain ⟨c2,m2⟩:=cm2
            rw [hBc2] at hlook2 hval hB2
            simp -implicitDefEqProofs only [Option.map_some,Option.getD_some,Option.isSome_some,chV] at hlook2
            by_cases hlt3:c0 + p.costBy h o n < c2
            · simp -implicitDefEqProofs only [fq24.n17_w,sw0,sw1,sw2,sw3,sw4,sw5,reduceCtorEq,Nat.reduceEqDiff,Nat.reduceAdd,Nat.reduceDiv,Nat.reduceLeDiff,hw1,hrowc',hh1m,ho1',hheat,hlook,fq24.n19_w,hcost,hw3,hhm,hoh',hlook2,hlt3,fq24.n20_w,hupd,fq24.n21_w,hw2]
              refine fq24.n14_go (m':=N - (n + 1)) (by omega) ⟨n + 1,_,_,_,rfl,rfl,rfl,by omega,?_,?_⟩
              · rw [lkp_ins,if_pos rfl]
                simp -implicitDefEqProofs only [minF,hbv,← hB2,hlt3,if_true,Option.map_some]
              · intro x hx
                rw [lkp_ins,if_neg hx]
                exact hoth x hx
            · simp -implicitDefEqProofs only [fq24.n17_w,sw0,sw1,sw2,sw3,sw4,sw5,reduceCtorEq,Nat.reduceEqDiff,Nat.reduceAdd,Nat.reduceDiv,Nat.reduceLeDiff,hw1,hrowc',hh1m,ho1',hheat,hlook,fq24.n19_w,hcost,hw3,hhm,hoh',hlook2,hlt3,fq24.n21_w,hw2]
              refine fq24.n14_go (m':=N - (n + 1)) (by omega) ⟨n + 1,lch2,ver2,_,rfl,rfl,rfl,by omega,?_,hoth⟩
              rw [hval]
              simp -implicitDefEqProofs only [minF,hbv,← hB2,hlt3,if_false]
      · rename_i hge2
        have hnN:n=N:=by omega
        subst hnN
        refine fq24.n10_go (m':=(rs.eraseIdx i).length) (by omega) ⟨rs.eraseIdx i,lch2,ver2,_,_,rfl,rfl,fun x hx=>hrs1 x (List.mem_of_mem_eraseIdx hx),hrn.eraseIdx i,?_,?_,?_⟩
        · intro x hx
          by_cases hxq:x=(t,(o:Int))
          · subst hxq
            refine .inr ?_
            rw [hval,hr,best_succ,← hN]
            rfl
          · rcases hrs2 x hx with hx2 | hx2
            · rcases mem_erase_or hq hx2 with rfl | hx3
              · exact absurd rfl hxq
              · exact .inl hx3
            · exact .inr ((hoth x hxq).trans hx2)
        · intro x hx
          have hxq:x ≠ (t,(o:Int)):=by
            rintro rfl
            have hq2:rs[i]=(t,(o:Int)):=by rw [List.getElem?_eq_getElem hil] at hq; simpa using hq
            exact absurd hx (by rw [← hq2]; exact nodup_erase hrn hil)
          rw [hoth x hxq]
          exact hrs3 x (List.mem_of_mem_eraseIdx hx)
        · intro x hx
          by_cases hxq:x=(t,(o:Int))
          · subst hxq; exact hqk
          · rw [hoth x hxq] at hx; exact hkeys x hx
  · rename_i hlt
    have hz:m=0:=by omega
    subst hz
    exact hQ G ⟨L,hG⟩ hO _ _ _ _ _ _ _ _ _ _ _ _ _ _ _ _ _ _ _ _ _ _ _ _
theorem ChAt.keep {B:Nat} {G G':List AObj} {c:Nat} {p:Plt} (h:ChAt B G c p) (hc:B≤c) (hs:Same B G G'):ChAt B G' c p:=by
  obtain ⟨kss,a1,a2,a3,a4,a5⟩:=h.how
  obtain ⟨cs,b1,b2,b3⟩:=a5.row
  have hlt:c < G.length:=(List.getElem?_eq_some_iff.1 b1).1
  refine ⟨kss,a1,a2,a3,a4,⟨cs,(hs c hc hlt).trans b1,b2,fun i hi hji=>?_⟩⟩
  obtain ⟨o,l,d0,d1,d2,d3⟩:=b3 i hi hji
  obtain ⟨ver,hv⟩:=d2.how
  exact ⟨o,l,d0,d1,⟨ver,(hs o d0 d2.lt).trans hv⟩,d3⟩
theorem choices_s (hk:16 ^ 51≤k) {px:Nat} {p:Plt} (hp:PX H px p) (ho:p.Ok)
    (hK:∀ L c,ChAt H.length (H ++ L) c p→H.length≤c→K (.sref c 0 (p.loads.length + 1) ((p.loads.length + 1) * 1) 1) ⟨H ++ L,lk⟩):VC ⟨prog,k,b⟩ F_fq24 [.ptr px 0 8] ⟨H,lk⟩ K:=by
  have e51:(16:Nat) ^ 51=25711008708143844408671393477458601640355247900524685364822016:=by decide
  have e50:(16:Nat) ^ 50=1606938044258990275541962092341162602522202993782792835301376:=by decide
  have e49:(16:Nat) ^ 49=100433627766186892221372630771322662657637687111424552206336:=by decide
  obtain ⟨k,rfl⟩:∃ j,k=j + 1:=⟨k - 1,by omega⟩
  obtain ⟨vl,vp,vm,vc,vw,hc,h1,h2,h3,h4,h5⟩:=hp.how
  have hrow:row H px 8=some [iv p.heat,iv p.low,iv p.high,vl,vp,vm,vc,vw]:=row_of hc rfl
  have hrowA:∀ L,row (H ++ L) px 8=some [iv p.heat,iv p.low,iv p.high,vl,vp,vm,vc,vw]:=fun L=>row_app hrow
  have hhrs:=ho.hours
  apply fq24.enter
  simp -implicitDefEqProofs only [fq24.n0_w]
  refine reached_s (k:=k) (by omega) hp ho ?_
  intro L ca ms kss hA hml hca
  obtain ⟨G,hG⟩:∃ G,G=H ++ L:=⟨_,rfl⟩
  rw [← hG] at hA ⊢
  have hGlen:H.length≤G.length:=by rw [hG]; simp
  have hpG:PX G px p:=by rw [hG]; exact hp.app
  have hrowG:∀ L',row (G ++ L') px 8=some [iv p.heat,iv p.low,iv p.high,vl,vp,vm,vc,vw]:=fun L'=>row_app (by rw [hG]; exact hrowA L)
  have hmk:eMksl ⟨G,false⟩ 1 8 [.nilmap] (.int .i64 (ms.length:Nat)) (.int .i64 (ms.length:Nat))=some (.sref G.length 0 ms.length (ms.length * 1) 1,⟨G ++ [.cells (List.replicate ms.length .nilmap)],false⟩):=by
    have hfl:∀ n,(List.replicate n [AV.nilmap]).flatten=List.replicate n AV.nilmap:=by
      intro n
      induction n with
      | zero=>rfl
      | succ n ih=>rw [List.replicate_succ,List.flatten_cons,ih,List.replicate_succ]; rfl
    simp -implicitDefEqProofs only [eMksl,Int.toNat_natCast,push,hfl]
    rw [if_pos ⟨trivial,by omega,by omega⟩]
  have hkl:kss.length=p.loads.length + 1:=hA.len.trans hml
  have hLm:p.loads.length < ms.length:=by omega
  have hLk:p.loads.length < kss.length:=by omega
  have hGn:(G.length < H.length)=False:=by simp; omega
  have hrca:∀ L',row (G ++ L') ca (ms.length * 1)=some (ms.map .map):=fun L'=>row_app (row_of hA.row (by simp))
  have hgL:(ms.map AV.map)[p.loads.length * 1]?=some (.map ms[p.loads.length]):=by simp [hLm]
  obtain ⟨hMapL,hStL⟩:=hA.maps _ hLm hLk
  obtain ⟨verL,hverL⟩:=hMapL.how
  obtain ⟨cs1,hcs1⟩:∃ cs1,cs1=(List.replicate ms.length AV.nilmap).set (p.loads.length * 1) (.map (G.length + 1)):=⟨_,rfl⟩
  have hcs1l:cs1.length=ms.length:=by rw [hcs1]; simp
  have hcs1g:cs1[p.loads.length * 1]?=some (.map (G.length + 1)):=by rw [hcs1,List.getElem?_set_self (by simp; omega)]
  have hrngL:eRange ⟨G ++ [.cells cs1,.map shS 0 []],false⟩ (.map ms[p.loads.length])=some (.iter (G.length + 2),⟨G ++ [.cells cs1,.map shS 0 [],.iter ms[p.loads.length] verL (encE ev2 (tr kss[p.loads.length])) none],false⟩):=by
    have:=rng_at (lk:=false) (get_app (L:=[.cells cs1,.map shS 0 []]) hverL)
    rw [this]
    simp -implicitDefEqProofs only [sw0,sw1,sw2,sw3,sw4,sw5,reduceCtorEq,Nat.reduceEqDiff,Nat.reduceAdd,Nat.reduceDiv,Nat.reduceLeDiff]
  have hle1:p.loads.length * 1 + 1≤ms.length:=by omega
  have hm1e:(ms.length=ms.length * 1)=True:=by simp
  simp -implicitDefEqProofs only [sw0,sw1,sw2,sw3,sw4,sw5,reduceCtorEq,Nat.reduceEqDiff,Nat.reduceAdd,Nat.reduceDiv,Nat.reduceLeDiff,hmk,hrowG,h1.len,List.length_replicate,hm1e,hLm,← hcs1,hrca,hgL,hGn,hrngL,hle1]

  obtain ⟨G1,hG1⟩:∃ G1,G1=G ++ [AObj.cells cs1]:=⟨_,rfl⟩
  have hG1l:G1.length=G.length + 1:=by rw [hG1]; simp
  have eG:∀ X,G ++ AObj.cells cs1 :: X=G1 ++ X:=fun X=>by rw [hG1]; simp
  rw [eG,← hG1l,show G.length + 2=G1.length + 1 by omega]
  have hrco:∀ X,row (G1 ++ X) G.length (ms.length * 1)=some cs1:=fun X=>by
    rw [hG1,List.append_assoc]; simp -implicitDefEqProofs only [sw0,sw1,sw2,sw3,sw4,sw5,reduceCtorEq,Nat.reduceEqDiff,Nat.reduceAdd,Nat.reduceDiv,Nat.reduceLeDiff,hcs1l]; simp
  have hrow1:∀ L',row (G1 ++ L') px 8=some [iv p.heat,iv p.low,iv p.high,vl,vp,vm,vc,vw]:=fun L'=>by rw [hG1,List.append_assoc]; exact hrowG _
  have hver1:∀ L',(G1 ++ L')[ms[p.loads.length]]?=some (.map shS verL (encE ev2 (tr kss[p.loads.length]))):=fun L'=>by rw [hG1,List.append_assoc]; exact get_app hverL
  have hG1n:∀ i,(G1.length + i < H.length)=False:=fun i=>by simp; omega
  refine fq24.n1_l (fun m s=>∃ (rs:List (Int × Int)) (lch:List ((Int × Int) × AV)) (ver':Nat) (lst:Option (AV × AV)) (J:List AObj),s=⟨G1 ++ (.map shS ver' (encE ev2 lch) :: .iter ms[p.loads.length] verL (encE ev2 (tr rs)) lst :: J),false⟩∧m=rs.length∧(∀ q,q ∈ rs→q ∈ kss[p.loads.length]) ∧
      (∀ q,q ∈ kss[p.loads.length]→q ∈ rs∨lkp lch q=some (chV (0,0)))∧(∀ q,(lkp lch q).isSome=true→q ∈ kss[p.loads.length]))
    kss[p.loads.length].length ?_ ⟨kss[p.loads.length],[],0,none,[],rfl,rfl,fun q hq=>hq,fun q hq=>.inl hq,fun q hq=>by cases hq⟩ ?_
  · have:=hStL.len
    have h48:(16:Nat) ^ p.loads.length≤16 ^ 49:=Nat.pow_le_pow_right (by omega) (by omega)
    simp -implicitDefEqProofs only []
    omega
  rintro m r7 r8 r9 s ⟨rs,lch,ver',lst,J,rfl,rfl,hrs1,hrs2,hkeys⟩
  simp -implicitDefEqProofs only [fq24.n2_w]
  refine VN_it (sh:=shS) (es:=encE ev2 (tr kss[p.loads.length])) (by simp -implicitDefEqProofs only [sw0,sw1,sw2,sw3,sw4,sw5,reduceCtorEq,Nat.reduceEqDiff,Nat.reduceAdd,Nat.reduceDiv,Nat.reduceLeDiff]; rfl) (hver1 _) ?_ ?_
  · intro hnil
    have hr0:=enc_nil hnil
    subst hr0
    simp -implicitDefEqProofs only [sw0,sw1,sw2,sw3,sw4,sw5,reduceCtorEq,Nat.reduceEqDiff,Nat.reduceAdd,Nat.reduceDiv,Nat.reduceLeDiff,fq24.n5_w,hrow1,h1.len]
    rw [wrap64 (by omega)]
    have hGp1:∃ L',G1 ++ (AObj.map shS ver' (encE ev2 lch) :: AObj.iter ms[p.loads.length] verL (encE ev2 (tr [])) lst :: J)=H ++ L':=by
      rw [hG1,hG]; exact ⟨_,by rw [List.append_assoc,List.append_assoc]⟩
    have hA1:AllAt (G1 ++ (AObj.map shS ver' (encE ev2 lch) :: AObj.iter ms[p.loads.length] verL (encE ev2 (tr [])) lst :: J)) ca ms kss p:=by
      rw [hG1,List.append_assoc]; exact hA.keep0
    refine choices_hours (k:=k) (H:=H) (by omega) ho hml hkl hca (by have:=hA.lts.1; omega) (Nat.le_refl _) hGp1 hp hA1 ?_ ?_
    · refine ⟨cs1,?_,by omega,fun i hi hji=>?_⟩
      · rw [hG1,List.append_assoc]; simp -implicitDefEqProofs only [sw0,sw1,sw2,sw3,sw4,sw5,reduceCtorEq,Nat.reduceEqDiff,Nat.reduceAdd,Nat.reduceDiv,Nat.reduceLeDiff]
      · have hie:i=p.loads.length:=by omega
        subst hie
        refine ⟨G1.length,lch,by omega,by rw [Nat.mul_one] at hcs1g; rw [hG1l]; exact hcs1g,⟨ver',by simp -implicitDefEqProofs only [sw0,sw1,sw2,sw3,sw4,sw5,reduceCtorEq,Nat.reduceEqDiff,Nat.reduceAdd,Nat.reduceDiv,Nat.reduceLeDiff]⟩,⟨fun q hq=>?_,hkeys⟩⟩
        rw [Nat.sub_self]
        rcases hrs2 q hq with h9 | h9
        · cases h9
        · exact h9
    · intro G2 hG2 hO2 r2 r3 r6 r7 r8 r9 r10 r11 r12 r13 r14 r15 r16 r17 r18 r19 r20 r21 r22 r23 r24 r25 r26 r27
      obtain ⟨L2,rfl⟩:=hG2
      have hu:AV.under H.length (.sref G.length 0 ms.length (ms.length * 1) 1)=false:=by simp [AV.under]; omega
      simp -implicitDefEqProofs only [sw0,sw1,sw2,sw3,sw4,sw5,reduceCtorEq,Nat.reduceEqDiff,Nat.reduceAdd,Nat.reduceDiv,Nat.reduceLeDiff,fq24.n23_w,fq24.ret,hu]
      have:=hK L2 G.length ⟨kss,hkl,hA.start,hA.step,fun i hi=>(hA.maps i (by omega) hi).2,hO2⟩ hGlen
      rw [← hml] at this
      exact this
  · intro i k' v hi
    obtain ⟨q,hq,rfl,rfl⟩:=enc_at hi
    rw [enc_erase]
    have hqk:=hrs1 q (List.mem_of_getElem? hq)
    have hil:i < rs.length:=(List.getElem?_eq_some_iff.1 hq).1
    have hrl:(rs.eraseIdx i).length=rs.length - 1:=by rw [List.length_eraseIdx]; simp [hil]
    have hent:=ent_at (H:=G1 ++ .map shS ver' (encE ev2 lch) :: .iter ms[p.loads.length] verL (encE ev2 (tr (rs.eraseIdx i))) (some (ev2 q,.bool true)) :: J) (b:=G1.length + 1) (sh:=shS) (by simp -implicitDefEqProofs only [sw0,sw1,sw2,sw3,sw4,sw5,reduceCtorEq,Nat.reduceEqDiff,Nat.reduceAdd,Nat.reduceDiv,Nat.reduceLeDiff]; rfl) (hver1 _)
    have hupd:eMupd (some H.length) ⟨G1 ++ .map shS ver' (encE ev2 lch) :: .iter ms[p.loads.length] verL (encE ev2 (tr (rs.eraseIdx i))) (some (ev2 q,.bool true)) :: (J ++ [.cells [iv q.1,iv q.2]]),false⟩ shS (.map G1.length) (.agg [iv q.1,iv q.2]) (.agg [iv 0,iv 0]) =
        some ⟨G1 ++ .map shS (ver' + 1) (encE ev2 (ins lch q (chV (0,0)))) :: .iter ms[p.loads.length] verL (encE ev2 (tr (rs.eraseIdx i))) (some (ev2 q,.bool true)) :: (J ++ [.cells [iv q.1,iv q.2]]),false⟩:=by
      have:=upd_at key_iv2 (H:=G1 ++ .map shS ver' (encE ev2 lch) :: .iter ms[p.loads.length] verL (encE ev2 (tr (rs.eraseIdx i))) (some (ev2 q,.bool true)) :: (J ++ [.cells [iv q.1,iv q.2]])) (c:=G1.length) (ver:=ver') (by simp -implicitDefEqProofs only [sw0,sw1,sw2,sw3,sw4,sw5,reduceCtorEq,Nat.reduceEqDiff,Nat.reduceAdd,Nat.reduceDiv,Nat.reduceLeDiff]; rfl) (base:=some H.length) (lk:=false) q (v:=.agg [iv 0,iv 0]) rfl
      refine this.trans ?_
      simp -implicitDefEqProofs only [sw0,sw1,sw2,sw3,sw4,sw5,reduceCtorEq,Nat.reduceEqDiff,Nat.reduceAdd,Nat.reduceDiv,Nat.reduceLeDiff]
      rfl
    rw [← hG1l] at hcs1g
    simp -implicitDefEqProofs only [sw0,sw1,sw2,sw3,sw4,sw5,reduceCtorEq,Nat.reduceEqDiff,Nat.reduceAdd,Nat.reduceDiv,Nat.reduceLeDiff,fq24.n4_w,hent,hrow1,h1.len,hrco,hLm,hcs1g,hupd]
    refine fq24.n1_go (m':=(rs.eraseIdx i).length) (by omega) ⟨rs.eraseIdx i,_,_,_,_,rfl,rfl,fun x hx=>hrs1 x (List.mem_of_mem_eraseIdx hx),?_,?_⟩
    · intro x hx
      rw [lkp_ins]
      rcases hrs2 x hx with hx2 | hx2
      · rcases mem_erase_or hq hx2 with rfl | hx3
        · exact .inr (by simp)
        · exact .inl hx3
      · refine .inr ?_
        split
        · rfl
        · exact hx2
    · intro x hx
      rw [lkp_ins] at hx
      split at hx
      · rename_i e; subst e; exact hqk
      · exact hkeys x hx
end Go.Proofs.YtcebebhaahpoiaaDoor
end
section
namespace Go.Proofs.YtcebebhaahpoiaaDoor
open Go Go.Ai Go.W
attribute [local irreducible] VC YC WC
set_option linter.unusedSimpArgs false
set_option linter.unusedVariables false
set_option maxRecDepth 10000
variable {k:Nat} {b:Option Nat} {H:List AObj} {lk:Bool} {K:AV→St→Prop}
theorem same_app {A A' L M:List AObj} (h:A'.length=A.length):Same A.length (A ++ L) (A' ++ (L ++ M)):=by
  intro d h1 h2
  rw [List.getElem?_append_right h1,List.getElem?_append_right (by omega),h,List.getElem?_append_left (by rw [List.length_append] at h2; omega)]
theorem ChAt.at {B:Nat} {G:List AObj} {c:Nat} {p:Plt} (h:ChAt B G c p) (hc:B≤c):∃ (kss:List (List (Int × Int))) (cs:List AV),kss.length=p.loads.length + 1∧kss[0]?=some [(p.heat,0)]∧(∀ i (h:i + 1 < kss.length) q,q ∈ kss[i]→Img p i q kss[i + 1] (2 ^ p.machs.length))∧(∀ i (h:i < kss.length),RSt p i kss[i]) ∧
    cs.length=p.loads.length + 1∧∀ G',Same B G G'→row G' c ((p.loads.length + 1) * 1)=some cs∧∀ i (hi:i < kss.length),∃ o l,cs[i * 1]?=some (.map o)∧MapAt G' o shS ev2 l∧GoodCh p i kss[i] l:=by
  obtain ⟨kss,a1,a2,a3,a4,a5⟩:=h.how
  obtain ⟨cs,b1,b2,b3⟩:=a5.row
  have hlt:c < G.length:=(List.getElem?_eq_some_iff.1 b1).1
  refine ⟨kss,cs,a1,a2,a3,a4,b2,fun G' hs=>⟨row_of ((hs c hc hlt).trans b1) (by omega),fun i hi=>?_⟩⟩
  obtain ⟨o,l,d0,d1,d2,d3⟩:=b3 i hi (by omega)
  obtain ⟨ver,hv⟩:=d2.how
  exact ⟨o,l,by rw [Nat.mul_one]; exact d1,⟨ver,(hs o d0 d2.lt).trans hv⟩,d3⟩
theorem fz_e {m c:Nat} (hb:row H c 0=some []) (hm:m≤c):frz m H 1 (.sref c 0 0 0 1)=.slice false 1 [] :=
  fz_own (f:=ic) (xs:=[]) Nat.one_pos ic_len ic_clean rfl hb hm
theorem Cool_s (hk:16 ^ 52≤k) {cs:List AV} {p:Plt} (hp:PV H cs p) (hl:p.loads.length≤1000∧p.prices.length≤1000∧p.machs.length≤60) :
    VC ⟨prog,k,b⟩ F_fq8 [.agg cs] ⟨H,lk⟩ K=K (.tup p.cool) ⟨H,lk⟩:=by
  have e52:(16:Nat) ^ 52=411376139330301510538742295639337626245683966408394965837152256:=by decide
  have e51:(16:Nat) ^ 51=25711008708143844408671393477458601640355247900524685364822016:=by decide
  obtain ⟨k,rfl⟩:∃ j,k=j + 1:=⟨k - 1,by omega⟩
  have hp':=hp
  obtain ⟨vl,vp,vm,rfl,h1,h2,h3⟩:=hp'.how
  apply VC_iff
  apply fq8.enter
  have hpa:=hp.app (L:=[.cells [iv p.heat,iv p.low,iv p.high,vl,vp,vm],.cells []])
  simp -implicitDefEqProofs only [fq8.n0_w,sw0,sw1,sw2,sw3,sw4,sw5,reduceCtorEq,Nat.reduceEqDiff,Nat.reduceAdd,Nat.reduceDiv,Nat.reduceLeDiff,h1.one,h2.one,h3.one]
  refine laid_g (k:=k) (by omega) hp ⟨_,rfl⟩ hl ?_ ?_
  · intro hok
    have hfz:=fz_e (m:=H.length) (H:=H ++ [AObj.cells [iv p.heat,iv p.low,iv p.high,vl,vp,vm],AObj.cells [],AObj.cells []]) (c:=H.length + 2) (by simp -implicitDefEqProofs only [sw0,sw1,sw2,sw3,sw4,sw5,reduceCtorEq,Nat.reduceEqDiff,Nat.reduceAdd,Nat.reduceDiv,Nat.reduceLeDiff]) (by omega)
    simp -implicitDefEqProofs only [sw0,sw1,sw2,sw3,sw4,sw5,reduceCtorEq,Nat.reduceEqDiff,Nat.reduceAdd,Nat.reduceDiv,Nat.reduceLeDiff,fq8.n1_w,fq8.ret,Plt.cool,hok,hfz]
  · intro hok L c hx
    have ho:=Plt.ok_Ok hok
    have hhrs:=ho.hours
    have hlow:=ho.low
    have hheat:=ho.heat
    have hhigh:=ho.high
    obtain ⟨n,hn⟩:∃ n,n=p.loads.length:=⟨_,rfl⟩
    have hxs:∀ (M:List AObj) (e:AObj),PX (H ++ (.cells [iv p.heat,iv p.low,iv p.high,vl,vp,vm] :: e :: (L ++ M))) (H.length + 2 + c) p:=by
      intro M e
      have h9:=hx (H ++ (.cells [iv p.heat,iv p.low,iv p.high,vl,vp,vm] :: e :: (L ++ M))) (by
        have:=same_app (A:=H ++ [.cells [iv p.heat,iv p.low,iv p.high,vl,vp,vm],.cells []]) (A':=H ++ [.cells [iv p.heat,iv p.low,iv p.high,vl,vp,vm],e]) (L:=L) (M:=M) (by simp)
        simpa using this) ⟨_,rfl⟩
      simpa using h9
    have hx0:=hxs [] (.cells [])
    simp -implicitDefEqProofs only [List.append_nil] at hx0
    simp -implicitDefEqProofs only [sw0,sw1,sw2,sw3,sw4,sw5,reduceCtorEq,Nat.reduceEqDiff,Nat.reduceAdd,Nat.reduceDiv,Nat.reduceLeDiff,fq8.n2_w]
    refine choices_s (k:=k) (by omega) hx0 ho ?_
    intro L2 co hC hco
    obtain ⟨kss,cs,k1,k2,k3,k4,k6,k7⟩:=hC.at hco
    have hCs:∀ (M:List AObj) (e:AObj),Same (H ++ (.cells [iv p.heat,iv p.low,iv p.high,vl,vp,vm] :: .cells [] :: L)).length (H ++ (.cells [iv p.heat,iv p.low,iv p.high,vl,vp,vm] :: .cells [] :: L) ++ L2) (H ++ (.cells [iv p.heat,iv p.low,iv p.high,vl,vp,vm] :: e :: (L ++ (L2 ++ M)))):=by
      intro M e
      have:=same_app (A:=H ++ .cells [iv p.heat,iv p.low,iv p.high,vl,vp,vm] :: .cells [] :: L) (A':=H ++ .cells [iv p.heat,iv p.low,iv p.high,vl,vp,vm] :: e :: L) (L:=L2) (M:=M) (by simp)
      simpa using this
    obtain ⟨hrow,k8⟩:=k7 _ (hCs [.cells [iv p.heat,iv 0],.cells [iv 0,iv 0]] (.cells []))
    obtain ⟨o,l,g1,g2,g3⟩:=k8 0 (by omega)
    have hk0:kss[0]'(by omega)=[(p.heat,0)]:=by rw [List.getElem?_eq_getElem (by omega)] at k2; simpa using k2
    have hv:=g3.val (p.heat,0) (by rw [hk0]; simp)
    have hlook:=look_at key_iv2 g2 (zero:=.agg [iv 0,iv 0]) (ok:=true) (p.heat,0)
    rw [hv] at hlook
    simp -implicitDefEqProofs only [Nat.sub_zero,ev2,if_true,Int.toNat_zero] at hlook
    have h01:0 < p.loads.length + 1:=by omega
    have h02:0 * 1 + 1≤cs.length:=by omega
    cases hb:best p p.loads.length 0 p.heat 0 with
    | none =>
      rw [hb] at hlook
      simp -implicitDefEqProofs only [Option.map_none,Option.getD_none,Option.isSome_none] at hlook
      have hidx:idxOf (p.loads.length + 1) (.int .i64 0)=some 0:=by have:=idx_i (k:=.i64) (n:=p.loads.length + 1) (i:=0); rw [if_pos h01] at this; exact this
      simp -implicitDefEqProofs only [sw0,sw1,sw2,sw3,sw4,sw5,reduceCtorEq,Nat.reduceEqDiff,Nat.reduceAdd,Nat.reduceDiv,Nat.reduceLeDiff,hrow,hidx,g1,hlook,h02]
      have hfz:=fz_e (m:=H.length) (H:=H ++ AObj.cells [iv p.heat,iv p.low,iv p.high,vl,vp,vm] :: AObj.cells [] :: (L ++ (L2 ++ [AObj.cells [iv p.heat,iv 0],AObj.cells [iv 0,iv 0],AObj.cells []]))) (c:=H.length + (L.length + (L2.length + 2) + 1 + 1)) (by simp -implicitDefEqProofs only [sw0,sw1,sw2,sw3,sw4,sw5,reduceCtorEq,Nat.reduceEqDiff,Nat.reduceAdd,Nat.reduceDiv,Nat.reduceLeDiff]) (by omega)
      simp -implicitDefEqProofs only [fq8.n3_w,sw0,sw1,sw2,sw3,sw4,sw5,reduceCtorEq,Nat.reduceEqDiff,Nat.reduceAdd,Nat.reduceDiv,Nat.reduceLeDiff,fq8.ret,Plt.cool,hok,hb,hfz]
    | some q =>
      obtain ⟨cost,m0⟩:=q
      rw [hb] at hlook
      simp -implicitDefEqProofs only [Option.map_some,Option.getD_some,Option.isSome_some,chV] at hlook
      have hidx:idxOf (p.loads.length + 1) (.int .i64 0)=some 0:=by have:=idx_i (k:=.i64) (n:=p.loads.length + 1) (i:=0); rw [if_pos h01] at this; exact this
      simp -implicitDefEqProofs only [sw0,sw1,sw2,sw3,sw4,sw5,reduceCtorEq,Nat.reduceEqDiff,Nat.reduceAdd,Nat.reduceDiv,Nat.reduceLeDiff,hrow,hidx,g1,hlook,h02,fq8.n4_w,h1.len]
      refine fq8.n5_l (fun m r1 r4 s=>∃ (i o:Nat) (t:Int) (xs:List Int),r4=iv i∧r1=.sref (H.length + 1) 0 xs.length (xs.length * 1) 1∧s=⟨H ++ (.cells [iv p.heat,iv p.low,iv p.high,vl,vp,vm] :: .cells (xs.map ic).flatten :: (L ++ (L2 ++ [.cells [iv t,iv o],.cells [iv cost,iv m0]]))),false⟩ ∧
        m=p.loads.length - i∧xs.length=i∧(∃ h:i < kss.length,(t,(o:Int)) ∈ kss[i])∧(∃ c m,best p (p.loads.length - i) i t o=some (c,m))∧xs ++ plan p (p.loads.length - i) i t o=plan p p.loads.length 0 p.heat 0) p.loads.length (by simp -implicitDefEqProofs only []; omega)
        ⟨0,0,p.heat,[],rfl,rfl,rfl,rfl,rfl,⟨by omega,by rw [hk0]; simp⟩,⟨cost,m0,hb⟩,rfl⟩ ?_
      rintro m r1 r4 r9 r10 s ⟨i,o,t,xs,rfl,rfl,rfl,rfl,hxl,⟨hik,hto⟩,⟨c',m',hbest⟩,hplan⟩
      simp -implicitDefEqProofs only [fq8.n6_w,sw0,sw1,sw2,sw3,sw4,sw5,reduceCtorEq,Nat.reduceEqDiff,Nat.reduceAdd,Nat.reduceDiv,Nat.reduceLeDiff]
      split
      · rename_i hlt
        have hlt:i < p.loads.length:=by omega
        obtain ⟨r,hr⟩:∃ r,p.loads.length - i=r + 1:=⟨p.loads.length - i - 1,by omega⟩
        have hr':p.loads.length - (i + 1)=r:=by omega
        rw [hr,best_succ] at hbest
        obtain ⟨hm1,hm2,_,_⟩:=minF_some hbest
        unfold bval at hm2
        split at hm2
        · rename_i hle
          obtain ⟨q,hq,_⟩:=Option.map_eq_some_iff.1 hm2
          obtain ⟨hrow',k8'⟩:=k7 _ (hCs [.cells [iv t,iv o],.cells [iv cost,iv m0]] (.cells (xs.map ic).flatten))
          obtain ⟨o2,l2,g1',g2',g3'⟩:=k8' i hik
          have hv':=g3'.val _ hto
          have hlook':=look_at key_iv2 g2' (zero:=.agg [iv 0,iv 0]) (ok:=false) (t,(o:Int))
          rw [hv',hr] at hlook'
          simp -implicitDefEqProofs only [Int.toNat_natCast,best_succ,hbest] at hlook'
          simp -implicitDefEqProofs only [Option.map_some,Option.getD_some,chV,ev2,if_true,if_false,Bool.false_eq_true] at hlook'
          have hnum:=(k4 i hik).num _ hto
          dsimp only at hnum
          have hstep:=k3 i (by omega) _ hto m' hm1 hle
          have hi1:i < p.loads.length + 1:=by omega
          have hi2:i * 1 + 1≤cs.length:=by omega
          have hpx:=hxs (L2 ++ [.cells [iv t,iv o],.cells [iv cost,iv m0]]) (.cells ((xs ++ [(m':Int)]).map ic).flatten)
          have hheat':=fun (K:AV→St→Prop)=>heat_s (K:=K) (k:=k) (b:=some H.length) (lk:=false) (by omega) hpx ho hlt hm1 (show -100000000≤t∧t≤100000000 by omega)
          have happ:=app_own (base:=some H.length) (lk:=false) (fl:=true) (bytes:=8) (xs:=xs) (x:=(m':Int)) (H:=H ++ (.cells [iv p.heat,iv p.low,iv p.high,vl,vp,vm] :: .cells (xs.map ic).flatten :: (L ++ (L2 ++ [.cells [iv t,iv o],.cells [iv cost,iv m0]])))) (c:=H.length + 1) Nat.one_pos ic_len (ic_one _) (ic_clean _) rfl (by simp -implicitDefEqProofs only [sw0,sw1,sw2,sw3,sw4,sw5,reduceCtorEq,Nat.reduceEqDiff,Nat.reduceAdd,Nat.reduceDiv,Nat.reduceLeDiff,row_hd,ic_flat,Nat.mul_one]) (by omega)
          simp -implicitDefEqProofs only [ic] at happ
          simp -implicitDefEqProofs only [fq8.n8_w,sw0,sw1,sw2,sw3,sw4,sw5,reduceCtorEq,Nat.reduceEqDiff,Nat.reduceAdd,Nat.reduceDiv,Nat.reduceLeDiff,hrow',idx_i,hi1,hi2,g1',hlook',happ,hheat']
          refine fq8.n5_go (m':=p.loads.length - (i + 1)) (by omega) ⟨i + 1,m',p.heatBy i t m',xs ++ [(m':Int)],by rw [wrap64 (by omega)]; rfl,by simp,rfl,rfl,by simp [hxl],⟨by omega,hstep⟩,?_,?_⟩
          · rw [hr']; exact ⟨q.1,q.2,hq⟩
          · rw [← hplan,hr,hr',plan,best_succ,hbest]
            simp
        · cases hm2
      · rename_i hge
        have hie:i=p.loads.length:=by omega
        subst hie
        rw [Nat.sub_self] at hplan
        simp -implicitDefEqProofs only [plan,List.append_nil] at hplan
        subst hplan
        have hfz:=fz_own (m:=H.length) (f:=ic) (xs:=plan p p.loads.length 0 p.heat 0) (c:=H.length + 1) (H:=H ++ (.cells [iv p.heat,iv p.low,iv p.high,vl,vp,vm] :: .cells ((plan p p.loads.length 0 p.heat 0).map ic).flatten :: (L ++ (L2 ++ [.cells [iv t,iv o],.cells [iv cost,iv m0]])))) Nat.one_pos ic_len ic_clean rfl (by simp -implicitDefEqProofs only [sw0,sw1,sw2,sw3,sw4,sw5,reduceCtorEq,Nat.reduceEqDiff,Nat.reduceAdd,Nat.reduceDiv,Nat.reduceLeDiff,row_hd,ic_flat,Nat.mul_one]) (by omega)
        simp -implicitDefEqProofs only [fq8.n9_w,sw0,sw1,sw2,sw3,sw4,sw5,reduceCtorEq,Nat.reduceEqDiff,Nat.reduceAdd,Nat.reduceDiv,Nat.reduceLeDiff,fq8.ret,Plt.cool,hok,hb,hfz]
end Go.Proofs.YtcebebhaahpoiaaDoor
end
section
namespace Go.Proofs.YtcebebhaahpoiaaDoor
open Go Go.Ai Go.W
attribute [local irreducible] VC YC WC
set_option linter.unusedSimpArgs false
set_option linter.unusedVariables false
theorem ck_lk {base:Option Nat} {ρ:Regs} {d:Nat} {sh:Sh} {z:AV} {ok:Bool} {m q:AOpd} {h:List AObj} {hs:List (List AObj)}:(chkRead base ρ ⟨some d,.look sh z ok m q,none⟩ (h :: hs)=true)=(vLook h sh z ok (m.ev ρ) (q.ev ρ)=some (ρ.getD d .undef)∧chkRead base ρ ⟨some d,.look sh z ok m q,none⟩ hs=true):=by
  refine propext ?_
  have key:(evI base ρ ⟨h,false⟩ (.look sh z ok m q)).map (·.1)=vLook h sh z ok (m.ev ρ) (q.ev ρ):=by
    simp -implicitDefEqProofs only [evI,vLook]
    split
    · cases mapSh h sh (m.ev ρ) with
      | none=>rfl
      | some es=>rfl
    · rfl
  simp -implicitDefEqProofs only [chkRead,wanted,if_true,List.all_cons,Bool.and_eq_true]
  refine and_congr ?_ Iff.rfl
  rw [← key]
  cases h1:evI base ρ ⟨h,false⟩ (.look sh z ok m q) with
  | none=>simp
  | some v=>obtain ⟨v,s'⟩:=v; simp -implicitDefEqProofs only [Option.map_some,Option.some.injEq]; exact ⟨beq_eq,fun e=>by rw [e]; exact beq_rf _⟩
theorem ck_nk {base:Option Nat} {ρ:Regs} {d:Nat} {sh:Sh} {z:AV} {ok:Bool} {m q:AOpd}:(chkRead base ρ ⟨some d,.look sh z ok m q,none⟩ []=true)=True:=by simp [chkRead,wanted]
def mem (x:Nat):List Nat:=(List.range 64).filter x.testBit
def wo (b:Nat) (l:List Nat):List Nat:=l.filter (fun i=>decide (i ≠ b))
theorem mem_iff {x i:Nat}:i ∈ mem x↔i < 64∧x.testBit i=true:=by simp [mem]
theorem mem_lt {x i:Nat} (h:i ∈ mem x):i < 64:=(mem_iff.1 h).1
theorem mem_zero:mem 0=[]:=by decide
theorem mem_len {x:Nat}:(mem x).length≤64:=by
  have:=List.length_filter_le x.testBit (List.range 64)
  simpa [mem] using this
theorem mem_nodup {x:Nat}:(mem x).Nodup:=List.Nodup.sublist List.filter_sublist List.nodup_range
theorem mem_clr {x i:Nat} (hx:x < 18446744073709551616):mem (clrB x i)=wo i (mem x):=by
  unfold mem wo
  rw [List.filter_filter]
  refine List.filter_congr fun j _=>?_
  rw [tb_clr hx,Bool.and_comm]
  congr 1
  by_cases h:j=i
  · subst h; simp
  · have h':¬ i=j:=fun e=>h e.symm
    simp [h,h']
theorem clrB_lt2 {x i:Nat}:clrB x i < 18446744073709551616:=(BitVec.ofNat 64 x &&& ~~~BitVec.ofNat 64 (2 ^ i)).isLt
theorem wo_self {b:Nat} {l:List Nat} (h:b ∉ l):wo b l=l:=List.filter_eq_self.2 fun x hx=>by
  have:x ≠ b:=fun e=>h (e ▸ hx)
  simpa using this
theorem wo_cons {b a:Nat} {l:List Nat}:wo b (a :: l)=if a=b then wo b l else a :: wo b l:=by
  unfold wo
  by_cases h:a=b
  · rw [if_pos h,List.filter_cons_of_neg (by simp [h])]
  · rw [if_neg h,List.filter_cons_of_pos (by simp [h])]
theorem wo_len {b:Nat} {l:List Nat} (hn:l.Nodup) (h:b ∈ l):(wo b l).length + 1=l.length:=by
  induction l with
  | nil=>cases h
  | cons a l ih =>
    rw [List.nodup_cons] at hn
    rw [wo_cons]
    by_cases e:a=b
    · subst e
      rw [if_pos rfl,wo_self hn.1,List.length_cons]
    · have hb:b ∈ l:=by
        rcases List.mem_cons.1 h with h | h
        · exact absurd h.symm e
        · exact h
      have:=ih hn.2 hb
      rw [if_neg e,List.length_cons,List.length_cons]
      omega
theorem wo_nodup {b:Nat} {l:List Nat} (hn:l.Nodup):(wo b l).Nodup:=hn.sublist List.filter_sublist
theorem mem_wo {b i:Nat} {l:List Nat}:i ∈ wo b l↔i ∈ l∧i ≠ b:=by simp [wo]
theorem filter_head {p:Nat→Bool}:∀ {n s c:Nat},s≤c→c < s + n→p c=true→(∀ j,j < c→p j=false)→(List.range' s n).filter p=c :: ((List.range' s n).filter p).filter (fun i=>decide (i ≠ c))
  | 0,s,c,h1,h2,_,_=>by omega
  | n + 1,s,c,h1,h2,hp,hno=>by
    rw [List.range'_succ]
    by_cases e:s=c
    · subst e
      rw [List.filter_cons_of_pos hp,List.filter_cons_of_neg (by simp)]
      congr 1
      symm
      refine List.filter_eq_self.2 fun x hx=>?_
      have:=(List.mem_range'_1.1 (List.mem_filter.1 hx).1).1
      simp
      omega
    · rw [List.filter_cons_of_neg (by simp [hno s (by omega)])]
      exact filter_head (by omega) (by omega) hp hno
theorem mem_first {x:Nat} (h0:x ≠ 0) (hx:x < 18446744073709551616):ctzN 64 x < 64∧mem x=ctzN 64 x :: mem (clrB x (ctzN 64 x)):=by
  have hl:=ctzN_lt (n:=64) h0 hx
  obtain ⟨h1,h2⟩:=ctzN_spec 64 x h0 hx
  refine ⟨hl,?_⟩
  rw [mem_clr hx]
  unfold mem wo
  rw [List.range_eq_range']
  exact filter_head (by omega) (by omega) h1 h2
theorem mem_nil {x:Nat} (hx:x < 18446744073709551616) (h:mem x=[]):x=0:=by
  by_cases h0:x=0
  · exact h0
  · have:=(mem_first h0 hx).2
    rw [h] at this
    cases this
def pstep (D:Nat→Nat→Int) (f:List Nat→Int) (a:Nat) (S:List Nat) (acc:Int × Nat) (c:Nat):Int × Nat :=
  if acc.1 < 0∨f (wo c S) + D a c < acc.1 then (f (wo c S) + D a c,c) else acc
def pm (D:Nat→Nat→Int):Nat→List Nat→Int × Nat
  | 0,_=>(0,0)
  | _ + 1,[]=>(0,0)
  | r + 1,a :: S=>S.foldl (pstep D (fun l=>(pm D r l).1) a S) (-1,0)
theorem foldl_same {α β:Type} {f g:β→α→β}:∀ {l:List α} {z:β},(∀ x,x ∈ l→∀ y,f y x=g y x)→l.foldl f z=l.foldl g z
  | [],_,_=>rfl
  | a :: l,z,h=>by
    rw [List.foldl_cons,List.foldl_cons,h a (by simp)]
    exact foldl_same fun x hx=>h x (by simp [hx])
theorem pstep_congr {D:Nat→Nat→Int} {f g:List Nat→Int} {a c:Nat} {S:List Nat} {y:Int × Nat} (h:f (wo c S)=g (wo c S)):pstep D f a S y c=pstep D g a S y c:=by
  unfold pstep
  rw [h]
theorem pm_fuel {D:Nat→Nat→Int}:∀ {r r':Nat} {S:List Nat},S.Nodup→S.length≤r→S.length≤r'→pm D r S=pm D r' S
  | 0,r',S,_,h,_=>by
    have:S=[]:=List.eq_nil_of_length_eq_zero (by omega)
    subst this
    cases r' <;> rfl
  | r + 1,0,S,_,_,h=>by
    have:S=[]:=List.eq_nil_of_length_eq_zero (by omega)
    subst this
    rfl
  | r + 1,r' + 1,[],_,_,_=>rfl
  | r + 1,r' + 1,a :: S,hn,h,h'=>by
    simp -implicitDefEqProofs only [List.length_cons] at h h'
    rw [List.nodup_cons] at hn
    simp -implicitDefEqProofs only [pm]
    refine foldl_same fun c hc y=>?_
    have hl:=wo_len hn.2 hc
    exact pstep_congr (by rw [pm_fuel (r':=r') (wo_nodup hn.2) (by omega) (by omega)])
def pv (D:Nat→Nat→Int) (S:List Nat):Int × Nat:=pm D 64 S
theorem pv_cons {D:Nat→Nat→Int} {a:Nat} {S:List Nat} (hn:(a :: S).Nodup) (hl:(a :: S).length≤64):pv D (a :: S)=S.foldl (pstep D (fun l=>(pv D l).1) a S) (-1,0):=by
  unfold pv
  simp -implicitDefEqProofs only [pm]
  rw [List.nodup_cons] at hn
  simp -implicitDefEqProofs only [List.length_cons] at hl
  refine foldl_same fun c hc y=>?_
  have h:=wo_len hn.2 hc
  exact pstep_congr (by rw [pm_fuel (r:=63) (r':=64) (wo_nodup hn.2) (by omega) (by omega)])
theorem pv_nil {D:Nat→Nat→Int}:pv D []=(0,0):=rfl
theorem pm_le {D:Nat→Nat→Int} {M:Int} (hD:∀ a c,0≤D a c∧D a c≤M):∀ (r:Nat) (S:List Nat),-1≤(pm D r S).1∧(pm D r S).1≤r * M
  | 0,S=>by simp [pm]
  | r + 1,[]=>by
    have:=hD 0 0
    have h2:0≤((r + 1:Nat):Int) * M:=Int.mul_nonneg (by omega) (by omega)
    simp -implicitDefEqProofs only [pm]
    omega
  | r + 1,a :: S=>by
    simp -implicitDefEqProofs only [pm]
    have hM:=hD 0 0
    have h2:0≤(r:Int) * M:=Int.mul_nonneg (by omega) (by omega)
    have h3:((r + 1:Nat):Int) * M=r * M + M:=by rw [Int.natCast_add,Int.add_mul]; simp
    have key:∀ (l:List Nat) (z:Int × Nat),(-1≤z.1∧z.1≤r * M + M)→-1≤(l.foldl (pstep D (fun l=>(pm D r l).1) a S) z).1∧(l.foldl (pstep D (fun l=>(pm D r l).1) a S) z).1≤r * M + M:=by
      intro l
      induction l with
      | nil=>intro z hz; exact hz
      | cons c l ih =>
        intro z hz
        rw [List.foldl_cons]
        refine ih _ ?_
        have:=pm_le hD r (wo c S)
        have:=hD a c
        unfold pstep
        split
        · dsimp only; omega
        · exact hz
    rw [h3]
    exact key S (-1,0) (by dsimp only; omega)
end Go.Proofs.YtcebebhaahpoiaaDoor
end
section
namespace Go.Proofs.YtcebebhaahpoiaaDoor
open Go Go.Ai Go.W
attribute [local irreducible] VC YC WC
set_option linter.unusedSimpArgs false
set_option linter.unusedVariables false
set_option maxRecDepth 10000
variable {k:Nat} {b:Option Nat} {H:List AObj} {lk:Bool} {K:AV→St→Prop}
def sz (n:Int):Int:=max n (-n)
theorem size_s (hk:1≤k) {n:Int} (hn:-4000000≤n∧n≤4000000):VC ⟨prog,k,b⟩ F_fq39 [iv n] ⟨H,lk⟩ K=K (iv (sz n)) ⟨H,lk⟩:=by
  obtain ⟨k,rfl⟩:∃ j,k=j + 1:=⟨k - 1,by omega⟩
  apply VC_iff
  apply fq39.enter
  simp -implicitDefEqProofs only [fq39.n0_w,sw0,sw1,sw2,sw3,sw4,sw5,reduceCtorEq,Nat.reduceEqDiff,Nat.reduceAdd,Nat.reduceDiv,Nat.reduceLeDiff,wrap64 (show -9223372036854775808≤-n∧-n≤9223372036854775807 by omega),fq39.ret,Int.zero_sub,sz]
abbrev kc (q:Int × Int):List AV:=[iv q.1,iv q.2]
theorem kc_len (q:Int × Int):(kc q).length=2:=rfl
def diff (a c:Int × Int):Int:=sz (a.1 - c.1) + sz (a.2 - c.2)
def dm (ms:List (Int × Int)) (a c:Nat):Int:=diff (ms.getD a (0,0)) (ms.getD c (0,0))
def okM (ms:List (Int × Int)):Bool:=ms.all fun q=>amt q.1 && amt q.2
theorem okM_at {ms:List (Int × Int)} (h:okM ms=true) (i:Nat):0≤(ms.getD i (0,0)).1∧(ms.getD i (0,0)).1≤1000000∧0≤(ms.getD i (0,0)).2∧(ms.getD i (0,0)).2≤1000000:=by
  rcases Nat.lt_or_ge i ms.length with hi | hi
  · have h1:=List.all_eq_true.1 h ms[i] (List.getElem_mem hi)
    simp -implicitDefEqProofs only [amt,Bool.and_eq_true,decide_eq_true_eq] at h1
    rw [List.getD_eq_getElem?_getD,List.getElem?_eq_getElem hi]
    simp -implicitDefEqProofs only [Option.getD_some]
    omega
  · rw [List.getD_eq_getElem?_getD,List.getElem?_eq_none hi]
    simp
theorem dm_le {ms:List (Int × Int)} (h:okM ms=true) (a c:Nat):0≤dm ms a c∧dm ms a c≤2000000:=by
  have h1:=okM_at h a
  have h2:=okM_at h c
  unfold dm diff sz
  omega
abbrev shU:Sh:=.mk false [.int .u64]
structure KG (D:Nat→Nat→Int) (l:List (Nat × AV)):Prop where
  val:∀ x v,lkp l x=some v→v=.agg [iv (pv D (mem x)).1,iv (pv D (mem x)).2]
  zero:(lkp l 0).isSome=true
  down:∀ x a S,x < 18446744073709551616→(lkp l x).isSome=true→mem x=a :: S→∀ c,c ∈ S→(lkp l (clrB (clrB x a) c)).isSome=true
theorem mem_bound {x n i:Nat} (hx:x < 2 ^ n) (h:i ∈ mem x):i < n:=by
  rcases Nat.lt_or_ge i n with h1 | h1
  · exact h1
  · have:=Nat.testBit_lt_two_pow (Nat.lt_of_lt_of_le hx (Nat.pow_le_pow_right (by omega) h1))
    rw [(mem_iff.1 h).2] at this
    cases this
structure MF (H:List AObj) (ck cb cl cm:Nat) (ms:List (Int × Int)) (vl:AV):Prop where
  k:H[ck]?=some (.cells [.map cm])
  b:H[cb]?=some (.cells [.fn F_fq13 [.ptr ck 0 1,.ptr cb 0 1,.ptr cl 0 1]])
  l:H[cl]?=some (.cells [vl])
  s:Sl H 2 kc vl ms
theorem slset {α:Type} {H:List AObj} {n:Nat} {f:α→List AV} {v:AV} {xs:List α} (h:Sl H n f v xs) {c:Nat} {o:AObj} (hc:∀ cs,H[c]? ≠ some (.cells cs)):Sl (H.set c o) n f v xs:=by
  refine ⟨h.pos,h.size,?_⟩
  rcases h.how with ⟨fl,z,rfl,hz⟩ | ⟨b,o',ver,cs,rfl,hr,hcs⟩
  · exact .inl ⟨fl,z,rfl,hz⟩
  · refine .inr ⟨b,o',ver,cs,rfl,?_,hcs⟩
    have hne:c ≠ b:=by
      rintro rfl
      unfold row at hr
      split at hr
      · rename_i cs' hc'
        exact hc _ hc'
      · cases hr
    unfold row at hr ⊢
    rw [List.getElem?_set_ne hne]
    exact hr
theorem MF.set {H:List AObj} {ck cb cl cm:Nat} {ms:List (Int × Int)} {vl:AV} (h:MF H ck cb cl cm ms vl) {o:AObj} (hc:∀ cs,H[cm]? ≠ some (AObj.cells cs)):MF (H.set cm o) ck cb cl cm ms vl:=by
  have key:∀ c cs,H[c]?=some (AObj.cells cs)→(H.set cm o)[c]?=some (AObj.cells cs):=fun c cs e=>by
    rw [List.getElem?_set_ne (fun e'=>by subst e'; exact hc _ e)]
    exact e
  exact ⟨key _ _ h.k,key _ _ h.b,key _ _ h.l,slset h.s hc⟩
theorem MF.app {H:List AObj} {ck cb cl cm:Nat} {ms:List (Int × Int)} {vl:AV} (h:MF H ck cb cl cm ms vl) {L:List AObj}:MF (H ++ L) ck cb cl cm ms vl:=⟨get_app h.k,get_app h.b,get_app h.l,h.s.app⟩
theorem best_s {ms:List (Int × Int)} (hms:okM ms=true) (hml:ms.length≤16) {ck cb cl cm:Nat} {vl:AV}:∀ (r:Nat) {k:Nat} {b:Option Nat} {H:List AObj} {lk:Bool} {K:AV→St→Prop} (hk:r + 100≤k) {x ver:Nat} {l:List (Nat × AV)} (hx:x < 2 ^ ms.length) (hr:(mem x).length≤r) (hF:MF H ck cb cl cm ms vl) (hM:H[cm]?=some (.map shU ver (encE uvn l))) (hG:KG (dm ms) l)
    (hK:∀ ver' l',KG (dm ms) l'→(∀ y,(lkp l y).isSome=true→(lkp l' y).isSome=true)→(lkp l' x).isSome=true→K (iv (pv (dm ms) (mem x)).1) ⟨H.set cm (.map shU ver' (encE uvn l')),lk⟩),
    VC ⟨prog,k,b⟩ F_fq13 [uv x,.ptr ck 0 1,.ptr cb 0 1,.ptr cl 0 1] ⟨H,lk⟩ K:=by
  intro r
  induction r with
  | zero=>?_
  | succ r ih=>?_
  all_goals
    intro k b H lk K hk x ver l hx hr hF hM hG hK
    obtain ⟨k,rfl⟩:∃ j,k=j + 1:=⟨k - 1,by omega⟩
    have hx64:x < 18446744073709551616:=by
      have:=Nat.pow_le_pow_right (show 0 < 2 by omega) (show ms.length≤16 from hml)
      omega
    apply fq13.enter
    have hrk:=row_of hF.k (v:=1) rfl
    have hcl:=hM
    have hlook:=look_at key_uv (H:=H) (c:=cm) (l:=l) ⟨ver,hM⟩ (zero:=.agg [iv 0,iv 0]) (ok:=true) x
    have hsame:H.set cm (.map shU ver (encE uvn l))=H:=by
      obtain ⟨h1,h2⟩:=List.getElem?_eq_some_iff.1 hM
      rw [← h2,List.set_getElem_self]
    cases hf:lkp l x with
    | some v =>
      have hv:=hG.val x v hf
      rw [hf] at hlook
      subst hv
      have:=hK ver l hG (fun y h=>h) (by rw [hf]; rfl)
      rw [hsame] at this
      simp -implicitDefEqProofs only [Option.getD_some,Option.isSome_some,if_true] at hlook
      simp -implicitDefEqProofs only [fq13.n0_w,sw0,sw1,sw2,sw3,sw4,sw5,reduceCtorEq,Nat.reduceEqDiff,Nat.reduceAdd,Nat.reduceDiv,Nat.reduceLeDiff,hrk,hlook,fq13.n1_w,fq13.ret]
      exact this
    | none=>?_
  · have hx0:x=0:=by
      refine mem_nil hx64 (List.eq_nil_of_length_eq_zero (by omega))
    have:=hG.zero
    rw [← hx0,hf] at this
    cases this
  · rw [hf] at hlook
    simp -implicitDefEqProofs only [Option.getD_none,Option.isSome_none,if_true] at hlook
    have hx0:x ≠ 0:=by
      rintro rfl
      have:=hG.zero
      rw [hf] at this
      cases this
    obtain ⟨ha64,hmx⟩:=mem_first hx0 hx64
    obtain ⟨a,ha⟩:∃ a,a=ctzN 64 x:=⟨_,rfl⟩
    rw [← ha] at ha64 hmx
    simp -implicitDefEqProofs only [fq13.n0_w,sw0,sw1,sw2,sw3,sw4,sw5,reduceCtorEq,Nat.reduceEqDiff,Nat.reduceAdd,Nat.reduceDiv,Nat.reduceLeDiff,hrk,hlook,fq13.n2_w,first_stone (k:=k) (by omega) hx64,← ha,without_stone (k:=k) (by omega) hx64 ha64]
    obtain ⟨R,hR⟩:∃ R,R=clrB x a:=⟨_,rfl⟩
    have hR64:R < 18446744073709551616:=by rw [hR]; exact clrB_lt2
    rw [← hR] at hmx ⊢
    have haS:a ∈ mem x:=by rw [hmx]; simp
    have hRx:R < x:=by rw [hR]; exact clrB_lt hx64 (mem_iff.1 haS).2
    have hRb:R < 2 ^ ms.length:=by omega
    have han:=mem_bound hx haS
    have hnd:(a :: mem R).Nodup:=by rw [← hmx]; exact mem_nodup
    have hRl:(mem R).length≤r:=by rw [hmx,List.length_cons] at hr; omega
    have hnc:∀ cs,H[cm]? ≠ some (AObj.cells cs):=fun cs e=>by rw [hM] at e; cases e
    have hcm:cm < H.length:=(List.getElem?_eq_some_iff.1 hM).1
    have hFs:∀ o X,MF (H.set cm o ++ X) ck cb cl cm ms vl:=fun o X=>(hF.set hnc).app
    have hrk':∀ o X,row (H.set cm o ++ X) ck 1=some [.map cm]:=fun o X=>row_of (hFs o X).k rfl
    have hrb':∀ o X,row (H.set cm o ++ X) cb 1=some [.fn F_fq13 [.ptr ck 0 1,.ptr cb 0 1,.ptr cl 0 1]]:=fun o X=>row_of (hFs o X).b rfl
    have hrl':∀ o X,row (H.set cm o ++ X) cl 1=some [vl]:=fun o X=>row_of (hFs o X).l rfl
    have hat:=fun o X (i:Nat) (K:AV→Prop)=>(hFs o X).s.at (k:=.i64) (i:=i) (K:=K)
    have hat':=fun o X (i:Nat) (hi:i < ms.length)=>(hFs o X).s.at' (k:=.i64) (i:=i) hi
    have hld0:∀ o X (i:Nat) (hi:i < ms.length),ld (H.set cm o ++ X) none (adr 2 vl i 0)=some (iv (ms.getD i (0,0)).1):=fun o X i hi=>by
      rw [(hFs o X).s.ld hi (by omega),List.getD_eq_getElem?_getD,List.getElem?_eq_getElem hi]; rfl
    have hld1:∀ o X (i:Nat) (hi:i < ms.length),ld (H.set cm o ++ X) none (adr 2 vl i 1)=some (iv (ms.getD i (0,0)).2):=fun o X i hi=>by
      rw [(hFs o X).s.ld hi (by omega),List.getD_eq_getElem?_getD,List.getElem?_eq_getElem hi]; rfl
    have hAm:=okM_at hms
    have hoff:=fun (i j j':Nat)=>hF.s.off (i:=i) (o:=j) (o':=j')
    have hrp:∀ o u w,row (H.set cm o ++ [.cells [u,w]]) H.length 2=some [u,w]:=fun o u w=>by
      have:=@row_end0 (H.set cm o) [.cells [u,w]] 2
      rw [List.length_set] at this
      rw [this]; rfl
    have hsp:∀ o q q',(H.set cm o ++ [q]).set H.length q'=H.set cm o ++ [q']:=fun o q q'=>by
      have:=@set_end0 (H.set cm o) [q] q'
      rw [List.length_set] at this
      rw [this]; rfl
    have hsm:∀ o X o',(H.set cm o ++ X).set cm o'=H.set cm o' ++ X:=fun o X o'=>by
      rw [List.set_append_left _ _ (by simpa using hcm),List.set_set]
    have hgm:∀ o X,(H.set cm o ++ X)[cm]?=some o:=fun o X=>by
      rw [List.getElem?_append_left (by simpa using hcm),List.getElem?_set_self hcm]
    have hDle:=dm_le hms
    refine fq13.n3_l (fun m r5 s=>∃ (y:Nat) (done:List Nat) (acc:Int × Nat) (l1:List (Nat × AV)) (ver1:Nat),r5=uv y∧s=⟨H.set cm (.map shU ver1 (encE uvn l1)) ++ [.cells [iv acc.1,iv acc.2]],false⟩∧m=(mem y).length∧y < 18446744073709551616∧mem R=done ++ mem y ∧
      acc=done.foldl (pstep (dm ms) (fun l=>(pv (dm ms) l).1) a (mem R)) (-1,0)∧KG (dm ms) l1∧(∀ y,(lkp l y).isSome=true→(lkp l1 y).isSome=true)∧(∀ c,c ∈ done→(lkp l1 (clrB R c)).isSome=true)) (mem R).length (by simp -implicitDefEqProofs only []; omega)
      ⟨R,[],(-1,0),l,ver,rfl,by rw [hsame]; rfl,rfl,hR64,rfl,rfl,hG,fun y h=>h,fun c h=>by cases h⟩ ?_
    rintro m r5 r9 r10 r11 r12 r13 r14 r15 r16 r17 r18 r19 r20 r21 r22 r23 r24 r25 r26 r27 r28 r29 r30 r31 r32 r33 r34 r35 r36 r37 r38 r39 r40 r41 s ⟨y,done,acc,l1,ver1,rfl,rfl,rfl,hy64,hdone,hacc,hG1,hmono,hin⟩
    simp -implicitDefEqProofs only [fq13.n4_w,sw0,sw1,sw2,sw3,sw4,sw5,reduceCtorEq,Nat.reduceEqDiff,Nat.reduceAdd,Nat.reduceDiv,Nat.reduceLeDiff]
    split
    · rename_i hne
      have hy0:y ≠ 0:=by omega
      obtain ⟨hc64,hmy⟩:=mem_first hy0 hy64
      obtain ⟨c,hc⟩:∃ c,c=ctzN 64 y:=⟨_,rfl⟩
      rw [← hc] at hc64 hmy
      have hcR:c ∈ mem R:=by rw [hdone,hmy]; simp
      have hcn:=mem_bound hRb hcR
      have hcRx:clrB R c < R:=clrB_lt hR64 (mem_iff.1 hcR).2
      have hmc:=mem_clr (i:=c) hR64
      have hwl:=wo_len mem_nodup hcR
      simp -implicitDefEqProofs only [fq13.n6_w,sw0,sw1,sw2,sw3,sw4,sw5,reduceCtorEq,Nat.reduceEqDiff,Nat.reduceAdd,Nat.reduceDiv,Nat.reduceLeDiff,hrb',first_stone (k:=k) (by omega) hy64,← hc,without_stone (k:=k) (by omega) hR64 hc64,VV_fn]
      refine ih (k:=k) (by omega) (x:=clrB R c) (by omega) (by rw [hmc]; omega) (hFs _ _) (hgm _ _) hG1 ?_
      intro ver2 l2 hG2 hmono2 hin2
      rw [hsm]
      have hpvb:=pm_le hDle 64 (mem (clrB R c))
      have hpvb:-1≤(pv (dm ms) (mem (clrB R c))).1∧(pv (dm ms) (mem (clrB R c))).1≤128000000:=by unfold pv; omega
      obtain ⟨qa,hqa⟩:∃ q,q=ms.getD a (0,0):=⟨_,rfl⟩
      obtain ⟨qc,hqc⟩:∃ q,q=ms.getD c (0,0):=⟨_,rfl⟩
      have hA1:=hAm a
      have hA2:=hAm c
      rw [← hqa] at hA1
      rw [← hqc] at hA2
      have hdm:dm ms a c=sz (qa.1 - qc.1) + sz (qa.2 - qc.2):=by unfold dm diff; rw [← hqa,← hqc]
      have hdl:=hDle a c
      have hs1:=fun (G:List AObj) (K:AV→St→Prop)=>size_s (H:=G) (K:=K) (lk:=false) (b:=some H.length) (k:=k) (by omega) (show -4000000≤qa.1 - qc.1∧qa.1 - qc.1≤4000000 by omega)
      have hs2:=fun (G:List AObj) (K:AV→St→Prop)=>size_s (H:=G) (K:=K) (lk:=false) (b:=some H.length) (k:=k) (by omega) (show -4000000≤qa.2 - qc.2∧qa.2 - qc.2≤4000000 by omega)
      have hz1:0≤sz (qa.1 - qc.1)∧sz (qa.1 - qc.1)≤4000000:=by unfold sz; omega
      have hz2:0≤sz (qa.2 - qc.2)∧sz (qa.2 - qc.2)≤4000000:=by unfold sz; omega
      have hw1:=wrap64 (n:=qa.1 - qc.1) (by omega)
      have hw2:=wrap64 (n:=qa.2 - qc.2) (by omega)
      have hw3:=wrap64 (n:=(pv (dm ms) (mem (clrB R c))).1 + sz (qa.1 - qc.1)) (by omega)
      have hw4:=wrap64 (n:=(pv (dm ms) (mem (clrB R c))).1 + sz (qa.1 - qc.1) + sz (qa.2 - qc.2)) (by omega)
      have hla0:=fun o X=>hld0 o X a han
      have hla1:=fun o X=>hld1 o X a han
      have hlc0:=fun o X=>hld0 o X c hcn
      have hlc1:=fun o X=>hld1 o X c hcn
      have hata:=fun o X=>hat' o X a han
      have hatc:=fun o X=>hat' o X c hcn
      rw [← hqa] at hla0 hla1
      rw [← hqc] at hlc0 hlc1
      simp -implicitDefEqProofs only [sw0,sw1,sw2,sw3,sw4,sw5,reduceCtorEq,Nat.reduceEqDiff,Nat.reduceAdd,Nat.reduceDiv,Nat.reduceLeDiff,hrl',hat,hata,hatc,hla0,hla1,hlc0,hlc1,hoff,han,hcn,hrb',hw1,hs1,hw2,hs2,hw3,hw4,hrp]
      have hmyc:=mem_clr (i:=c) hy64
      have hyl:(mem (clrB y c)).length < (mem y).length:=by rw [hmy]; simp
      have hdone':mem R=(done ++ [c]) ++ mem (clrB y c):=by rw [hdone,hmy]; simp
      have hin':∀ d,d ∈ done ++ [c]→(lkp l2 (clrB R d)).isSome=true:=by
        intro d hd
        rcases List.mem_append.1 hd with h | h
        · exact hmono2 _ (hin d h)
        · simp -implicitDefEqProofs only [List.mem_singleton] at h
          subst h
          exact hin2
      have hmono':∀ y,(lkp l y).isSome=true→(lkp l2 y).isSome=true:=fun y h=>hmono2 _ (hmono y h)
      have hstep:(done ++ [c]).foldl (pstep (dm ms) (fun l=>(pv (dm ms) l).1) a (mem R)) (-1,0)=pstep (dm ms) (fun l=>(pv (dm ms) l).1) a (mem R) acc c:=by
        rw [List.foldl_append,← hacc]; rfl
      have hpst:pstep (dm ms) (fun l=>(pv (dm ms) l).1) a (mem R) acc c=if acc.1 < 0∨(pv (dm ms) (mem (clrB R c))).1 + sz (qa.1 - qc.1) + sz (qa.2 - qc.2) < acc.1 then ((pv (dm ms) (mem (clrB R c))).1 + sz (qa.1 - qc.1) + sz (qa.2 - qc.2),c) else acc:=by
        unfold pstep
        rw [hdm,hmc,Int.add_assoc]
      rw [hpst] at hstep
      by_cases c1:acc.1 < 0
      · rw [if_pos (.inl c1)] at hstep
        simp -implicitDefEqProofs only [eq_true c1,sw0,sw1,sw2,sw3,sw4,sw5,reduceCtorEq,Nat.reduceEqDiff,Nat.reduceAdd,Nat.reduceDiv,Nat.reduceLeDiff,fq13.n7_w,fq13.n8_w,hrp,hsp,first_stone (k:=k) (by omega) hy64,← hc,without_stone (k:=k) (by omega) hy64 hc64]
        refine fq13.n3_go (m':=(mem (clrB y c)).length) hyl ⟨clrB y c,done ++ [c],_,l2,ver2,rfl,rfl,rfl,clrB_lt2,hdone',hstep.symm,hG2,hmono',hin'⟩
      · by_cases c2:(pv (dm ms) (mem (clrB R c))).1 + sz (qa.1 - qc.1) + sz (qa.2 - qc.2) < acc.1
        · rw [if_pos (.inr c2)] at hstep
          simp -implicitDefEqProofs only [eq_false c1,eq_true c2,sw0,sw1,sw2,sw3,sw4,sw5,reduceCtorEq,Nat.reduceEqDiff,Nat.reduceAdd,Nat.reduceDiv,Nat.reduceLeDiff,fq13.n7_w,fq13.n8_w,hrp,hsp,first_stone (k:=k) (by omega) hy64,← hc,without_stone (k:=k) (by omega) hy64 hc64]
          refine fq13.n3_go (m':=(mem (clrB y c)).length) hyl ⟨clrB y c,done ++ [c],_,l2,ver2,rfl,rfl,rfl,clrB_lt2,hdone',hstep.symm,hG2,hmono',hin'⟩
        · rw [if_neg (by omega)] at hstep
          simp -implicitDefEqProofs only [eq_false c1,eq_false c2,sw0,sw1,sw2,sw3,sw4,sw5,reduceCtorEq,Nat.reduceEqDiff,Nat.reduceAdd,Nat.reduceDiv,Nat.reduceLeDiff,fq13.n8_w,hrp,hsp,first_stone (k:=k) (by omega) hy64,← hc,without_stone (k:=k) (by omega) hy64 hc64]
          refine fq13.n3_go (m':=(mem (clrB y c)).length) hyl ⟨clrB y c,done ++ [c],_,l2,ver2,rfl,rfl,rfl,clrB_lt2,hdone',hstep.symm,hG2,hmono',hin'⟩
    · rename_i hz
      have hy0:y=0:=by omega
      subst hy0
      rw [mem_zero,List.append_nil] at hdone
      rw [← hdone] at hacc hin
      have hpv:pv (dm ms) (mem x)=acc:=by
        rw [hacc,hmx]
        exact pv_cons hnd (by rw [← hmx]; exact mem_len)
      have hupd:=upd_at key_uv (H:=H.set cm (.map shU ver1 (encE uvn l1)) ++ [.cells [iv acc.1,iv acc.2]]) (c:=cm) (ver:=ver1) (l:=l1) (hgm _ _) (base:=some H.length) (lk:=false) x (v:=.agg [iv acc.1,iv acc.2]) rfl
      rw [hsm] at hupd
      simp -implicitDefEqProofs only [fq13.n9_w,sw0,sw1,sw2,sw3,sw4,sw5,reduceCtorEq,Nat.reduceEqDiff,Nat.reduceAdd,Nat.reduceDiv,Nat.reduceLeDiff,hrk',hrp,hupd,fq13.ret]
      rw [List.take_left' (by simp)]
      have hse:∀ z,(lkp (ins l1 x (AV.agg [iv acc.1,iv acc.2])) z).isSome=true↔(z=x∨(lkp l1 z).isSome=true):=fun z=>by
        rw [lkp_ins]
        split
        · rename_i e; simp [e]
        · rename_i e; simp [e]
      have:=hK (ver1 + 1) (ins l1 x (AV.agg [iv acc.1,iv acc.2])) ⟨fun z v hz=>?_,(hse 0).2 (.inr hG1.zero),fun z a' S hz64 hz hms' d hd=>(hse _).2 ?_⟩ (fun z hz=>(hse z).2 (.inr (hmono z hz))) ((hse x).2 (.inl rfl))
      · rw [hpv] at this
        exact this
      · rw [lkp_ins] at hz
        split at hz
        · rename_i e
          subst e
          rw [hpv]
          simpa using hz.symm
        · exact hG1.val z v hz
      · rcases (hse z).1 hz with rfl | h
        · rw [hmx] at hms'
          simp -implicitDefEqProofs only [List.cons.injEq] at hms'
          obtain ⟨rfl,rfl⟩:=hms'
          rw [← hR]
          exact .inr (hin d hd)
        · exact .inr (hG1.down z a' S hz64 h hms' d hd)
end Go.Proofs.YtcebebhaahpoiaaDoor
end
section
namespace Go.Proofs.YtcebebhaahpoiaaDoor
open Go Go.Ai Go.W
attribute [local irreducible] VC YC WC
set_option linter.unusedSimpArgs false
set_option linter.unusedVariables false
set_option maxRecDepth 10000
variable {k:Nat} {b:Option Nat} {H:List AObj} {lk:Bool} {K:AV→St→Prop}
def prs (D:Nat→Nat→Int):Nat→List Nat→List (Int × Int)
  | 0,_=>[]
  | _ + 1,[]=>[]
  | r + 1,a :: S=>((a:Int),((pv D (a :: S)).2:Int)) :: prs D r (wo (pv D (a :: S)).2 S)
theorem prs_nil {D:Nat→Nat→Int} {r:Nat}:prs D r []=[]:=by cases r <;> rfl
theorem fold_mem {D:Nat→Nat→Int} {f:List Nat→Int} {a:Nat} {S0:List Nat}:∀ (S:List Nat) (z:Int × Nat),(z.1 < 0→z.2 ∈ S0∨S ≠ [])→(0≤z.1→z.2 ∈ S0)→(∀ c,c ∈ S→c ∈ S0)→(S.foldl (pstep D f a S0) z).2 ∈ S0
  | [],z,h1,h2,_=>by
    rcases Int.lt_or_le z.1 0 with h | h
    · exact (h1 h).resolve_right (fun e=>e rfl)
    · exact h2 h
  | c :: S,z,h1,h2,h3=>by
    rw [List.foldl_cons]
    have hc:=h3 c (by simp)
    have hz:(pstep D f a S0 z c).2 ∈ S0:=by
      unfold pstep
      split
      · exact hc
      · rename_i hn
        exact h2 (by omega)
    exact fold_mem S _ (fun _=>.inl hz) (fun _=>hz) (fun d hd=>h3 d (by simp [hd]))
theorem mate_mem {D:Nat→Nat→Int} {a:Nat} {S:List Nat} (hn:(a :: S).Nodup) (hl:(a :: S).length≤64) (hne:S ≠ []):(pv D (a :: S)).2 ∈ S:=by
  rw [pv_cons hn hl]
  exact fold_mem S _ (fun _=>.inr hne) (fun h=>absurd h (by decide)) (fun c h=>h)
theorem mem_full {n:Nat} (h:n≤16):mem (2 ^ n - 1)=List.range n:=by
  have:mem (2 ^ n - 1)=(List.range 64).filter (fun i=>decide (i < n)):=by
    unfold mem
    exact List.filter_congr fun i _=>by rw [Nat.testBit_two_pow_sub_one]
  rw [this]
  have key:∀ n:Fin 17,(List.range 64).filter (fun i=>decide (i < n.1))=List.range n.1:=by decide
  exact key ⟨n,by omega⟩
def matched (ms:List (Int × Int)):Bool:=decide (ms.length % 2=0∧ms.length≤16) && okM ms
def matchAns (ms:List (Int × Int)):List AV :=
  if matched ms then [.slice false 2 ((prs (dm ms) ms.length (List.range ms.length)).map kc),iv (pv (dm ms) (List.range ms.length)).1,iv 0]
  else [.slice false 2 [],iv 0,iv 2]
theorem Match_1_s (hk:1010≤k) {q:Int × Int}:VC ⟨prog,k,b⟩ F_fq12 [.agg (kc q)] ⟨H,lk⟩ K=K (.bool (!(amt q.1 && amt q.2))) ⟨H,lk⟩:=by
  obtain ⟨k,rfl⟩:∃ j,k=j + 1:=⟨k - 1,by omega⟩
  apply VC_iff
  apply fq12.enter
  have hs:SI (H ++ [.cells [iv q.1,iv q.2]]) (.slice true 1 [[iv q.1],[iv q.2]]) [q.1,q.2]:=Sl.lit Nat.one_pos ic_len rfl
  simp -implicitDefEqProofs only [fq12.n0_w,sw0,sw1,sw2,sw3,sw4,sw5,reduceCtorEq,Nat.reduceEqDiff,Nat.reduceAdd,Nat.reduceDiv,Nat.reduceLeDiff,kc,few_s (k:=k) (by omega) hs (by simp),fq12.ret,amts]
theorem fz_e2 {m c:Nat} (hb:row H c 0=some []) (hm:m≤c):frz m H 2 (.sref c 0 0 0 2)=.slice false 2 [] :=
  fz_own (f:=kc) (xs:=[]) (by omega) kc_len (fun x=>rfl) rfl hb hm
theorem Match_s (hk:1100≤k) {v:AV} {ms:List (Int × Int)} (hs:Sl H 2 kc v ms) (hl:ms.length≤1000) :
    VC ⟨prog,k,b⟩ F_fq11 [v] ⟨H,lk⟩ K=K (.tup (matchAns ms)) ⟨H,lk⟩:=by
  obtain ⟨k,rfl⟩:∃ j,k=j + 1:=⟨k - 1,by omega⟩
  apply VC_iff
  apply fq11.enter
  have hs':=hs.app (L:=[.cells [v],.cells []])
  have hcf:=fun (K:AV→St→Prop)=>ContainsFunc_Mark (K:=K) (k:=k) (b:=some H.length) (lk:=false) (by omega) (f:=F_fq12) (caps:=[]) hs' hl (vl:=fun q=>.agg (kc q)) (fun x=>rfl) (p:=fun q=>!(amt q.1 && amt q.2)) (fun x hx b lk K=>Match_1_s (k:=k - 2) (by omega))
  have hany:ms.any (fun q=>!(amt q.1 && amt q.2))=!okM ms:=by
    unfold okM
    rw [List.all_eq_not_any_not,Bool.not_not]
  simp -implicitDefEqProofs only [hany] at hcf
  have hfz:=fz_e2 (m:=H.length) (H:=H ++ [AObj.cells [v],AObj.cells [],AObj.cells []]) (c:=H.length + 2) (by simp -implicitDefEqProofs only [sw0,sw1,sw2,sw3,sw4,sw5,reduceCtorEq,Nat.reduceEqDiff,Nat.reduceAdd,Nat.reduceDiv,Nat.reduceLeDiff]) (by omega)
  have htm:(ms.length:Int).tmod 2=((ms.length % 2:Nat):Int):=by rw [Int.tmod_eq_emod_of_nonneg (by omega)]; omega
  have h20:((2:Int)=0)=False:=by simp
  have hbad:matched ms=false→matchAns ms=[.slice false 2 [],iv 0,iv 2]:=fun h=>by unfold matchAns; rw [h]; rfl
  by_cases c1:¬ ((ms.length % 2:Nat):Int)=0
  · have hm:matched ms=false:=by unfold matched; rw [show decide (ms.length % 2=0∧ms.length≤16)=false from decide_eq_false (by omega)]; rfl
    simp -implicitDefEqProofs only [fq11.n0_w,sw0,sw1,sw2,sw3,sw4,sw5,reduceCtorEq,Nat.reduceEqDiff,Nat.reduceAdd,Nat.reduceDiv,Nat.reduceLeDiff,hs.one,hs.cells,hs.len,htm,h20,eq_false c1,fq11.n1_w,fq11.ret,hfz,hbad hm]
  have c1:((ms.length % 2:Nat):Int)=0:=by omega
  by_cases c2:(16:Int) < ms.length
  · have hm:matched ms=false:=by unfold matched; rw [show decide (ms.length % 2=0∧ms.length≤16)=false from decide_eq_false (by omega)]; rfl
    simp -implicitDefEqProofs only [fq11.n0_w,sw0,sw1,sw2,sw3,sw4,sw5,reduceCtorEq,Nat.reduceEqDiff,Nat.reduceAdd,Nat.reduceDiv,Nat.reduceLeDiff,hs.one,hs.cells,hs.len,htm,h20,eq_true c1,eq_true c2,fq11.n1_w,fq11.ret,hfz,hbad hm]
  cases hok:okM ms
  · have hm:matched ms=false:=by unfold matched; rw [hok,Bool.and_false]
    rw [hok] at hcf
    simp -implicitDefEqProofs only [fq11.n0_w,sw0,sw1,sw2,sw3,sw4,sw5,reduceCtorEq,Nat.reduceEqDiff,Nat.reduceAdd,Nat.reduceDiv,Nat.reduceLeDiff,hs.one,hs.cells,hs.len,htm,h20,eq_true c1,eq_false c2,hcf,fq11.n1_w,fq11.ret,hfz,hbad hm]
  rw [hok] at hcf
  have hn16:ms.length≤16:=by omega
  have hm:matched ms=true:=by unfold matched; rw [hok,Bool.and_true]; exact decide_eq_true (by omega)
  have hans:matchAns ms=[.slice false 2 ((prs (dm ms) ms.length (List.range ms.length)).map kc),iv (pv (dm ms) (List.range ms.length)).1,iv 0]:=by unfold matchAns; rw [hm]; rfl
  have hpw:2 ^ ms.length≤2 ^ 16:=Nat.pow_le_pow_right (by omega) hn16
  have hpw1:0 < 2 ^ ms.length:=Nat.two_pow_pos _
  have hneg:¬ ((ms.length:Int) < 0):=by omega
  have e2:(1:Int) * 2 ^ min ms.length IntKind.u64.bits=((2 ^ ms.length:Nat):Int):=by
    rw [show IntKind.u64.bits=64 from rfl,Nat.min_eq_left (by omega)]; simp
  have hupd:eMupd (some H.length) ⟨H ++ [.cells [v],.cells [],.map shU 0 []],false⟩ shU (.map (H.length + 2)) (.int .u64 0) (.agg [iv 0,iv 0])=some ⟨H ++ [.cells [v],.cells [],.map shU 1 (encE uvn [(0,.agg [iv 0,iv 0])])],false⟩:=by
    have:=upd_at key_uv (H:=H ++ [.cells [v],.cells [],.map shU 0 []]) (c:=H.length + 2) (ver:=0) (l:=[]) (by simp -implicitDefEqProofs only [sw0,sw1,sw2,sw3,sw4,sw5,reduceCtorEq,Nat.reduceEqDiff,Nat.reduceAdd,Nat.reduceDiv,Nat.reduceLeDiff]; rfl) (base:=some H.length) (lk:=false) 0 (v:=.agg [iv 0,iv 0]) rfl
    refine this.trans ?_
    simp -implicitDefEqProofs only [sw0,sw1,sw2,sw3,sw4,sw5,reduceCtorEq,Nat.reduceEqDiff,Nat.reduceAdd,Nat.reduceDiv,Nat.reduceLeDiff,ins]
  have hneg2:((2 ^ ms.length:Nat):Int) - 1=((2 ^ ms.length - 1:Nat):Int):=by omega
  simp -implicitDefEqProofs only [fq11.n0_w,sw0,sw1,sw2,sw3,sw4,sw5,reduceCtorEq,Nat.reduceEqDiff,Nat.reduceAdd,Nat.reduceDiv,Nat.reduceLeDiff,hs.one,hs.cells,hs.len,htm,h20,eq_true c1,eq_false c2,hcf,fq11.n2_w,hupd,hneg,Int.toNat_natCast,e2,wrapu (show 2 ^ ms.length < 18446744073709551616 by omega)]
  rw [hneg2,wrapu (by omega)]
  have hG0:KG (dm ms) [(0,.agg [iv 0,iv 0])]:=by
    refine ⟨fun x u hx=>?_,rfl,fun x a S hx64 hx hms c hc=>?_⟩
    · simp -implicitDefEqProofs only [lkp] at hx
      split at hx
      · rename_i e; subst e
        rw [mem_zero,pv_nil]
        simpa using hx.symm
      · cases hx
    · simp -implicitDefEqProofs only [lkp] at hx
      split at hx
      · rename_i e; subst e
        rw [mem_zero] at hms
        cases hms
      · cases hx
  have hF:MF (H ++ [.cells [v],.cells [],.map shU 1 (encE uvn [(0,.agg [iv 0,iv 0])]),.cells [.map (H.length + 2)],.cells [.fn F_fq13 [.ptr (H.length + 3) 0 1,.ptr (H.length + 4) 0 1,.ptr H.length 0 1]]]) (H.length + 3) (H.length + 4) H.length (H.length + 2) ms v :=
    ⟨by simp -implicitDefEqProofs only [sw0,sw1,sw2,sw3,sw4,sw5,reduceCtorEq,Nat.reduceEqDiff,Nat.reduceAdd,Nat.reduceDiv,Nat.reduceLeDiff],by simp -implicitDefEqProofs only [sw0,sw1,sw2,sw3,sw4,sw5,reduceCtorEq,Nat.reduceEqDiff,Nat.reduceAdd,Nat.reduceDiv,Nat.reduceLeDiff],by simp -implicitDefEqProofs only [sw0,sw1,sw2,sw3,sw4,sw5,reduceCtorEq,Nat.reduceEqDiff,Nat.reduceAdd,Nat.reduceDiv,Nat.reduceLeDiff],hs.app⟩
  refine best_s hok hn16 64 (k:=k) (by omega) (x:=2 ^ ms.length - 1) (by omega) mem_len hF (ver:=1) (l:=[(0,.agg [iv 0,iv 0])]) (by simp -implicitDefEqProofs only [sw0,sw1,sw2,sw3,sw4,sw5,reduceCtorEq,Nat.reduceEqDiff,Nat.reduceAdd,Nat.reduceDiv,Nat.reduceLeDiff]) hG0 ?_
  intro ver' l' hG' _ hin
  rw [mem_full hn16]
  simp -implicitDefEqProofs only [sw0,sw1,sw2,sw3,sw4,sw5,reduceCtorEq,Nat.reduceEqDiff,Nat.reduceAdd,Nat.reduceDiv,Nat.reduceLeDiff]
  refine fq11.n3_l (fun m r1 r4 s=>∃ (y:Nat) (ps:List (Int × Int)) (r:Nat),r4=uv y∧r1=.sref (H.length + 1) 0 ps.length (ps.length * 2) 2∧s=⟨H ++ [.cells [v],.cells (ps.map kc).flatten,.map shU ver' (encE uvn l'),.cells [.map (H.length + 2)],.cells [.fn F_fq13 [.ptr (H.length + 3) 0 1,.ptr (H.length + 4) 0 1,.ptr H.length 0 1]]],false⟩ ∧
    m=(mem y).length∧y < 18446744073709551616∧(mem y).length % 2=0∧(lkp l' y).isSome=true∧(mem y).length≤r∧ps ++ prs (dm ms) r (mem y)=prs (dm ms) ms.length (List.range ms.length)∧ps.length + r=ms.length) ms.length (by simp -implicitDefEqProofs only []; omega)
    ⟨2 ^ ms.length - 1,[],ms.length,rfl,rfl,rfl,by rw [mem_full hn16,List.length_range],by omega,by rw [mem_full hn16,List.length_range]; omega,hin,by rw [mem_full hn16,List.length_range]; omega,by rw [mem_full hn16]; rfl,by simp⟩ ?_
  rintro m r0 r1 r4 r5 r7 r8 r9 r10 r11 r12 s ⟨y,ps,r,rfl,rfl,rfl,rfl,hy64,heven,hyin,hr,hps,hpl⟩
  simp -implicitDefEqProofs only [fq11.n4_w,sw0,sw1,sw2,sw3,sw4,sw5,reduceCtorEq,Nat.reduceEqDiff,Nat.reduceAdd,Nat.reduceDiv,Nat.reduceLeDiff]
  split
  · rename_i hne
    have hy0:y ≠ 0:=by omega
    obtain ⟨ha64,hmy⟩:=mem_first hy0 hy64
    obtain ⟨a,ha⟩:∃ a,a=ctzN 64 y:=⟨_,rfl⟩
    rw [← ha] at ha64 hmy
    obtain ⟨u,hu⟩:∃ u,lkp l' y=some u:=Option.isSome_iff_exists.1 hyin
    have huv:=hG'.val y u hu
    subst huv
    have hnd:(a :: mem (clrB y a)).Nodup:=by rw [← hmy]; exact mem_nodup
    have hSne:mem (clrB y a) ≠ []:=by
      intro e
      rw [hmy,e] at heven
      simp at heven
    have hmate:=mate_mem (D:=dm ms) hnd (by rw [← hmy]; exact mem_len) hSne
    rw [← hmy] at hmate
    obtain ⟨c,hc⟩:∃ c,c=(pv (dm ms) (mem y)).2:=⟨_,rfl⟩
    rw [← hc] at hmate hu
    have hc64:=mem_lt hmate
    have hlook:=fun (ok:Bool)=>look_at key_uv (H:=H ++ [.cells [v],.cells (ps.map kc).flatten,.map shU ver' (encE uvn l'),.cells [.map (H.length + 2)],.cells [.fn F_fq13 [.ptr (H.length + 3) 0 1,.ptr (H.length + 4) 0 1,.ptr H.length 0 1]]]) (c:=H.length + 2) (l:=l') ⟨ver',by simp -implicitDefEqProofs only [sw0,sw1,sw2,sw3,sw4,sw5,reduceCtorEq,Nat.reduceEqDiff,Nat.reduceAdd,Nat.reduceDiv,Nat.reduceLeDiff]⟩ (zero:=.agg [iv 0,iv 0]) (ok:=ok) y
    rw [hu] at hlook
    simp -implicitDefEqProofs only [Option.getD_some] at hlook
    have hlf:=hlook false
    simp -implicitDefEqProofs only [Bool.false_eq_true,if_false] at hlf
    have happ:=app_own (base:=some H.length) (lk:=false) (fl:=true) (bytes:=16) (f:=kc) (xs:=ps) (x:=((a:Int),(c:Int))) (H:=H ++ [.cells [v],.cells (ps.map kc).flatten,.map shU ver' (encE uvn l'),.cells [.map (H.length + 2)],.cells [.fn F_fq13 [.ptr (H.length + 3) 0 1,.ptr (H.length + 4) 0 1,.ptr H.length 0 1]]]) (c:=H.length + 1) (by omega) kc_len rfl rfl rfl (by simp -implicitDefEqProofs only [sw0,sw1,sw2,sw3,sw4,sw5,reduceCtorEq,Nat.reduceEqDiff,Nat.reduceAdd,Nat.reduceDiv,Nat.reduceLeDiff,row_hd,flat_len kc_len]) (by omega)
    simp -implicitDefEqProofs only [kc] at happ
    simp -implicitDefEqProofs only [fq11.n6_w,sw0,sw1,sw2,sw3,sw4,sw5,reduceCtorEq,Nat.reduceEqDiff,Nat.reduceAdd,Nat.reduceDiv,Nat.reduceLeDiff,first_stone (k:=k) (by omega) hy64,← ha,without_stone (k:=k) (by omega) hy64 ha64,without_stone (k:=k) (by omega) (clrB_lt2 (x:=y) (i:=a)) hc64,ck_lk,ck_nk,hlf,happ]
    obtain ⟨r,rfl⟩:∃ r',r=r' + 1:=⟨r - 1,by rw [hmy,List.length_cons] at hr; omega⟩
    have hm1:=mem_clr (i:=c) (clrB_lt2 (x:=y) (i:=a))
    have hml1:=wo_len mem_nodup hmate
    have hml2:(mem y).length=(mem (clrB y a)).length + 1:=by rw [hmy]; rfl
    refine fq11.n3_go (m':=(mem (clrB (clrB y a) c)).length) (by rw [hm1]; omega) ⟨clrB (clrB y a) c,ps ++ [((a:Int),(c:Int))],r,rfl,by simp,rfl,rfl,clrB_lt2,by rw [hm1]; omega,hG'.down y a _ hy64 hyin hmy c hmate,by rw [hm1]; omega,?_,by simp; omega⟩
    rw [← hps,hmy,prs,← hmy,← hc,hm1]
    simp
  · rename_i hz
    have hy0:y=0:=by omega
    subst hy0
    rw [mem_zero,prs_nil,List.append_nil] at hps
    subst hps
    have hfz2:=fz_own (m:=H.length) (f:=kc) (xs:=prs (dm ms) ms.length (List.range ms.length)) (c:=H.length + 1) (H:=H ++ [.cells [v],.cells ((prs (dm ms) ms.length (List.range ms.length)).map kc).flatten,.map shU ver' (encE uvn l'),.cells [.map (H.length + 2)],.cells [.fn F_fq13 [.ptr (H.length + 3) 0 1,.ptr (H.length + 4) 0 1,.ptr H.length 0 1]]]) (by omega) kc_len (fun x=>rfl) rfl (by simp -implicitDefEqProofs only [sw0,sw1,sw2,sw3,sw4,sw5,reduceCtorEq,Nat.reduceEqDiff,Nat.reduceAdd,Nat.reduceDiv,Nat.reduceLeDiff,row_hd,flat_len kc_len]) (by omega)
    simp -implicitDefEqProofs only [fq11.n7_w,sw0,sw1,sw2,sw3,sw4,sw5,reduceCtorEq,Nat.reduceEqDiff,Nat.reduceAdd,Nat.reduceDiv,Nat.reduceLeDiff,fq11.ret,hfz2,hans]
end Go.Proofs.YtcebebhaahpoiaaDoor
end
section
namespace Go.Proofs.YtcebebhaahpoiaaDoor
open Go Go.Ai Go.W
attribute [local irreducible] VC YC WC
set_option linter.unusedSimpArgs false
set_option linter.unusedVariables false
set_option maxRecDepth 10000
variable {k:Nat} {b:Option Nat} {H:List AObj} {lk:Bool} {K:AV→St→Prop}
theorem or_nat {x y:Nat} (hx:x < 18446744073709551616) (hy:y < 18446744073709551616):(BitVec.ofInt IntKind.u64.bits (x:Int) ||| BitVec.ofInt IntKind.u64.bits (y:Int)).toNat=x ||| y:=by
  show (BitVec.ofInt 64 (x:Int) ||| BitVec.ofInt 64 (y:Int)).toNat=_
  rw [ofInt_nat,ofInt_nat,BitVec.toNat_or,BitVec.toNat_ofNat,BitVec.toNat_ofNat,Nat.mod_eq_of_lt hx,Nat.mod_eq_of_lt hy]
theorem with_place (hk:1≤k) {x i:Nat} (hx:x < 18446744073709551616) (hi:i < 64):VC ⟨prog,k,b⟩ F_fq35 [uv x,iv i] ⟨H,lk⟩ K=K (uv (x ||| 2 ^ i)) ⟨H,lk⟩:=by
  obtain ⟨k,rfl⟩:∃ j,k=j + 1:=⟨k - 1,by omega⟩
  apply VC_iff
  apply fq35.enter
  have hp:(2:Nat) ^ i≤2 ^ 63:=Nat.pow_le_pow_right (by omega) (by omega)
  have hneg:¬ ((i:Int) < 0):=by omega
  have e2:(1:Int) * 2 ^ min i IntKind.u64.bits=((2 ^ i:Nat):Int):=by
    rw [show IntKind.u64.bits=64 from rfl,Nat.min_eq_left (by omega)]; simp
  have hlt:x ||| 2 ^ i < 2 ^ 64:=Nat.or_lt_two_pow (by omega) (by omega)
  simp -implicitDefEqProofs only [fq35.n0_w,sw0,sw1,sw2,sw3,sw4,sw5,reduceCtorEq,Nat.reduceEqDiff,Nat.reduceAdd,Nat.reduceDiv,Nat.reduceLeDiff,wrapu (show i < 18446744073709551616 by omega),hneg,Int.toNat_natCast,e2,wrapu (show 2 ^ i < 18446744073709551616 by omega),b_or,or_nat hx (show 2 ^ i < 18446744073709551616 by omega),wrapu (show x ||| 2 ^ i < 18446744073709551616 by omega),fq35.ret]
def rnd (n:Int) (l:List Int):Bool:=decide ((∀ x,x ∈ l→0≤x∧x≤n - 1)∧l.Nodup∧(l.length:Int)=n)
theorem CheckRotation_1_s (hk:600≤k) {v:AV} {l:List Int} {c:Nat} {n:Int} (hs:SI H v l) (hl:l.length≤500) (hn:1≤n∧n≤8) (hc:row H c 1=some [iv n]) :
    VC ⟨prog,k,b⟩ F_fq7 [v,.ptr c 0 1] ⟨H,lk⟩ K=K (.bool (!rnd n l)) ⟨H,lk⟩:=by
  obtain ⟨k,rfl⟩:∃ j,k=j + 1:=⟨k - 1,by omega⟩
  apply VC_iff
  apply fq7.enter
  simp -implicitDefEqProofs only [fq7.n0_w,sw0,sw1,sw2,sw3,sw4,sw5,reduceCtorEq,Nat.reduceEqDiff,Nat.reduceAdd,Nat.reduceDiv,Nat.reduceLeDiff,hs.len]
  refine fq7.n1_l (fun m r3 r4 s=>∃ (i S:Nat),r3=uv S∧r4=iv i∧s=⟨H,false⟩∧m=l.length - i∧i≤l.length∧S < 256∧(∀ j:Nat,S.testBit j=decide ((j:Int) ∈ l.take i))∧(∀ x,x ∈ l.take i→0≤x∧x≤n - 1)∧(l.take i).Nodup) l.length (by simp -implicitDefEqProofs only []; omega)
    ⟨0,0,rfl,rfl,rfl,rfl,by omega,by omega,by simp,by simp,by simp⟩ ?_
  rintro m r2 r3 r4 r6 r7 r8 r9 s ⟨i,S,rfl,rfl,rfl,rfl,hi,hS,hbit,hin,hnd⟩
  simp -implicitDefEqProofs only [fq7.n2_w,sw0,sw1,sw2,sw3,sw4,sw5,reduceCtorEq,Nat.reduceEqDiff,Nat.reduceAdd,Nat.reduceDiv,Nat.reduceLeDiff]
  split
  · rename_i hlt
    have hlt:i < l.length:=by omega
    obtain ⟨x,hx⟩:∃ x,x=l[i]:=⟨_,rfl⟩
    have htk:l.take (i + 1)=l.take i ++ [x]:=by rw [hx]; exact (List.take_append_getElem hlt).symm
    have hxl:x ∈ l:=by rw [hx]; exact List.getElem_mem hlt
    have hw:=wrap64 (n:=n - 1) (by omega)
    by_cases c1:0≤x∧x≤n - 1
    · obtain ⟨y,hy⟩:=Int.eq_ofNat_of_zero_le c1.1
      have hy8:y < 8:=by omega
      have hhas:=fun (K:AV→St→Prop)=>has_place (K:=K) (k:=k) (b:=some H.length) (lk:=false) (H:=H) (by omega) (show S < 18446744073709551616 by omega) (show y < 64 by omega)
      rw [hy] at hx c1 htk hxl
      have hld:=hs.ld hlt hs.pos
      rw [← hx] at hld
      cases hb:S.testBit y
      · rw [hb] at hhas
        have hnot:((y:Nat):Int) ∉ l.take i:=by
          have:=hbit y
          rw [hb] at this
          simpa using this.symm
        simp -implicitDefEqProofs only [fq7.n4_w,sw0,sw1,sw2,sw3,sw4,sw5,reduceCtorEq,Nat.reduceEqDiff,Nat.reduceAdd,Nat.reduceDiv,Nat.reduceLeDiff,hs.at,hlt,hld,ic,hc,hw,within_s (k:=k) (by omega),eq_true c1,hhas,fq7.n6_w,with_place (k:=k) (by omega) (show S < 18446744073709551616 by omega) (show y < 64 by omega),fq7.n7_w]
        refine fq7.n1_go (m':=l.length - (i + 1)) (by omega) ⟨i + 1,S ||| 2 ^ y,rfl,by rw [wrap64 (by omega)]; rfl,rfl,rfl,by omega,?_,fun j=>?_,fun z hz=>?_,?_⟩
        · exact Nat.or_lt_two_pow (n:=8) hS (Nat.pow_lt_pow_right (by omega) hy8)
        · rw [Nat.testBit_or,Nat.testBit_two_pow,hbit,htk]
          by_cases e:y=j
          · subst e; simp
          · have e':¬ ((j:Nat):Int)=y:=by omega
            simp [e,e']
        · rw [htk] at hz
          rcases List.mem_append.1 hz with h | h
          · exact hin z h
          · simp -implicitDefEqProofs only [List.mem_singleton] at h
            rw [h]; exact c1
        · rw [htk,List.nodup_append]
          refine ⟨hnd,by simp,fun a ha b hb=>?_⟩
          simp -implicitDefEqProofs only [List.mem_singleton] at hb
          subst hb
          exact fun e=>hnot (e ▸ ha)
      · rw [hb] at hhas
        have hyes:((y:Nat):Int) ∈ l.take i:=by
          have:=hbit y
          rw [hb] at this
          simpa using this.symm
        have hno:rnd n l=false:=by
          refine decide_eq_false fun h=>?_
          have h2:=(List.take_sublist (i + 1) l).nodup h.2.1
          rw [htk,List.nodup_append] at h2
          exact h2.2.2 _ hyes _ (by simp) rfl
        simp -implicitDefEqProofs only [fq7.n4_w,sw0,sw1,sw2,sw3,sw4,sw5,reduceCtorEq,Nat.reduceEqDiff,Nat.reduceAdd,Nat.reduceDiv,Nat.reduceLeDiff,hs.at,hlt,hld,ic,hc,hw,within_s (k:=k) (by omega),eq_true c1,hhas,fq7.n5_w,fq7.ret,hno]
    · have hno:rnd n l=false:=decide_eq_false fun h=>c1 (h.1 x hxl)
      have hld:=hs.ld hlt hs.pos
      rw [← hx] at hld
      simp -implicitDefEqProofs only [fq7.n4_w,sw0,sw1,sw2,sw3,sw4,sw5,reduceCtorEq,Nat.reduceEqDiff,Nat.reduceAdd,Nat.reduceDiv,Nat.reduceLeDiff,hs.at,hlt,hld,ic,hc,hw,within_s (k:=k) (by omega),eq_false c1,fq7.n5_w,fq7.ret,hno]
  · rename_i hge
    rw [List.take_of_length_le (by omega)] at hin hnd
    by_cases c3:(l.length:Int)=n
    · have:rnd n l=true:=decide_eq_true ⟨hin,hnd,c3⟩
      simp -implicitDefEqProofs only [fq7.n8_w,sw0,sw1,sw2,sw3,sw4,sw5,reduceCtorEq,Nat.reduceEqDiff,Nat.reduceAdd,Nat.reduceDiv,Nat.reduceLeDiff,hs.len,hc,eq_true c3,this,fq7.ret]
    · have:rnd n l=false:=decide_eq_false fun h=>c3 h.2.2
      simp -implicitDefEqProofs only [fq7.n8_w,sw0,sw1,sw2,sw3,sw4,sw5,reduceCtorEq,Nat.reduceEqDiff,Nat.reduceAdd,Nat.reduceDiv,Nat.reduceLeDiff,hs.len,hc,eq_false c3,this,fq7.ret]
abbrev rc (q:AV × List Int):List AV:=[q.1]
theorem rc_len (q:AV × List Int):(rc q).length=1:=rfl
structure RD (H:List AObj) (v:AV) (rs:List (AV × List Int)):Prop where
  sl:Sl H 1 rc v rs
  row:∀ q,q ∈ rs→SI H q.1 q.2
theorem RD.app {H:List AObj} {v:AV} {rs:List (AV × List Int)} (h:RD H v rs) {L:List AObj}:RD (H ++ L) v rs:=⟨h.sl.app,fun q hq=>(h.row q hq).app⟩
def rot (n:Int) (rs:List (AV × List Int)):Bool:=decide (1≤n∧n≤8) && decide (rs.length≤100) && rs.all (fun q=>rnd n q.2)
theorem CheckRotation_s (hk:1610≤k) {v:AV} {n:Int} {rs:List (AV × List Int)} (hs:RD H v rs) (hl:rs.length≤1000) (hw:∀ q,q ∈ rs→q.2.length≤500) :
    VC ⟨prog,k,b⟩ F_fq6 [iv n,v] ⟨H,lk⟩ K=K (.bool (rot n rs)) ⟨H,lk⟩:=by
  obtain ⟨k,rfl⟩:∃ j,k=j + 1:=⟨k - 1,by omega⟩
  apply VC_iff
  apply fq6.enter
  have hs':=hs.app (L:=[.cells [iv n]])
  by_cases c1:1≤n∧n≤8
  · by_cases c2:(100:Int) < rs.length
    · have hno:rot n rs=false:=by unfold rot; rw [decide_eq_false (show ¬ rs.length≤100 by omega)]; simp
      simp -implicitDefEqProofs only [fq6.n0_w,sw0,sw1,sw2,sw3,sw4,sw5,reduceCtorEq,Nat.reduceEqDiff,Nat.reduceAdd,Nat.reduceDiv,Nat.reduceLeDiff,within_s (k:=k) (by omega),eq_true c1,hs.sl.len,eq_true c2,fq6.n1_w,fq6.ret,hno]
    · have hcf:=fun (K:AV→St→Prop)=>ContainsFunc_s_int (K:=K) (k:=k) (b:=some H.length) (lk:=false) (by omega) (f:=F_fq7) (caps:=[.ptr H.length 0 1]) hs'.sl hl (vl:=fun q=>q.1) (fun x=>rfl) (p:=fun q=>!rnd n q.2) (fun x hx b lk K=>CheckRotation_1_s (k:=k - 2) (by omega) (hs'.row x hx) (hw x hx) c1 (by simp -implicitDefEqProofs only [sw0,sw1,sw2,sw3,sw4,sw5,reduceCtorEq,Nat.reduceEqDiff,Nat.reduceAdd,Nat.reduceDiv,Nat.reduceLeDiff]))
      have hyes:rot n rs=!(rs.any fun q=>!rnd n q.2):=by
        unfold rot; rw [decide_eq_true c1,decide_eq_true (show rs.length≤100 by omega),List.all_eq_not_any_not]; simp
      simp -implicitDefEqProofs only [fq6.n0_w,sw0,sw1,sw2,sw3,sw4,sw5,reduceCtorEq,Nat.reduceEqDiff,Nat.reduceAdd,Nat.reduceDiv,Nat.reduceLeDiff,within_s (k:=k) (by omega),eq_true c1,hs.sl.len,eq_false c2,fq6.n2_w,hcf,fq6.ret,hyes]
  · have hno:rot n rs=false:=by unfold rot; rw [decide_eq_false c1]; simp
    simp -implicitDefEqProofs only [fq6.n0_w,sw0,sw1,sw2,sw3,sw4,sw5,reduceCtorEq,Nat.reduceEqDiff,Nat.reduceAdd,Nat.reduceDiv,Nat.reduceLeDiff,within_s (k:=k) (by omega),eq_false c1,fq6.n1_w,fq6.ret,hno]
def lm (D:Nat→Nat→Int) (n:Nat):Nat→List Nat→Int × Nat
  | 0,_=>(0,0)
  | _ + 1,[]=>(0,0)
  | r + 1,a :: S=>(a :: S).foldl (pstep D (fun l=>(lm D n r l).1) (n - (S.length + 1)) (a :: S)) (-1,0)
theorem lm_fuel {D:Nat→Nat→Int} {n:Nat}:∀ {r r':Nat} {S:List Nat},S.Nodup→S.length≤r→S.length≤r'→lm D n r S=lm D n r' S
  | 0,r',S,_,h,_=>by
    have:S=[]:=List.eq_nil_of_length_eq_zero (by omega)
    subst this
    cases r' <;> rfl
  | r + 1,0,S,_,_,h=>by
    have:S=[]:=List.eq_nil_of_length_eq_zero (by omega)
    subst this
    rfl
  | r + 1,r' + 1,[],_,_,_=>rfl
  | r + 1,r' + 1,a :: S,hn,h,h'=>by
    simp -implicitDefEqProofs only [List.length_cons] at h h'
    simp -implicitDefEqProofs only [lm]
    refine foldl_same fun c hc y=>?_
    have hl:=wo_len hn hc
    simp -implicitDefEqProofs only [List.length_cons] at hl
    exact pstep_congr (by rw [lm_fuel (r':=r') (wo_nodup hn) (by omega) (by omega)])
def lv (D:Nat→Nat→Int) (n:Nat) (S:List Nat):Int × Nat:=lm D n 64 S
theorem lv_nil {D:Nat→Nat→Int} {n:Nat}:lv D n []=(0,0):=rfl
theorem lv_cons {D:Nat→Nat→Int} {n:Nat} {S:List Nat} (hne:S ≠ []) (hn:S.Nodup) (hl:S.length≤64):lv D n S=S.foldl (pstep D (fun l=>(lv D n l).1) (n - S.length) S) (-1,0):=by
  cases S with
  | nil=>exact absurd rfl hne
  | cons a S =>
    unfold lv
    rw [lm]
    simp -implicitDefEqProofs only [List.length_cons] at hl ⊢
    refine foldl_same fun c hc y=>?_
    have h:=wo_len hn hc
    simp -implicitDefEqProofs only [List.length_cons] at h
    exact pstep_congr (by rw [lm_fuel (r:=63) (r':=64) (wo_nodup hn) (by omega) (by omega)])
theorem lm_le {D:Nat→Nat→Int} {n:Nat} {M:Int} (hD:∀ a c,0≤D a c∧D a c≤M):∀ (r:Nat) (S:List Nat),-1≤(lm D n r S).1∧(lm D n r S).1≤r * M
  | 0,S=>by simp [lm]
  | r + 1,[]=>by
    have:=hD 0 0
    have h2:0≤((r + 1:Nat):Int) * M:=Int.mul_nonneg (by omega) (by omega)
    simp -implicitDefEqProofs only [lm]
    omega
  | r + 1,a :: S=>by
    simp -implicitDefEqProofs only [lm]
    have hM:=hD 0 0
    have h2:0≤(r:Int) * M:=Int.mul_nonneg (by omega) (by omega)
    have h3:((r + 1:Nat):Int) * M=r * M + M:=by rw [Int.natCast_add,Int.add_mul]; simp
    have key:∀ (l:List Nat) (z:Int × Nat),(-1≤z.1∧z.1≤r * M + M)→-1≤(l.foldl (pstep D (fun l=>(lm D n r l).1) (n - (S.length + 1)) (a :: S)) z).1∧(l.foldl (pstep D (fun l=>(lm D n r l).1) (n - (S.length + 1)) (a :: S)) z).1≤r * M + M:=by
      intro l
      induction l with
      | nil=>intro z hz; exact hz
      | cons c l ih =>
        intro z hz
        rw [List.foldl_cons]
        refine ih _ ?_
        have:=lm_le (n:=n) hD r (wo c (a :: S))
        have:=hD (n - (S.length + 1)) c
        unfold pstep
        split
        · dsimp only; omega
        · exact hz
    rw [h3]
    exact key (a :: S) (-1,0) (by dsimp only; omega)
end Go.Proofs.YtcebebhaahpoiaaDoor
end
section
namespace Go.Proofs.YtcebebhaahpoiaaDoor
open Go Go.Ai Go.W
attribute [local irreducible] VC YC WC
set_option linter.unusedSimpArgs false
set_option linter.unusedVariables false
set_option maxRecDepth 10000
variable {k:Nat} {b:Option Nat} {H:List AObj} {lk:Bool} {K:AV→St→Prop}
def tab8 (D:Nat→Nat→Int):List AV:=(List.range 64).map fun i=>iv (D (i / 8) (i % 8))
theorem tab8_len {D:Nat→Nat→Int}:(tab8 D).length=64:=by simp [tab8]
theorem tab8_at {D:Nat→Nat→Int} {s x:Nat} (hs:s < 8) (hx:x < 8):(tab8 D)[s * 8 + x]?=some (iv (D s x)):=by
  unfold tab8
  rw [List.getElem?_map,List.getElem?_range (by omega),Option.map_some]
  congr 3
  · omega
  · omega
structure LG (D:Nat→Nat→Int) (n:Nat) (l:List (Nat × AV)):Prop where
  val:∀ x v,lkp l x=some v→v=iv (lv D n (mem x)).1
structure NF (H:List AObj) (ck cb cu cm:Nat) (D:Nat→Nat→Int):Prop where
  k:H[ck]?=some (.cells [.map cm])
  b:H[cb]?=some (.cells [.fn F_fq15 [.ptr ck 0 1,.ptr cb 0 1,.ptr cu 0 64]])
  u:H[cu]?=some (.cells (tab8 D))
theorem NF.set {H:List AObj} {ck cb cu cm:Nat} {D:Nat→Nat→Int} (h:NF H ck cb cu cm D) {o:AObj} (hc:∀ cs,H[cm]? ≠ some (AObj.cells cs)):NF (H.set cm o) ck cb cu cm D:=by
  have key:∀ c cs,H[c]?=some (AObj.cells cs)→(H.set cm o)[c]?=some (AObj.cells cs):=fun c cs e=>by
    rw [List.getElem?_set_ne (fun e'=>by subst e'; exact hc _ e)]
    exact e
  exact ⟨key _ _ h.k,key _ _ h.b,key _ _ h.u⟩
theorem NF.app {H:List AObj} {ck cb cu cm:Nat} {D:Nat→Nat→Int} (h:NF H ck cb cu cm D) {L:List AObj}:NF (H ++ L) ck cb cu cm D:=⟨get_app h.k,get_app h.b,get_app h.u⟩
theorem least_s {D:Nat→Nat→Int} {n:Nat} (hD:∀ a c,0≤D a c∧D a c≤1000) (hn:n≤8) {ck cb cu cm:Nat}:∀ (r:Nat) {k:Nat} {b:Option Nat} {H:List AObj} {lk:Bool} {K:AV→St→Prop} (hk:r + 100≤k) {x ver sh:Nat} {l:List (Nat × AV)} (hx:x < 2 ^ n) (hr:(mem x).length≤r) (hsh:sh + (mem x).length=n) (hF:NF H ck cb cu cm D) (hM:H[cm]?=some (.map shU ver (encE uvn l))) (hG:LG D n l)
    (hK:∀ ver' l',LG D n l'→K (iv (lv D n (mem x)).1) ⟨H.set cm (.map shU ver' (encE uvn l')),lk⟩),
    VC ⟨prog,k,b⟩ F_fq15 [uv x,iv sh,.ptr ck 0 1,.ptr cb 0 1,.ptr cu 0 64] ⟨H,lk⟩ K:=by
  intro r
  induction r with
  | zero=>?_
  | succ r ih=>?_
  all_goals
    intro k b H lk K hk x ver sh l hx hr hsh hF hM hG hK
    obtain ⟨k,rfl⟩:∃ j,k=j + 1:=⟨k - 1,by omega⟩
    have hx64:x < 18446744073709551616:=by
      have:=Nat.pow_le_pow_right (show 0 < 2 by omega) hn
      omega
    apply fq15.enter
    have hrk:=row_of hF.k (v:=1) rfl
    have hlook:=look_at key_uv (H:=H) (c:=cm) (l:=l) ⟨ver,hM⟩ (zero:=iv 0) (ok:=true) x
    have hsame:H.set cm (.map shU ver (encE uvn l))=H:=by
      obtain ⟨h1,h2⟩:=List.getElem?_eq_some_iff.1 hM
      rw [← h2,List.set_getElem_self]
    have hK0:=hK ver l hG
    rw [hsame] at hK0
    by_cases c0:(x:Int)=0
    · have e0:x=0:=by omega
      rw [e0,mem_zero,lv_nil] at hK0
      simp -implicitDefEqProofs only [fq15.n0_w,sw0,sw1,sw2,sw3,sw4,sw5,reduceCtorEq,Nat.reduceEqDiff,Nat.reduceAdd,Nat.reduceDiv,Nat.reduceLeDiff,eq_true c0,fq15.n1_w,fq15.ret]
      exact hK0
    cases hf:lkp l x with
    | some v =>
      have hv:=hG.val x v hf
      rw [hf] at hlook
      subst hv
      simp -implicitDefEqProofs only [Option.getD_some,Option.isSome_some,if_true] at hlook
      simp -implicitDefEqProofs only [fq15.n0_w,sw0,sw1,sw2,sw3,sw4,sw5,reduceCtorEq,Nat.reduceEqDiff,Nat.reduceAdd,Nat.reduceDiv,Nat.reduceLeDiff,eq_false c0,fq15.n2_w,hrk,hlook,fq15.n3_w,fq15.ret]
      exact hK0
    | none=>?_
  · have hx0:x=0:=mem_nil hx64 (List.eq_nil_of_length_eq_zero (by omega))
    exact absurd hx0 (by omega)
  · rw [hf] at hlook
    simp -implicitDefEqProofs only [Option.getD_none,Option.isSome_none,if_true] at hlook
    have hx0:x ≠ 0:=by omega
    have hne:mem x ≠ []:=fun e=>hx0 (mem_nil hx64 e)
    simp -implicitDefEqProofs only [fq15.n0_w,sw0,sw1,sw2,sw3,sw4,sw5,reduceCtorEq,Nat.reduceEqDiff,Nat.reduceAdd,Nat.reduceDiv,Nat.reduceLeDiff,eq_false c0,fq15.n2_w,hrk,hlook,fq15.n4_w]
    have hnc:∀ cs,H[cm]? ≠ some (AObj.cells cs):=fun cs e=>by rw [hM] at e; cases e
    have hcm:cm < H.length:=(List.getElem?_eq_some_iff.1 hM).1
    have hFs:∀ o,NF (H.set cm o) ck cb cu cm D:=fun o=>hF.set hnc
    have hrk':∀ o,row (H.set cm o) ck 1=some [.map cm]:=fun o=>row_of (hFs o).k rfl
    have hrb':∀ o,row (H.set cm o) cb 1=some [.fn F_fq15 [.ptr ck 0 1,.ptr cb 0 1,.ptr cu 0 64]]:=fun o=>row_of (hFs o).b rfl
    have hru':∀ o,row (H.set cm o) cu 64=some (tab8 D):=fun o=>row_of (hFs o).u tab8_len
    have hsm:∀ o o',(H.set cm o).set cm o'=H.set cm o':=fun o o'=>List.set_set ..
    have hgm:∀ o,(H.set cm o)[cm]?=some o:=fun o=>List.getElem?_set_self hcm
    have hsh8:sh < 8:=by
      have:0 < (mem x).length:=List.length_pos_iff.2 hne
      omega
    refine fq15.n5_l (fun m r6 r7 s=>∃ (y:Nat) (done:List Nat) (acc:Int × Nat) (l1:List (Nat × AV)) (ver1:Nat),r6=iv acc.1∧r7=uv y∧s=⟨H.set cm (.map shU ver1 (encE uvn l1)),false⟩∧m=(mem y).length∧y < 18446744073709551616∧mem x=done ++ mem y ∧
      acc=done.foldl (pstep D (fun l=>(lv D n l).1) (n - (mem x).length) (mem x)) (-1,0)∧LG D n l1) (mem x).length (by simp -implicitDefEqProofs only []; omega)
      ⟨x,[],(-1,0),l,ver,rfl,rfl,by rw [hsame],rfl,hx64,rfl,rfl,hG⟩ ?_
    rintro m r6 r7 r8 r9 r10 r11 r12 r13 r14 r15 r16 r17 r18 r19 r20 r21 r22 s ⟨y,done,acc,l1,ver1,rfl,rfl,rfl,rfl,hy64,hdone,hacc,hG1⟩
    simp -implicitDefEqProofs only [fq15.n6_w,sw0,sw1,sw2,sw3,sw4,sw5,reduceCtorEq,Nat.reduceEqDiff,Nat.reduceAdd,Nat.reduceDiv,Nat.reduceLeDiff]
    split
    · rename_i hne
      have hy0:y ≠ 0:=by omega
      obtain ⟨hc64,hmy⟩:=mem_first hy0 hy64
      obtain ⟨c,hc⟩:∃ c,c=ctzN 64 y:=⟨_,rfl⟩
      rw [← hc] at hc64 hmy
      have hcx:c ∈ mem x:=by rw [hdone,hmy]; simp
      have hcn:=mem_bound hx hcx
      have hcxx:clrB x c < x:=clrB_lt hx64 (mem_iff.1 hcx).2
      have hmc:=mem_clr (i:=c) hx64
      have hwl:=wo_len mem_nodup hcx
      have hws:IntKind.i64.wrap ((sh:Int) + 1)=((sh + 1:Nat):Int):=by rw [wrap64 (by omega)]; rfl
      simp -implicitDefEqProofs only [fq15.n8_w,sw0,sw1,sw2,sw3,sw4,sw5,reduceCtorEq,Nat.reduceEqDiff,Nat.reduceAdd,Nat.reduceDiv,Nat.reduceLeDiff,hrb',first_place (k:=k) (by omega) hy64,← hc,without_place (k:=k) (by omega) hx64 hc64,VV_fn,hws]
      refine ih (k:=k) (by omega) (x:=clrB x c) (sh:=sh + 1) (by omega) (by rw [hmc]; omega) (by rw [hmc]; omega) (hFs _) (hgm _) hG1 ?_
      intro ver2 l2 hG2
      rw [hsm]
      have hpvb:=lm_le (n:=n) hD 64 (mem (clrB x c))
      have hpvb:-1≤(lv D n (mem (clrB x c))).1∧(lv D n (mem (clrB x c))).1≤64000:=by unfold lv; omega
      have hdl:=hD sh c
      have hw3:=wrap64 (n:=(lv D n (mem (clrB x c))).1 + D sh c) (by omega)
      have hta:(tab8 D)[sh * 8 + c * 1]?=some (iv (D sh c)):=by rw [Nat.mul_one]; exact tab8_at hsh8 (by omega)
      have hc8:c < 8:=by omega
      have hshe:n - (mem x).length=sh:=by omega
      simp -implicitDefEqProofs only [sw0,sw1,sw2,sw3,sw4,sw5,reduceCtorEq,Nat.reduceEqDiff,Nat.reduceAdd,Nat.reduceDiv,Nat.reduceLeDiff,hrb',hru',idx_i,hsh8,hc8,hta,hw3]
      have hmyc:=mem_clr (i:=c) hy64
      have hyl:(mem (clrB y c)).length < (mem y).length:=by rw [hmy]; simp
      have hdone':mem x=(done ++ [c]) ++ mem (clrB y c):=by rw [hdone,hmy]; simp
      have hstep:(done ++ [c]).foldl (pstep D (fun l=>(lv D n l).1) (n - (mem x).length) (mem x)) (-1,0)=pstep D (fun l=>(lv D n l).1) (n - (mem x).length) (mem x) acc c:=by
        rw [List.foldl_append,← hacc]; rfl
      have hpst:pstep D (fun l=>(lv D n l).1) (n - (mem x).length) (mem x) acc c=if acc.1 < 0∨(lv D n (mem (clrB x c))).1 + D sh c < acc.1 then ((lv D n (mem (clrB x c))).1 + D sh c,c) else acc:=by
        unfold pstep
        rw [hshe,hmc]
      rw [hpst] at hstep
      by_cases c1:acc.1 < 0
      · rw [if_pos (.inl c1)] at hstep
        simp -implicitDefEqProofs only [eq_true c1,sw0,sw1,sw2,sw3,sw4,sw5,reduceCtorEq,Nat.reduceEqDiff,Nat.reduceAdd,Nat.reduceDiv,Nat.reduceLeDiff,fq15.n9_w,fq15.n10_w,first_place (k:=k) (by omega) hy64,← hc,without_place (k:=k) (by omega) hy64 hc64]
        refine fq15.n5_go (m':=(mem (clrB y c)).length) hyl ⟨clrB y c,done ++ [c],_,l2,ver2,rfl,rfl,rfl,rfl,clrB_lt2,hdone',hstep.symm,hG2⟩
      · by_cases c2:(lv D n (mem (clrB x c))).1 + D sh c < acc.1
        · rw [if_pos (.inr c2)] at hstep
          simp -implicitDefEqProofs only [eq_false c1,eq_true c2,sw0,sw1,sw2,sw3,sw4,sw5,reduceCtorEq,Nat.reduceEqDiff,Nat.reduceAdd,Nat.reduceDiv,Nat.reduceLeDiff,fq15.n9_w,fq15.n10_w,first_place (k:=k) (by omega) hy64,← hc,without_place (k:=k) (by omega) hy64 hc64]
          refine fq15.n5_go (m':=(mem (clrB y c)).length) hyl ⟨clrB y c,done ++ [c],_,l2,ver2,rfl,rfl,rfl,rfl,clrB_lt2,hdone',hstep.symm,hG2⟩
        · rw [if_neg (by omega)] at hstep
          simp -implicitDefEqProofs only [eq_false c1,eq_false c2,sw0,sw1,sw2,sw3,sw4,sw5,reduceCtorEq,Nat.reduceEqDiff,Nat.reduceAdd,Nat.reduceDiv,Nat.reduceLeDiff,fq15.n10_w,first_place (k:=k) (by omega) hy64,← hc,without_place (k:=k) (by omega) hy64 hc64]
          refine fq15.n5_go (m':=(mem (clrB y c)).length) hyl ⟨clrB y c,done ++ [c],_,l2,ver2,rfl,rfl,rfl,rfl,clrB_lt2,hdone',hstep.symm,hG2⟩
    · rename_i hz
      have hy0:y=0:=by omega
      subst hy0
      rw [mem_zero,List.append_nil] at hdone
      rw [← hdone] at hacc
      have hpv:lv D n (mem x)=acc:=by
        rw [hacc]
        exact lv_cons hne mem_nodup mem_len
      have hupd:=upd_at key_uv (H:=H.set cm (.map shU ver1 (encE uvn l1))) (c:=cm) (ver:=ver1) (l:=l1) (hgm _) (base:=some H.length) (lk:=false) x (v:=iv acc.1) rfl
      rw [hsm] at hupd
      simp -implicitDefEqProofs only [fq15.n11_w,sw0,sw1,sw2,sw3,sw4,sw5,reduceCtorEq,Nat.reduceEqDiff,Nat.reduceAdd,Nat.reduceDiv,Nat.reduceLeDiff,hrk',hupd,fq15.ret]
      rw [List.take_of_length_le (by simp)]
      have:=hK (ver1 + 1) (ins l1 x (iv acc.1)) ⟨fun z v hz=>?_⟩
      · rw [hpv] at this
        exact this
      · rw [lkp_ins] at hz
        split at hz
        · rename_i e
          subst e
          rw [hpv]
          simpa using hz.symm
        · exact hG1.val z v hz
end Go.Proofs.YtcebebhaahpoiaaDoor
end
section
namespace Go.Proofs.YtcebebhaahpoiaaDoor
open Go Go.Ai Go.W
attribute [local irreducible] VC YC WC
set_option linter.unusedSimpArgs false
set_option linter.unusedVariables false
set_option maxRecDepth 10000
variable {k:Nat} {b:Option Nat} {H:List AObj} {lk:Bool} {K:AV→St→Prop}
def mstep (val:Nat→Int) (acc:Int × Nat) (c:Nat):Int × Nat:=if acc.1 < 0∨val c < acc.1 then (val c,c) else acc
theorem pstep_m {D f a S}:pstep D f a S=mstep (fun c=>f (wo c S) + D a c):=rfl
def firstOf (val:Nat→Int) (done:List Nat) (acc:Int × Nat):Prop :=
  (done=[]∧acc.1 < 0)∨∃ l1 l2,done=l1 ++ acc.2 :: l2∧val acc.2=acc.1∧0≤acc.1∧(∀ d,d ∈ l1→acc.1 < val d)∧(∀ d,d ∈ l2→acc.1≤val d)
theorem fold_firstOf {val:Nat→Int}:∀ (S done:List Nat) (acc:Int × Nat),(∀ c,c ∈ S→0≤val c)→firstOf val done acc→firstOf val (done ++ S) (S.foldl (mstep val) acc)
  | [],done,acc,_,h=>by rw [List.append_nil]; exact h
  | c :: S, done,acc,hv,h=>by
    rw [List.foldl_cons,show done ++ c :: S=(done ++ [c]) ++ S by simp]
    have hc:=hv c (by simp)
    refine fold_firstOf S _ _ (fun d hd=>hv d (by simp [hd])) ?_
    unfold mstep
    rcases h with ⟨rfl,h0⟩ | ⟨l1,l2,rfl,h1,h2,h3,h4⟩
    · rw [if_pos (.inl h0)]
      exact .inr ⟨[],[],rfl,rfl,hc,fun d hd=>(by cases hd),fun d hd=>(by cases hd)⟩
    · by_cases hlt:val c < acc.1
      · rw [if_pos (.inr hlt)]
        refine .inr ⟨l1 ++ acc.2 :: l2,[],by simp,rfl,hc,fun d hd=>?_,fun d hd=>(by cases hd)⟩
        dsimp only
        rcases List.mem_append.1 hd with h | h
        · have:=h3 d h; omega
        · rcases List.mem_cons.1 h with rfl | h
          · omega
          · have:=h4 d h; omega
      · rw [if_neg (by omega)]
        refine .inr ⟨l1,l2 ++ [c],by simp,h1,h2,h3,fun d hd=>?_⟩
        rcases List.mem_append.1 hd with h | h
        · exact h4 d h
        · simp -implicitDefEqProofs only [List.mem_singleton] at h
          subst h
          omega
theorem fold_first {val:Nat→Int} {S:List Nat} (hne:S ≠ []) (hv:∀ c,c ∈ S→0≤val c) {acc:Int × Nat} (he:S.foldl (mstep val) (-1,0)=acc) :
    ∃ l1 l2,S=l1 ++ acc.2 :: l2∧val acc.2=acc.1∧0≤acc.1∧(∀ d,d ∈ l1→acc.1 < val d)∧(∀ d,d ∈ l2→acc.1≤val d):=by
  have:=fold_firstOf S [] (-1,0) hv (.inl ⟨rfl,by decide⟩)
  rw [he,List.nil_append] at this
  exact this.resolve_left fun h=>hne h.1
theorem lm_pos {D:Nat→Nat→Int} {n:Nat} (hD:∀ a c,0≤D a c):∀ (r:Nat) (S:List Nat),0≤(lm D n r S).1
  | 0,S=>by simp [lm]
  | r + 1,[]=>by simp [lm]
  | r + 1,a :: S=>by
    rw [lm,pstep_m]
    obtain ⟨_,_,_,_,h,_⟩:=fold_first (val:=fun c=>(lm D n r (wo c (a :: S))).1 + D (n - (S.length + 1)) c) (S:=a :: S) (by simp) (fun c _=>by have:=lm_pos (n:=n) hD r (wo c (a :: S)); have:=hD (n - (S.length + 1)) c; omega) rfl
    exact h
theorem lv_first {D:Nat→Nat→Int} {n:Nat} (hD:∀ a c,0≤D a c) {S:List Nat} (hne:S ≠ []) (hn:S.Nodup) (hl:S.length≤64) :
    ∃ l1 l2,S=l1 ++ (lv D n S).2 :: l2∧(lv D n (wo (lv D n S).2 S)).1 + D (n - S.length) (lv D n S).2=(lv D n S).1∧(∀ d,d ∈ l1→(lv D n (wo d S)).1 + D (n - S.length) d ≠ (lv D n S).1):=by
  have h:=lv_cons (D:=D) (n:=n) hne hn hl
  rw [pstep_m] at h
  obtain ⟨l1,l2,h1,h2,_,h3,_⟩:=fold_first hne (fun c _=>by have:=lm_pos (n:=n) hD 64 (wo c S); have:=hD (n - S.length) c; unfold lv; omega) h.symm
  exact ⟨l1,l2,h1,h2,fun d hd e=>by have:=h3 d hd; omega⟩
theorem first_uniq {P:Nat→Prop}:∀ {l m r t:List Nat} {c a:Nat},l ++ c :: r=m ++ a :: t→(∀ d,d ∈ l→¬ P d)→(∀ d,d ∈ m→¬ P d)→P c→P a→c=a
  | [],[],r,t,c,a,e,_,_,_,_=>by simpa using (List.cons.inj e).1
  | [],x :: m,r,t,c,a,e,_,h2,hc,_=>by
    have:=(List.cons.inj e).1
    exact absurd (this ▸ hc) (h2 x (by simp))
  | x :: l,[],r,t,c,a,e,h1,_,_,ha=>by
    have:=(List.cons.inj e).1
    exact absurd (this.symm ▸ ha) (h1 x (by simp))
  | x :: l,y :: m,r,t,c,a,e,h1,h2,hc,ha=>first_uniq (List.cons.inj e).2 (fun d hd=>h1 d (by simp [hd])) (fun d hd=>h2 d (by simp [hd])) hc ha
def nrow (D:Nat→Nat→Int) (n:Nat):Nat→List Nat→List Int
  | 0,_=>[]
  | _ + 1,[]=>[]
  | r + 1,a :: S=>((lv D n (a :: S)).2:Int) :: nrow D n r (wo (lv D n (a :: S)).2 (a :: S))
theorem nrow_ne {D:Nat→Nat→Int} {n r:Nat} {S:List Nat} (h:S ≠ []):nrow D n (r + 1) S=((lv D n S).2:Int) :: nrow D n r (wo (lv D n S).2 S):=by
  cases S with
  | nil=>exact absurd rfl h
  | cons a S=>rfl
def cnt (rs:List (AV × List Int)) (s x:Nat):Int:=(rs.countP fun q=>decide (q.2[s]?=some (x:Int)):Nat)
theorem cnt_le {rs:List (AV × List Int)} {s x:Nat}:0≤cnt rs s x∧cnt rs s x≤rs.length:=by
  unfold cnt
  have:=List.countP_le_length (p:=fun q:AV × List Int=>decide (q.2[s]?=some (x:Int))) (l:=rs)
  omega
def nextAns (n:Int) (rs:List (AV × List Int)):List AV :=
  if rot n rs then (if rs.length=100 then [.slice true 0 [],iv 6] else [.slice false 1 ((nrow (cnt rs) n.toNat n.toNat (List.range n.toNat)).map ic),iv 0]) else [.slice true 0 [],iv 2]
theorem tab8_ext {D D':Nat→Nat→Int} (h:∀ s x,s < 8→x < 8→D s x=D' s x):tab8 D=tab8 D':=by
  unfold tab8
  refine List.map_congr_left fun i hi=>?_
  rw [List.mem_range] at hi
  rw [h _ _ (by omega) (by omega)]
theorem tab8_set {D:Nat→Nat→Int} {s x:Nat} {v:Int} (hs:s < 8) (hx:x < 8):(tab8 D).set (s * 8 + x) (iv v)=tab8 fun a c=>if a=s∧c=x then v else D a c:=by
  unfold tab8
  refine List.ext_getElem (by simp) fun i h1 h2=>?_
  simp -implicitDefEqProofs only [List.length_set,List.length_map,List.length_range] at h1
  rw [List.getElem_set]
  simp -implicitDefEqProofs only [List.getElem_map,List.getElem_range]
  by_cases e:s * 8 + x=i
  · rw [if_pos e,if_pos ⟨by omega,by omega⟩]
  · rw [if_neg e,if_neg (by omega)]
def cntT (rs:List (AV × List Int)) (l:List Int) (j s x:Nat):Int:=cnt rs s x + if s < j∧l[s]?=some (x:Int) then 1 else 0
theorem cntT_zero {rs l}:cntT rs l 0=cnt rs:=by
  funext s x
  simp [cntT]
theorem cntT_le {rs:List (AV × List Int)} {l j s x}:0≤cntT rs l j s x∧cntT rs l j s x≤rs.length + 1:=by
  have:=cnt_le (rs:=rs) (s:=s) (x:=x)
  unfold cntT
  split <;> omega
theorem cntT_full {rs:List (AV × List Int)} {q:AV × List Int} (h:q.2.length≤8):tab8 (cntT rs q.2 q.2.length)=tab8 (cnt (rs ++ [q])):=by
  refine tab8_ext fun s x hs hx=>?_
  unfold cntT cnt
  rw [List.countP_append,List.countP_singleton]
  by_cases e:q.2[s]?=some (x:Int)
  · have:s < q.2.length:=(List.getElem?_eq_some_iff.1 e).1
    simp -implicitDefEqProofs only [e,this,true_and,and_self,if_true,decide_true]
    omega
  · simp [e]
theorem cntT_step {rs:List (AV × List Int)} {l:List Int} {j x:Nat} (hj:j < 8) (hx:x < 8) (hl:l[j]?=some (x:Int)):(tab8 (cntT rs l j)).set (j * 8 + x) (iv (cntT rs l j j x + 1))=tab8 (cntT rs l (j + 1)):=by
  rw [tab8_set hj hx]
  refine tab8_ext fun s y hs hy=>?_
  unfold cntT
  by_cases e:s=j
  · subst e
    rw [hl]
    by_cases e2:y=x
    · subst e2; simp
    · have:¬ x=y:=fun e=>e2 e.symm
      have:¬ ((x:Int)=(y:Int)):=by omega
      simp [e2,this]
  · have:(s < j + 1)=(s < j):=by simp; omega
    simp [e,this]
theorem rnd_at {n:Int} {l:List Int} (h:rnd n l=true):(∀ x,x ∈ l→0≤x∧x≤n - 1)∧l.Nodup∧(l.length:Int)=n:=of_decide_eq_true h
theorem Next_s (hk:1700≤k) {v:AV} {n:Int} {rs:List (AV × List Int)} (hs:RD H v rs) (hl:rs.length≤1000) (hw:∀ q,q ∈ rs→q.2.length≤500) :
    VC ⟨prog,k,b⟩ F_fq14 [iv n,v] ⟨H,lk⟩ K=K (.tup (nextAns n rs)) ⟨H,lk⟩:=by
  obtain ⟨k,rfl⟩:∃ j,k=j + 1:=⟨k - 1,by omega⟩
  apply VC_iff
  apply fq14.enter
  have hcr:=fun (K:AV→St→Prop)=>CheckRotation_s (K:=K) (k:=k) (b:=some H.length) (lk:=false) (n:=n) (by omega) hs hl hw
  cases hr:rot n rs
  · rw [hr] at hcr
    have hans:nextAns n rs=[.slice true 0 [],iv 2]:=by unfold nextAns; rw [hr]; rfl
    simp -implicitDefEqProofs only [fq14.n0_w,sw0,sw1,sw2,sw3,sw4,sw5,reduceCtorEq,Nat.reduceEqDiff,Nat.reduceAdd,Nat.reduceDiv,Nat.reduceLeDiff,hcr,fq14.n1_w,fq14.ret,hans]
  rw [hr] at hcr
  by_cases c1:(rs.length:Int)=100
  · have hans:nextAns n rs=[.slice true 0 [],iv 6]:=by unfold nextAns; rw [hr,if_pos rfl,if_pos (by omega)]
    simp -implicitDefEqProofs only [fq14.n0_w,sw0,sw1,sw2,sw3,sw4,sw5,reduceCtorEq,Nat.reduceEqDiff,Nat.reduceAdd,Nat.reduceDiv,Nat.reduceLeDiff,hcr,fq14.n2_w,hs.sl.len,eq_true c1,fq14.n3_w,fq14.ret,hans]
  obtain ⟨hn18,hall⟩:(1≤n∧n≤8)∧∀ q,q ∈ rs→rnd n q.2=true:=by
    unfold rot at hr
    simp -implicitDefEqProofs only [Bool.and_eq_true,decide_eq_true_eq,List.all_eq_true] at hr
    exact ⟨hr.1.1,hr.2⟩
  have hl100:rs.length≤100:=by
    unfold rot at hr
    simp -implicitDefEqProofs only [Bool.and_eq_true,decide_eq_true_eq,List.all_eq_true] at hr
    exact hr.1.2
  obtain ⟨w,rfl⟩:=Int.eq_ofNat_of_zero_le (show 0≤n by omega)
  have hans:nextAns w rs=[.slice false 1 ((nrow (cnt rs) w w (List.range w)).map ic),iv 0]:=by unfold nextAns; rw [hr,if_pos rfl,if_neg (by omega),Int.toNat_natCast]
  have h00:tab8 (cnt ([]:List (AV × List Int)))=[iv 0,iv 0,iv 0,iv 0,iv 0,iv 0,iv 0,iv 0,iv 0,iv 0,iv 0,iv 0,iv 0,iv 0,iv 0,iv 0,iv 0,iv 0,iv 0,iv 0,iv 0,iv 0,iv 0,iv 0,iv 0,iv 0,iv 0,iv 0,iv 0,iv 0,iv 0,iv 0,iv 0,iv 0,iv 0,iv 0,iv 0,iv 0,iv 0,iv 0,iv 0,iv 0,iv 0,iv 0,iv 0,iv 0,iv 0,iv 0,iv 0,iv 0,iv 0,iv 0,iv 0,iv 0,iv 0,iv 0,iv 0,iv 0,iv 0,iv 0,iv 0,iv 0,iv 0,iv 0]:=by rfl
  simp -implicitDefEqProofs only [fq14.n0_w,sw0,sw1,sw2,sw3,sw4,sw5,reduceCtorEq,Nat.reduceEqDiff,Nat.reduceAdd,Nat.reduceDiv,Nat.reduceLeDiff,hcr,fq14.n2_w,hs.sl.len,eq_false c1,fq14.n4_w]
  rw [← h00]
  refine fq14.n5_l (fun m r7 s=>∃ i:Nat,r7=iv i∧s=⟨H ++ [.cells (tab8 (cnt (rs.take i)))],false⟩∧m=rs.length - i∧i≤rs.length) rs.length (by simp -implicitDefEqProofs only []; omega) ⟨0,rfl,rfl,rfl,by omega⟩ ?_
  rintro m r7 r8 r12 r13 r14 r15 r16 s ⟨i,rfl,rfl,rfl,hi⟩
  have hsl:=hs.sl.app (L:=[.cells (tab8 (cnt (rs.take i)))])
  simp -implicitDefEqProofs only [fq14.n6_w,sw0,sw1,sw2,sw3,sw4,sw5,reduceCtorEq,Nat.reduceEqDiff,Nat.reduceAdd,Nat.reduceDiv,Nat.reduceLeDiff]
  split
  · rename_i hlt
    have hlt:i < rs.length:=by omega
    obtain ⟨q,hq⟩:∃ q,q=rs[i]:=⟨_,rfl⟩
    have hqm:q ∈ rs:=by rw [hq]; exact List.getElem_mem hlt
    have htk:rs.take (i + 1)=rs.take i ++ [q]:=by rw [hq]; exact (List.take_append_getElem hlt).symm
    obtain ⟨hq1,hq2,hq3⟩:=rnd_at (hall q hqm)
    have hld:=hsl.ld hlt (show 0 < 1 by omega)
    rw [← hq] at hld
    have hqs:=(hs.row q hqm).app (L:=[.cells (tab8 (cnt (rs.take i)))])
    have hti:(rs.take i).length=i:=by rw [List.length_take]; omega
    simp -implicitDefEqProofs only [fq14.n8_w,sw0,sw1,sw2,sw3,sw4,sw5,reduceCtorEq,Nat.reduceEqDiff,Nat.reduceAdd,Nat.reduceDiv,Nat.reduceLeDiff,hsl.at,hlt,hld,rc,hqs.len]
    refine fq14.n9_l (fun m r8 s=>∃ j:Nat,r8=iv j∧s=⟨H ++ [.cells (tab8 (cntT (rs.take i) q.2 j))],false⟩∧m=q.2.length - j∧j≤q.2.length) q.2.length (by simp -implicitDefEqProofs only []; omega) ⟨0,rfl,by rw [cntT_zero],rfl,by omega⟩ ?_
    rintro m r8 r14 r15 r16 s ⟨j,rfl,rfl,rfl,hj⟩
    simp -implicitDefEqProofs only [fq14.n10_w,sw0,sw1,sw2,sw3,sw4,sw5,reduceCtorEq,Nat.reduceEqDiff,Nat.reduceAdd,Nat.reduceDiv,Nat.reduceLeDiff]
    split
    · rename_i hltj
      have hltj:j < q.2.length:=by omega
      have hqs':=(hs.row q hqm).app (L:=[.cells (tab8 (cntT (rs.take i) q.2 j))])
      obtain ⟨x,hx⟩:=Int.eq_ofNat_of_zero_le (hq1 _ (List.getElem_mem hltj)).1
      have hx8:x < 8:=by have:=(hq1 _ (List.getElem_mem hltj)).2; omega
      have hj8:j < 8:=by omega
      have hldx:=hqs'.ld hltj hqs'.pos
      rw [hx] at hldx
      have hlx:q.2[j]?=some (x:Int):=by rw [List.getElem?_eq_getElem hltj,hx]
      have hrow:row (H ++ [.cells (tab8 (cntT (rs.take i) q.2 j))]) H.length 64=some (tab8 (cntT (rs.take i) q.2 j)):=by simp -implicitDefEqProofs only [sw0,sw1,sw2,sw3,sw4,sw5,reduceCtorEq,Nat.reduceEqDiff,Nat.reduceAdd,Nat.reduceDiv,Nat.reduceLeDiff,row_hd,tab8_len]
      have hta:(tab8 (cntT (rs.take i) q.2 j))[j * 8 + x * 1]?=some (iv (cntT (rs.take i) q.2 j j x)):=by rw [Nat.mul_one]; exact tab8_at hj8 hx8
      have hb:=cntT_le (rs:=rs.take i) (l:=q.2) (j:=j) (s:=j) (x:=x)
      have hst:=cntT_step (rs:=rs.take i) hj8 hx8 hlx
      have hle:j * 8 + x * 1 + 1≤(tab8 (cntT (rs.take i) q.2 j)).length:=by rw [tab8_len]; omega
      have hst':(tab8 (cntT (rs.take i) q.2 j)).set (j * 8 + x * 1) (iv (cntT (rs.take i) q.2 j j x + 1))=tab8 (cntT (rs.take i) q.2 (j + 1)):=by rw [Nat.mul_one]; exact hst
      simp -implicitDefEqProofs only [fq14.n12_w,sw0,sw1,sw2,sw3,sw4,sw5,reduceCtorEq,Nat.reduceEqDiff,Nat.reduceAdd,Nat.reduceDiv,Nat.reduceLeDiff,hqs'.at,hltj,hldx,ic,idx_i,hj8,hx8,hrow,hta,hle]
      rw [wrap64 (n:=cntT (rs.take i) q.2 j j x + 1) (by omega)]
      simp -implicitDefEqProofs only [sw0,sw1,sw2,sw3,sw4,sw5,reduceCtorEq,Nat.reduceEqDiff,Nat.reduceAdd,Nat.reduceDiv,Nat.reduceLeDiff,hst',hle]
      refine fq14.n9_go (m':=q.2.length - (j + 1)) (by omega) ⟨j + 1,by rw [wrap64 (by omega)]; rfl,rfl,rfl,by omega⟩
    · rename_i hgej
      have hje:j=q.2.length:=by omega
      subst hje
      rw [cntT_full (by omega),← htk]
      simp -implicitDefEqProofs only [sw0,sw1,sw2,sw3,sw4,sw5,reduceCtorEq,Nat.reduceEqDiff,Nat.reduceAdd,Nat.reduceDiv,Nat.reduceLeDiff,fq14.n13_w]
      refine fq14.n5_go (m':=rs.length - (i + 1)) (by omega) ⟨i + 1,by rw [wrap64 (by omega)]; rfl,rfl,rfl,by omega⟩
  · rename_i hge
    rw [List.take_of_length_le (show rs.length≤i by omega)]
    simp -implicitDefEqProofs only [sw0,sw1,sw2,sw3,sw4,sw5,reduceCtorEq,Nat.reduceEqDiff,Nat.reduceAdd,Nat.reduceDiv,Nat.reduceLeDiff,fq14.n14_w]
    have hneg:¬ ((w:Int) < 0):=by omega
    have hpw:2 ^ w≤2 ^ 8:=Nat.pow_le_pow_right (by omega) (by omega)
    have hpw1:0 < 2 ^ w:=Nat.two_pow_pos _
    have e2:(1:Int) * 2 ^ min w IntKind.u64.bits=((2 ^ w:Nat):Int):=by
      rw [show IntKind.u64.bits=64 from rfl,Nat.min_eq_left (by omega)]; simp
    have hneg2:((2 ^ w:Nat):Int) - 1=((2 ^ w - 1:Nat):Int):=by omega
    simp -implicitDefEqProofs only [sw0,sw1,sw2,sw3,sw4,sw5,reduceCtorEq,Nat.reduceEqDiff,Nat.reduceAdd,Nat.reduceDiv,Nat.reduceLeDiff,hneg,Int.toNat_natCast,e2,wrapu (show 2 ^ w < 18446744073709551616 by omega)]
    rw [hneg2,wrapu (by omega)]
    obtain ⟨D,hDd⟩:∃ D,D=cnt rs:=⟨_,rfl⟩
    have hD:∀ a c,0≤D a c∧D a c≤1000:=fun a c=>by have:=cnt_le (rs:=rs) (s:=a) (x:=c); rw [hDd]; omega
    have hw8:w≤8:=by omega
    rw [← hDd] at hans ⊢
    refine fq14.n15_l (fun m r4 r5 r9 s=>∃ (sh x:Nat) (xs:List Int) (ver:Nat) (l:List (Nat × AV)),r4=uv x∧r5=.sref (H.length + 4) 0 xs.length (xs.length * 1) 1∧r9=iv sh∧s=⟨H ++ [.cells (tab8 D),.map shU ver (encE uvn l),.cells [.map (H.length + 1)],.cells [.fn F_fq15 [.ptr (H.length + 2) 0 1,.ptr (H.length + 3) 0 1,.ptr H.length 0 64]],.cells (xs.map ic).flatten],false⟩ ∧
      m=w - sh∧sh + (mem x).length=w∧x < 2 ^ w∧LG D w l∧xs ++ nrow D w (w - sh) (mem x)=nrow D w w (List.range w)∧xs.length=sh) w (by simp -implicitDefEqProofs only []; omega)
      ⟨0,2 ^ w - 1,[],0,[],rfl,rfl,rfl,rfl,rfl,by rw [mem_full (by omega),List.length_range]; omega,by omega,⟨fun x v hx=>by cases hx⟩,by rw [mem_full (by omega)]; rfl,rfl⟩ ?_
    rintro m r4 r5 r6 r9 r11 r12 r13 r14 r15 r16 r17 r18 r19 r20 r21 r22 r23 r24 r25 r26 r27 s ⟨sh,x,xs,ver,l,rfl,rfl,rfl,rfl,rfl,hsh,hx,hG,hxs,hxl⟩
    simp -implicitDefEqProofs only [fq14.n16_w,sw0,sw1,sw2,sw3,sw4,sw5,reduceCtorEq,Nat.reduceEqDiff,Nat.reduceAdd,Nat.reduceDiv,Nat.reduceLeDiff]
    split
    · rename_i hlt2
      have hlt2:sh < w:=by omega
      have hx64:x < 18446744073709551616:=by
        have:=Nat.pow_le_pow_right (show 0 < 2 by omega) hw8
        omega
      have hne:mem x ≠ []:=fun e=>by rw [e] at hsh; simp at hsh; omega
      have hF:∀ ver l ys,NF (H ++ [.cells (tab8 D),.map shU ver (encE uvn l),.cells [.map (H.length + 1)],.cells [.fn F_fq15 [.ptr (H.length + 2) 0 1,.ptr (H.length + 3) 0 1,.ptr H.length 0 64]],.cells ys]) (H.length + 2) (H.length + 3) H.length (H.length + 1) D:=fun ver l ys =>
        ⟨by simp -implicitDefEqProofs only [sw0,sw1,sw2,sw3,sw4,sw5,reduceCtorEq,Nat.reduceEqDiff,Nat.reduceAdd,Nat.reduceDiv,Nat.reduceLeDiff],by simp -implicitDefEqProofs only [sw0,sw1,sw2,sw3,sw4,sw5,reduceCtorEq,Nat.reduceEqDiff,Nat.reduceAdd,Nat.reduceDiv,Nat.reduceLeDiff],by simp -implicitDefEqProofs only [sw0,sw1,sw2,sw3,sw4,sw5,reduceCtorEq,Nat.reduceEqDiff,Nat.reduceAdd,Nat.reduceDiv,Nat.reduceLeDiff]⟩
      have hrow:∀ ver l ys,row (H ++ [.cells (tab8 D),.map shU ver (encE uvn l),.cells [.map (H.length + 1)],.cells [.fn F_fq15 [.ptr (H.length + 2) 0 1,.ptr (H.length + 3) 0 1,.ptr H.length 0 64]],.cells ys]) H.length 64=some (tab8 D):=fun ver l ys=>row_of (hF ver l ys).u tab8_len
      simp -implicitDefEqProofs only [fq14.n18_w,sw0,sw1,sw2,sw3,sw4,sw5,reduceCtorEq,Nat.reduceEqDiff,Nat.reduceAdd,Nat.reduceDiv,Nat.reduceLeDiff,VV_fn]
      refine least_s hD hw8 64 (k:=k) (by omega) hx mem_len hsh (hF _ _ _) (ver:=ver) (l:=l) (by simp -implicitDefEqProofs only [sw0,sw1,sw2,sw3,sw4,sw5,reduceCtorEq,Nat.reduceEqDiff,Nat.reduceAdd,Nat.reduceDiv,Nat.reduceLeDiff]) hG ?_
      intro ver1 l1 hG1
      obtain ⟨want,hwant⟩:∃ z,z=(lv D w (mem x)).1:=⟨_,rfl⟩
      obtain ⟨m1,m2,hsp,hval,hbef⟩:=lv_first (D:=D) (n:=w) (fun a c=>(hD a c).1) hne mem_nodup mem_len
      have hshe:w - (mem x).length=sh:=by omega
      rw [hshe] at hval hbef
      rw [← hwant] at hval hbef ⊢
      simp -implicitDefEqProofs only [sw0,sw1,sw2,sw3,sw4,sw5,reduceCtorEq,Nat.reduceEqDiff,Nat.reduceAdd,Nat.reduceDiv,Nat.reduceLeDiff]
      refine fq14.n19_l (fun m r4 r5 r6 r11 s=>∃ (y:Nat) (done:List Nat) (ver:Nat) (l:List (Nat × AV)),r4=uv x∧r5=.sref (H.length + 4) 0 xs.length (xs.length * 1) 1∧r6=uv y∧r11=iv want∧s=⟨H ++ [.cells (tab8 D),.map shU ver (encE uvn l),.cells [.map (H.length + 1)],.cells [.fn F_fq15 [.ptr (H.length + 2) 0 1,.ptr (H.length + 3) 0 1,.ptr H.length 0 64]],.cells (xs.map ic).flatten],false⟩ ∧
        m=(mem y).length∧y < 18446744073709551616∧mem x=done ++ mem y∧LG D w l∧(∀ d,d ∈ done→(lv D w (wo d (mem x))).1 + D sh d ≠ want)) (mem x).length (by simp -implicitDefEqProofs only []; omega)
        ⟨x,[],ver1,l1,rfl,rfl,rfl,rfl,rfl,rfl,hx64,rfl,hG1,fun d hd=>by cases hd⟩ ?_
      rintro m r4 r5 r6 r11 r12 r13 r14 r15 r16 r17 r18 r19 r20 r21 r22 r23 r24 r25 r26 r27 s ⟨y,done,ver2,l2,rfl,rfl,rfl,rfl,rfl,rfl,hy64,hdone,hG2,hno⟩
      simp -implicitDefEqProofs only [fq14.n20_w,sw0,sw1,sw2,sw3,sw4,sw5,reduceCtorEq,Nat.reduceEqDiff,Nat.reduceAdd,Nat.reduceDiv,Nat.reduceLeDiff]
      split
      · rename_i hney
        have hy0:y ≠ 0:=by omega
        obtain ⟨hc64,hmy⟩:=mem_first hy0 hy64
        obtain ⟨c,hc⟩:∃ c,c=ctzN 64 y:=⟨_,rfl⟩
        rw [← hc] at hc64 hmy
        have hcx:c ∈ mem x:=by rw [hdone,hmy]; simp
        have hcn:=mem_bound hx hcx
        have hcxx:clrB x c < x:=clrB_lt hx64 (mem_iff.1 hcx).2
        have hmc:=mem_clr (i:=c) hx64
        have hwl:=wo_len mem_nodup hcx
        have hws:IntKind.i64.wrap ((sh:Int) + 1)=((sh + 1:Nat):Int):=by rw [wrap64 (by omega)]; rfl
        simp -implicitDefEqProofs only [fq14.n22_w,sw0,sw1,sw2,sw3,sw4,sw5,reduceCtorEq,Nat.reduceEqDiff,Nat.reduceAdd,Nat.reduceDiv,Nat.reduceLeDiff,first_place (k:=k) (by omega) hy64,← hc,without_place (k:=k) (by omega) hx64 hc64,VV_fn,hws]
        refine least_s hD hw8 64 (k:=k) (by omega) (x:=clrB x c) (sh:=sh + 1) (by omega) mem_len (by rw [hmc]; omega) (hF _ _ _) (ver:=ver2) (l:=l2) (by simp -implicitDefEqProofs only [sw0,sw1,sw2,sw3,sw4,sw5,reduceCtorEq,Nat.reduceEqDiff,Nat.reduceAdd,Nat.reduceDiv,Nat.reduceLeDiff]) hG2 ?_
        intro ver3 l3 hG3
        have hpvb:=lm_le (n:=w) hD 64 (mem (clrB x c))
        have hpvb:-1≤(lv D w (mem (clrB x c))).1∧(lv D w (mem (clrB x c))).1≤64000:=by unfold lv; omega
        have hdl:=hD sh c
        have hw3:=wrap64 (n:=(lv D w (mem (clrB x c))).1 + D sh c) (by omega)
        have hta:(tab8 D)[sh * 8 + c * 1]?=some (iv (D sh c)):=by rw [Nat.mul_one]; exact tab8_at (by omega) (by omega)
        have hc8:c < 8:=by omega
        have hsh8:sh < 8:=by omega
        have hmyc:=mem_clr (i:=c) hy64
        have hyl:(mem (clrB y c)).length < (mem y).length:=by rw [hmy]; simp
        have hdone':mem x=(done ++ [c]) ++ mem (clrB y c):=by rw [hdone,hmy]; simp
        rw [hmc] at hw3 ⊢
        by_cases ce:(lv D w (wo c (mem x))).1 + D sh c=want
        ·
          have hcm:c=(lv D w (mem x)).2:=by
            have h1:mem x=done ++ c :: mem (clrB y c):=by rw [hdone,hmy]
            exact first_uniq (P:=fun d=>(lv D w (wo d (mem x))).1 + D sh d=want) (h1.symm.trans hsp) hno hbef ce hval
          rw [ce] at hw3
          have happ:=app_own (base:=some H.length) (lk:=false) (fl:=true) (bytes:=8) (xs:=xs) (x:=(c:Int)) (H:=H ++ [.cells (tab8 D),.map shU ver3 (encE uvn l3),.cells [.map (H.length + 1)],.cells [.fn F_fq15 [.ptr (H.length + 2) 0 1,.ptr (H.length + 3) 0 1,.ptr H.length 0 64]],.cells (xs.map ic).flatten]) (c:=H.length + 4) Nat.one_pos ic_len (ic_one _) (ic_clean _) rfl (by simp -implicitDefEqProofs only [sw0,sw1,sw2,sw3,sw4,sw5,reduceCtorEq,Nat.reduceEqDiff,Nat.reduceAdd,Nat.reduceDiv,Nat.reduceLeDiff,row_hd,ic_flat,Nat.mul_one]) (by omega)
          simp -implicitDefEqProofs only [ic] at happ
          simp -implicitDefEqProofs only [sw0,sw1,sw2,sw3,sw4,sw5,reduceCtorEq,Nat.reduceEqDiff,Nat.reduceAdd,Nat.reduceDiv,Nat.reduceLeDiff,hrow,tab8_len,idx_i,hsh8,hc8,hta,ce,hw3,fq14.n23_w,happ,without_place (k:=k) (by omega) hx64 hc64,fq14.n25_w]
          refine fq14.n15_go (m':=w - (sh + 1)) (by omega) ⟨sh + 1,clrB x c,xs ++ [(c:Int)],ver3,l3,rfl,by simp,by rw [hws],rfl,rfl,by rw [hmc]; omega,by omega,hG3,?_,by simp [hxl]⟩
          rw [← hxs,show w - sh=(w - (sh + 1)) + 1 by omega,nrow_ne hne,← hcm,hmc]
          simp
        · simp -implicitDefEqProofs only [sw0,sw1,sw2,sw3,sw4,sw5,reduceCtorEq,Nat.reduceEqDiff,Nat.reduceAdd,Nat.reduceDiv,Nat.reduceLeDiff,hrow,tab8_len,idx_i,hsh8,hc8,hta,hw3,eq_false ce,fq14.n24_w,first_place (k:=k) (by omega) hy64,← hc,without_place (k:=k) (by omega) hy64 hc64]
          refine fq14.n19_go (m':=(mem (clrB y c)).length) hyl ⟨clrB y c,done ++ [c],ver3,l3,rfl,rfl,rfl,rfl,rfl,rfl,clrB_lt2,hdone',hG3,?_⟩
          intro d hd
          rcases List.mem_append.1 hd with h | h
          · exact hno d h
          · simp -implicitDefEqProofs only [List.mem_singleton] at h
            subst h
            exact ce
      · rename_i hzy
        have hy0:y=0:=by omega
        subst hy0
        rw [mem_zero,List.append_nil] at hdone
        refine absurd hval (hno _ ?_)
        rw [← hdone]
        have:(lv D w (mem x)).2 ∈ m1 ++ (lv D w (mem x)).2 :: m2:=by simp
        rw [← hsp] at this
        exact this
    · rename_i hge2
      have hxe:sh=w:=by omega
      rw [hxe,Nat.sub_self] at hxs
      simp -implicitDefEqProofs only [nrow,List.append_nil] at hxs
      subst hxs
      have hfz:=fz_own (m:=H.length) (f:=ic) (xs:=nrow D w w (List.range w)) (c:=H.length + 4) (H:=H ++ [.cells (tab8 D),.map shU ver (encE uvn l),.cells [.map (H.length + 1)],.cells [.fn F_fq15 [.ptr (H.length + 2) 0 1,.ptr (H.length + 3) 0 1,.ptr H.length 0 64]],.cells ((nrow D w w (List.range w)).map ic).flatten]) Nat.one_pos ic_len ic_clean rfl (by simp -implicitDefEqProofs only [sw0,sw1,sw2,sw3,sw4,sw5,reduceCtorEq,Nat.reduceEqDiff,Nat.reduceAdd,Nat.reduceDiv,Nat.reduceLeDiff,row_hd,ic_flat,Nat.mul_one]) (by omega)
      simp -implicitDefEqProofs only [fq14.n26_w,sw0,sw1,sw2,sw3,sw4,sw5,reduceCtorEq,Nat.reduceEqDiff,Nat.reduceAdd,Nat.reduceDiv,Nat.reduceLeDiff,fq14.ret,hfz,hans]
end Go.Proofs.YtcebebhaahpoiaaDoor
end
section
namespace Go.Proofs.YtcebebhaahpoiaaDoor
open Go Go.Ai Go.W
attribute [local irreducible] VC YC WC
set_option linter.unusedSimpArgs false
set_option linter.unusedVariables false
set_option maxRecDepth 10000
variable {k:Nat} {b:Option Nat} {H:List AObj} {lk:Bool} {K:AV→St→Prop}
abbrev jc (q:Int × Int × Int):List AV:=[iv q.1,iv q.2.1,iv q.2.2]
theorem jc_len (q:Int × Int × Int):(jc q).length=3:=rfl
def jobOk (q:Int × Int × Int):Bool:=decide (0≤q.1∧q.1≤7) && decide (0≤q.2.1∧q.2.1≤499) && decide (q.2.1 + 1≤q.2.2∧q.2.2≤500)
theorem CheckJobs_1_s (hk:10≤k) {q:Int × Int × Int}:VC ⟨prog,k,b⟩ F_fq4 [.agg (jc q)] ⟨H,lk⟩ K=K (.bool (!jobOk q)) ⟨H,lk⟩:=by
  obtain ⟨k,rfl⟩:∃ j,k=j + 1:=⟨k - 1,by omega⟩
  apply VC_iff
  apply fq4.enter
  by_cases c1:0≤q.1∧q.1≤7
  · by_cases c2:0≤q.2.1∧q.2.1≤499
    · have hw:=wrap64 (n:=q.2.1 + 1) (by omega)
      simp -implicitDefEqProofs only [fq4.n0_w,sw0,sw1,sw2,sw3,sw4,sw5,reduceCtorEq,Nat.reduceEqDiff,Nat.reduceAdd,Nat.reduceDiv,Nat.reduceLeDiff,jc,within_s (k:=k) (by omega),eq_true c1,eq_true c2,hw,fq4.ret,jobOk]
    · simp -implicitDefEqProofs only [fq4.n0_w,sw0,sw1,sw2,sw3,sw4,sw5,reduceCtorEq,Nat.reduceEqDiff,Nat.reduceAdd,Nat.reduceDiv,Nat.reduceLeDiff,jc,within_s (k:=k) (by omega),eq_true c1,eq_false c2,fq4.ret,jobOk]
  · simp -implicitDefEqProofs only [fq4.n0_w,sw0,sw1,sw2,sw3,sw4,sw5,reduceCtorEq,Nat.reduceEqDiff,Nat.reduceAdd,Nat.reduceDiv,Nat.reduceLeDiff,jc,within_s (k:=k) (by omega),eq_false c1,fq4.ret,jobOk]
theorem CheckJobs_s (hk:1100≤k) {v:AV} {qs:List (Int × Int × Int)} (hs:Sl H 3 jc v qs) (hl:qs.length≤1000) :
    VC ⟨prog,k,b⟩ F_fq3 [v] ⟨H,lk⟩ K=K (.bool (decide (qs.length≤200) && qs.all jobOk)) ⟨H,lk⟩:=by
  obtain ⟨k,rfl⟩:∃ j,k=j + 1:=⟨k - 1,by omega⟩
  apply VC_iff
  apply fq3.enter
  have hcf:=fun (K:AV→St→Prop)=>ContainsFunc_Job (K:=K) (k:=k) (b:=some H.length) (lk:=false) (by omega) (f:=F_fq4) (caps:=[]) hs hl (vl:=fun q=>.agg (jc q)) (fun x=>rfl) (p:=fun q=>!jobOk q) (fun x hx b lk K=>CheckJobs_1_s (k:=k - 2) (by omega))
  have hany:qs.any (fun q=>!jobOk q)=!qs.all jobOk:=by rw [List.all_eq_not_any_not,Bool.not_not]
  simp -implicitDefEqProofs only [hany] at hcf
  by_cases c1:(qs.length:Int)≤200
  · have c1':decide (qs.length≤200)=true:=decide_eq_true (by omega)
    simp -implicitDefEqProofs only [fq3.n0_w,sw0,sw1,sw2,sw3,sw4,sw5,reduceCtorEq,Nat.reduceEqDiff,Nat.reduceAdd,Nat.reduceDiv,Nat.reduceLeDiff,hs.len,eq_true c1,hcf,c1',Bool.not_not,fq3.ret]
  · have c1':decide (qs.length≤200)=false:=decide_eq_false (by omega)
    simp -implicitDefEqProofs only [fq3.n0_w,sw0,sw1,sw2,sw3,sw4,sw5,reduceCtorEq,Nat.reduceEqDiff,Nat.reduceAdd,Nat.reduceDiv,Nat.reduceLeDiff,hs.len,eq_false c1,c1',fq3.ret]
theorem asked_s (hk:1110≤k) {v:AV} {c:Int} {qs:List (Int × Int × Int)} (hs:Sl H 3 jc v qs) (hl:qs.length≤1000) :
    VC ⟨prog,k,b⟩ F_fq18 [v,iv c] ⟨H,lk⟩ K=K (iv (if (decide (qs.length≤200) && qs.all jobOk)=true then if 1≤c∧c≤8 then 0 else 4 else 2)) ⟨H,lk⟩:=by
  obtain ⟨k,rfl⟩:∃ j,k=j + 1:=⟨k - 1,by omega⟩
  apply VC_iff
  apply fq18.enter
  cases h:(decide (qs.length≤200) && qs.all jobOk)
  · simp -implicitDefEqProofs only [fq18.n0_w,sw0,sw1,sw2,sw3,sw4,sw5,reduceCtorEq,Nat.reduceEqDiff,Nat.reduceAdd,Nat.reduceDiv,Nat.reduceLeDiff,CheckJobs_s (k:=k) (by omega) hs hl,h,fq18.n1_w,fq18.ret]
  · by_cases c1:1≤c∧c≤8
    · simp -implicitDefEqProofs only [fq18.n0_w,sw0,sw1,sw2,sw3,sw4,sw5,reduceCtorEq,Nat.reduceEqDiff,Nat.reduceAdd,Nat.reduceDiv,Nat.reduceLeDiff,CheckJobs_s (k:=k) (by omega) hs hl,h,fq18.n2_w,within_s (k:=k) (by omega),eq_true c1,fq18.n4_w,fq18.ret]
    · simp -implicitDefEqProofs only [fq18.n0_w,sw0,sw1,sw2,sw3,sw4,sw5,reduceCtorEq,Nat.reduceEqDiff,Nat.reduceAdd,Nat.reduceDiv,Nat.reduceLeDiff,CheckJobs_s (k:=k) (by omega) hs hl,h,fq18.n2_w,within_s (k:=k) (by omega),eq_false c1,fq18.n3_w,fq18.ret]
def jB:List (Int × Int × Int):=[(0,0,1),(1,0,1)]
abbrev vB:AV:=.slice true 3 [[iv 0,iv 0,iv 1],[iv 1,iv 0,iv 1]]
theorem vB_sl:Sl H 3 jc vB jB:=Sl.lit (by omega) jc_len rfl
theorem Crowd_n6 {E:Env} {r0 r1 r2 r3 r4 r5 r6 r7 r8 r9 r10 r11 r12:AV} {s:St} {Q:AExit→Regs→St→Prop}:WC E fq9.n6 [r0,r1,r2,r3,r4,r5,r6,r7,r8,r9,r10,r11,r12] s Q=(oM (vLen false r0) fun v1=>(sK (WC E (.block 2 fq9.n7)) (sK (WC E fq9.n13) (bK 1 (sK (WC E fq9.n20) Q)))) .normal [r0,r1,r2,r3,r4,r5,r6,r7,iv 0,(.ptr s.heap.length 0 501),v1,r11,r12] (push s (.cells (List.replicate 501 (iv 0))))):=by
  rw [fq9.n6_w]; rfl
theorem Crowd_n3 {k:Nat} {b:Option Nat} {ρ s Q}:WC ⟨prog,k,b⟩ fq9.n3 ρ s Q=wLoop (WC ⟨prog,k,b⟩ fq9.n4) k ρ s Q:=WC_lp
theorem Crowd_n7 {k:Nat} {b:Option Nat} {ρ s Q}:WC ⟨prog,k,b⟩ fq9.n7 ρ s Q=wLoop (WC ⟨prog,k,b⟩ fq9.n8) k ρ s Q:=WC_lp
theorem Crowd_n14 {k:Nat} {b:Option Nat} {ρ s Q}:WC ⟨prog,k,b⟩ fq9.n14 ρ s Q=wLoop (WC ⟨prog,k,b⟩ fq9.n15) k ρ s Q:=WC_lp
theorem CrowdB (hk:1200≤k):VC ⟨prog,k,b⟩ F_fq9 [vB,iv 1] ⟨H,lk⟩ K=K (.tup [iv 0,iv 1,iv 0]) ⟨H,lk⟩:=by
  obtain ⟨k,rfl⟩:∃ j,k=j + 1:=⟨k - 1,by omega⟩
  apply VC_iff
  apply fq9.enter
  have hjb:(decide (jB.length≤200) && jB.all jobOk)=true:=by decide
  have h11:((1:Int)≤1∧(1:Int)≤8)=True:=by simp
  have hask:=fun (K:AV→St→Prop)=>asked_s (K:=K) (k:=k) (b:=some H.length) (lk:=false) (by omega) (H:=H) vB_sl (c:=1) (by decide)
  simp -implicitDefEqProofs only [hjb,if_true,h11] at hask
  obtain ⟨k,rfl⟩:∃ j,k=j + 100:=⟨k - 100,by omega⟩
  obtain ⟨Z,hZ⟩:∃ Z,Z=List.replicate 501 (iv 0):=⟨_,rfl⟩
  have hZl:Z.length=501:=by rw [hZ,List.length_replicate]
  have hZ1:Z[1]?=some (iv 0):=by rw [hZ]; rfl
  simp -implicitDefEqProofs only [fq9.n0_w,wl_s,sw0,sw1,sw2,sw3,sw4,sw5,reduceCtorEq,Nat.reduceEqDiff,Nat.reduceAdd,Nat.reduceDiv,Nat.reduceLeDiff,dw0,Int.reduceAdd,Int.reduceSub,Int.reduceMul,Int.reduceLT,Int.reduceLE,Int.reduceNeg,Int.reduceEq,Int.reduceToNat,Nat.reduceLT,Nat.reduceMul,Nat.reduceSub,Nat.reduceBEq,Nat.reduceLeDiff,hask,fq9.n2_w,Crowd_n3,fq9.n4_w,Crowd_n6,← hZ,Crowd_n7,fq9.n8_w]
  simp -implicitDefEqProofs only [sw0,sw1,sw2,sw3,sw4,sw5,reduceCtorEq,Nat.reduceEqDiff,Nat.reduceAdd,Nat.reduceDiv,Nat.reduceLeDiff,dw0,Int.reduceAdd,Int.reduceSub,Int.reduceMul,Int.reduceLT,Int.reduceLE,Int.reduceNeg,Int.reduceEq,Int.reduceToNat,Nat.reduceLT,Nat.reduceMul,Nat.reduceSub,Nat.reduceBEq,Nat.reduceLeDiff,iaddr_slice,hZl,hZ1,row_hd,fq9.n10_w,fq9.n11_w,fq9.n12_w,fq9.n13_w,Crowd_n14,fq9.n15_w,fq9.n17_w,fq9.n18_w,fq9.n9_w,hZl,hZ1,row_hd,List.getElem?_set_self,fq9.ret]
  simp -implicitDefEqProofs only [wl_s,fq9.n8_w]
  simp -implicitDefEqProofs only [sw0,sw1,sw2,sw3,sw4,sw5,reduceCtorEq,Nat.reduceEqDiff,Nat.reduceAdd,Nat.reduceDiv,Nat.reduceLeDiff,dw0,Int.reduceAdd,Int.reduceSub,Int.reduceMul,Int.reduceLT,Int.reduceLE,Int.reduceNeg,Int.reduceEq,Int.reduceToNat,Nat.reduceLT,Nat.reduceMul,Nat.reduceSub,Nat.reduceBEq,Nat.reduceLeDiff,iaddr_slice,hZl,hZ1,row_hd,fq9.n10_w,fq9.n11_w,fq9.n12_w,List.getElem?_set_self,List.set_set]

  simp -implicitDefEqProofs only [wl_s,fq9.n8_w]
  simp -implicitDefEqProofs only [sw0,sw1,sw2,sw3,sw4,sw5,reduceCtorEq,Nat.reduceEqDiff,Nat.reduceAdd,Nat.reduceDiv,Nat.reduceLeDiff,dw0,Int.reduceAdd,Int.reduceSub,Int.reduceMul,Int.reduceLT,Int.reduceLE,Int.reduceNeg,Int.reduceEq,Int.reduceToNat,Nat.reduceLT,Nat.reduceMul,Nat.reduceSub,Nat.reduceBEq,Nat.reduceLeDiff,iaddr_slice,hZl,hZ1,row_hd,fq9.n13_w,Crowd_n14,List.getElem?_set_self,List.set_set]

  simp -implicitDefEqProofs only [wl_s,fq9.n15_w]
  simp -implicitDefEqProofs only [sw0,sw1,sw2,sw3,sw4,sw5,reduceCtorEq,Nat.reduceEqDiff,Nat.reduceAdd,Nat.reduceDiv,Nat.reduceLeDiff,dw0,Int.reduceAdd,Int.reduceSub,Int.reduceMul,Int.reduceLT,Int.reduceLE,Int.reduceNeg,Int.reduceEq,Int.reduceToNat,Nat.reduceLT,Nat.reduceMul,Nat.reduceSub,Nat.reduceBEq,Nat.reduceLeDiff,iaddr_slice,hZl,hZ1,row_hd,fq9.n17_w,fq9.n18_w,fq9.ret,List.getElem?_set_self,List.set_set]
end Go.Proofs.YtcebebhaahpoiaaDoor
end
section
namespace Go.Proofs.YtcebebhaahpoiaaDoor
open Go Go.Ai Go.W
attribute [local irreducible] VC YC WC
set_option linter.unusedSimpArgs false
set_option linter.unusedVariables false
set_option maxRecDepth 10000
variable {k:Nat} {b:Option Nat} {H:List AObj} {lk:Bool} {K:AV→St→Prop}
theorem slots_u1 {k:Nat} {b:Option Nat} {ρ s Q}:WC ⟨prog,k,b⟩ fq40.n1 ρ s Q=wLoop (WC ⟨prog,k,b⟩ fq40.n2) k ρ s Q:=WC_lp
theorem Plan_u6 {k:Nat} {b:Option Nat} {ρ s Q}:WC ⟨prog,k,b⟩ fq16.n6 ρ s Q=wLoop (WC ⟨prog,k,b⟩ fq16.n7) k ρ s Q:=WC_lp
theorem Plan_u11 {k:Nat} {b:Option Nat} {ρ s Q}:WC ⟨prog,k,b⟩ fq16.n11 ρ s Q=wLoop (WC ⟨prog,k,b⟩ fq16.n12) k ρ s Q:=WC_lp
theorem heap_int_put_u1 {k:Nat} {b:Option Nat} {ρ s Q}:WC ⟨prog,k,b⟩ fq21.n1 ρ s Q=wLoop (WC ⟨prog,k,b⟩ fq21.n2) k ρ s Q:=WC_lp
theorem heap_int_take_u1 {k:Nat} {b:Option Nat} {ρ s Q}:WC ⟨prog,k,b⟩ fq22.n1 ρ s Q=wLoop (WC ⟨prog,k,b⟩ fq22.n2) k ρ s Q:=WC_lp
theorem heap_int_take_u3 {k:Nat} {b:Option Nat} {ρ s Q}:WC ⟨prog,k,b⟩ fq22.n3 ρ s Q=wLoop (WC ⟨prog,k,b⟩ fq22.n4) k ρ s Q:=WC_lp
abbrev shI:Sh:=.mk false [.int .i64]
theorem slotsB (hk:200≤k) (hK:K (.fn F_fq41 [.ptr (H.length + 1) 0 1]) ⟨H ++ [.map shI 2 [(iv 0,.sref (H.length + 3) 0 2 2 1)],.cells [.map H.length],.cells [iv 0,iv 0,iv 1],.cells [iv 0,iv 1],.cells [iv 1,iv 0,iv 1]],false⟩):VC ⟨prog,k,b⟩ F_fq40 [vB] ⟨H,false⟩ K:=by
  obtain ⟨k,rfl⟩:∃ j,k=j + 1:=⟨k - 1,by omega⟩
  obtain ⟨k,rfl⟩:∃ j,k=j + 100:=⟨k - 100,by omega⟩
  apply fq40.enter
  have hu:AV.under H.length (AV.fn F_fq41 [AV.ptr (H.length + 1) 0 1])=false:=by simp [AV.under,underL]
  simp -implicitDefEqProofs only [fq40.n0_w,sw0,sw1,sw2,sw3,sw4,sw5,reduceCtorEq,Nat.reduceEqDiff,Nat.reduceAdd,Nat.reduceDiv,Nat.reduceLeDiff,dw0,Int.reduceAdd,Int.reduceSub,Int.reduceMul,Int.reduceLT,Int.reduceLE,Int.reduceNeg,Int.reduceEq,Int.reduceToNat,Nat.reduceLT,Nat.reduceMul,Nat.reduceSub,Nat.reduceBEq,Nat.reduceLeDiff,xw0,eApp,rowOf,appRow,lkL,lkN,eMupd,vLook,mapSh,findE,putE,keqL,hasSh,fits,shb,Int.reduceBEq,eMksl,vSlc,boundsOf,boundOf,cleanL,Nat.reduceGT,Int.reduceGT,Int.reduceGE,Int.reduceDiv,Int.reduceTDiv,vAidx,rdc,slots_u1]
  simp -implicitDefEqProofs only [wl_s,fq40.n2_w]
  simp -implicitDefEqProofs only [sw0,sw1,sw2,sw3,sw4,sw5,reduceCtorEq,Nat.reduceEqDiff,Nat.reduceAdd,Nat.reduceDiv,Nat.reduceLeDiff,dw0,Int.reduceAdd,Int.reduceSub,Int.reduceMul,Int.reduceLT,Int.reduceLE,Int.reduceNeg,Int.reduceEq,Int.reduceToNat,Nat.reduceLT,Nat.reduceMul,Nat.reduceSub,Nat.reduceBEq,Nat.reduceLeDiff,xw0,eApp,rowOf,appRow,lkL,lkN,eMupd,vLook,mapSh,findE,putE,keqL,hasSh,fits,shb,Int.reduceBEq,eMksl,vSlc,boundsOf,boundOf,cleanL,Nat.reduceGT,Int.reduceGT,Int.reduceGE,Int.reduceDiv,Int.reduceTDiv,vAidx,rdc,fq40.n4_w]
  simp -implicitDefEqProofs only [wl_s,fq40.n2_w]
  simp -implicitDefEqProofs only [sw0,sw1,sw2,sw3,sw4,sw5,reduceCtorEq,Nat.reduceEqDiff,Nat.reduceAdd,Nat.reduceDiv,Nat.reduceLeDiff,dw0,Int.reduceAdd,Int.reduceSub,Int.reduceMul,Int.reduceLT,Int.reduceLE,Int.reduceNeg,Int.reduceEq,Int.reduceToNat,Nat.reduceLT,Nat.reduceMul,Nat.reduceSub,Nat.reduceBEq,Nat.reduceLeDiff,xw0,eApp,rowOf,appRow,lkL,lkN,eMupd,vLook,mapSh,findE,putE,keqL,hasSh,fits,shb,Int.reduceBEq,eMksl,vSlc,boundsOf,boundOf,cleanL,Nat.reduceGT,Int.reduceGT,Int.reduceGE,Int.reduceDiv,Int.reduceTDiv,vAidx,rdc,fq40.n4_w]
  simp -implicitDefEqProofs only [wl_s,fq40.n2_w]
  simp -implicitDefEqProofs only [sw0,sw1,sw2,sw3,sw4,sw5,reduceCtorEq,Nat.reduceEqDiff,Nat.reduceAdd,Nat.reduceDiv,Nat.reduceLeDiff,dw0,Int.reduceAdd,Int.reduceSub,Int.reduceMul,Int.reduceLT,Int.reduceLE,Int.reduceNeg,Int.reduceEq,Int.reduceToNat,Nat.reduceLT,Nat.reduceMul,Nat.reduceSub,Nat.reduceBEq,Nat.reduceLeDiff,xw0,eApp,rowOf,appRow,lkL,lkN,eMupd,vLook,mapSh,findE,putE,keqL,hasSh,fits,shb,Int.reduceBEq,eMksl,vSlc,boundsOf,boundOf,cleanL,Nat.reduceGT,Int.reduceGT,Int.reduceGE,Int.reduceDiv,Int.reduceTDiv,vAidx,rdc,fq40.n5_w,fq40.ret,hu]
  exact hK
theorem gO_u {b:Bool} {s:St} {X:(AV→St→Prop)→Prop} {K:AV→St→Prop}:gO .undef b s X K=K .undef s:=rfl
theorem Plan_1_s {v:AV} {qs:List (Int × Int × Int)} {cl x y:Nat} (hs:Sl H 3 jc v qs) (hr:row H cl 1=some [v]) (hx:x < qs.length) (hy:y < qs.length):VC ⟨prog,k + 1,b⟩ F_fq17 [iv x,iv y,.ptr cl 0 1] ⟨H,lk⟩ K=K (.bool (decide (qs[x].2.2 < qs[y].2.2∨qs[x].2.2=qs[y].2.2∧x < y))) ⟨H,lk⟩:=by
  apply VC_iff
  apply fq17.enter
  have hx2:=hs.ld hx (show 2 < 3 by omega)
  have hy2:=hs.ld hy (show 2 < 3 by omega)
  have hax:=hs.at' (k:=.i64) hx
  have hay:=hs.at' (k:=.i64) hy
  by_cases c1:qs[x].2.2 < qs[y].2.2
  · simp -implicitDefEqProofs only [fq17.n0_w,sw0,sw1,sw2,sw3,sw4,sw5,reduceCtorEq,Nat.reduceEqDiff,Nat.reduceAdd,Nat.reduceDiv,Nat.reduceLeDiff,hr,hs.at,hx,hy,hs.off,hx2,hy2,eq_true c1,fq17.ret,true_or,gO_u]
  · by_cases c2:qs[x].2.2=qs[y].2.2
    · by_cases c3:(x:Int) < y
      · have c3':x < y:=by omega
        simp -implicitDefEqProofs only [fq17.n0_w,sw0,sw1,sw2,sw3,sw4,sw5,reduceCtorEq,Nat.reduceEqDiff,Nat.reduceAdd,Nat.reduceDiv,Nat.reduceLeDiff,hr,hs.at,hx,hy,hs.off,hx2,hy2,eq_false c1,eq_true c2,eq_true c3,eq_true c3',fq17.ret,false_or,or_true]
      · have c3':¬ x < y:=by omega
        simp -implicitDefEqProofs only [fq17.n0_w,sw0,sw1,sw2,sw3,sw4,sw5,reduceCtorEq,Nat.reduceEqDiff,Nat.reduceAdd,Nat.reduceDiv,Nat.reduceLeDiff,hr,hs.at,hx,hy,hs.off,hx2,hy2,eq_false c1,eq_true c2,eq_false c3,eq_false c3',fq17.ret,false_or,or_self]
    · simp -implicitDefEqProofs only [fq17.n0_w,sw0,sw1,sw2,sw3,sw4,sw5,reduceCtorEq,Nat.reduceEqDiff,Nat.reduceAdd,Nat.reduceDiv,Nat.reduceLeDiff,hr,hs.at,hx,hy,hs.off,hx2,hy2,eq_false c1,eq_false c2,fq17.ret,false_or,false_and,or_self]
variable {f:AV} {L:List AObj} {a c x:AV}
theorem put0 {n:Int} (hK:K (.tup []) ⟨H ++ (.cells [.sref (H.length + (L.length + 1)) 0 1 1 1,f] :: (L ++ [.cells [iv n]])),true⟩):VC ⟨prog,k + 100,b⟩ F_fq21 [.ptr H.length 0 2,iv n] ⟨H ++ (.cells [.slice true 0 [],f] :: L),lk⟩ K:=by
  apply fq21.enter
  simp -implicitDefEqProofs only [fq21.n0_w,sw0,sw1,sw2,sw3,sw4,sw5,reduceCtorEq,Nat.reduceEqDiff,Nat.reduceAdd,Nat.reduceDiv,Nat.reduceLeDiff,dw0,Int.reduceAdd,Int.reduceSub,Int.reduceMul,Int.reduceLT,Int.reduceLE,Int.reduceNeg,Int.reduceEq,Int.reduceToNat,Nat.reduceLT,Nat.reduceMul,Nat.reduceSub,Nat.reduceBEq,Nat.reduceLeDiff,xw0,eApp,rowOf,appRow,lkL,lkN,eMupd,vLook,mapSh,findE,putE,keqL,hasSh,fits,shb,Int.reduceBEq,eMksl,vSlc,boundsOf,boundOf,cleanL,Nat.reduceGT,Int.reduceGT,Int.reduceGE,Int.reduceDiv,Int.reduceTDiv,vAidx,rdc,heap_int_put_u1]
  simp -implicitDefEqProofs only [wl_s,fq21.n2_w]
  simp -implicitDefEqProofs only [sw0,sw1,sw2,sw3,sw4,sw5,reduceCtorEq,Nat.reduceEqDiff,Nat.reduceAdd,Nat.reduceDiv,Nat.reduceLeDiff,dw0,Int.reduceAdd,Int.reduceSub,Int.reduceMul,Int.reduceLT,Int.reduceLE,Int.reduceNeg,Int.reduceEq,Int.reduceToNat,Nat.reduceLT,Nat.reduceMul,Nat.reduceSub,Nat.reduceBEq,Nat.reduceLeDiff,xw0,eApp,rowOf,appRow,lkL,lkN,eMupd,vLook,mapSh,findE,putE,keqL,hasSh,fits,shb,Int.reduceBEq,eMksl,vSlc,boundsOf,boundOf,cleanL,Nat.reduceGT,Int.reduceGT,Int.reduceGE,Int.reduceDiv,Int.reduceTDiv,vAidx,rdc,fq21.ret]
  exact hK
theorem put1_1 {v z:AV} {qs:List (Int × Int × Int)} {cl n m:Nat} (hs:Sl H 3 jc v qs) (hr:row H cl 1=some [v]) (hn:n < qs.length) (hm:m < qs.length)
    (hK:K (.tup []) ⟨H ++ (.cells [.sref (H.length + (L.length + 1)) 0 2 2 1,.fn F_fq17 [.ptr cl 0 1]] :: (L ++ [.cells (if qs[n].2.2 < qs[m].2.2∨qs[n].2.2=qs[m].2.2∧n < m then [iv n,iv m] else [iv m,iv n])])),true⟩) :
    VC ⟨prog,k + 100,b⟩ F_fq21 [.ptr H.length 0 2,iv n] ⟨H ++ (.cells [.sref (H.length + (L.length + 1)) 0 1 1 1,.fn F_fq17 [.ptr cl 0 1]] :: (L ++ [AObj.cells [iv m]])),lk⟩ K:=by
  apply fq21.enter
  have hbe:=fun (X:List AObj) (lk:Bool) (b:Option Nat) (K:AV→St→Prop)=>Plan_1_s (k:=k + 98) (lk:=lk) (b:=b) (K:=K) (hs.app (L:=X)) (row_app (L:=X) hr) hn hm
  by_cases c:qs[n].2.2 < qs[m].2.2∨qs[n].2.2=qs[m].2.2∧n < m
  · rw [if_pos c] at hK
    simp -implicitDefEqProofs only [eq_true c] at hbe
    simp -implicitDefEqProofs only [fq21.n0_w,sw0,sw1,sw2,sw3,sw4,sw5,reduceCtorEq,Nat.reduceEqDiff,Nat.reduceAdd,Nat.reduceDiv,Nat.reduceLeDiff,dw0,Int.reduceAdd,Int.reduceSub,Int.reduceMul,Int.reduceLT,Int.reduceLE,Int.reduceNeg,Int.reduceEq,Int.reduceToNat,Nat.reduceLT,Nat.reduceMul,Nat.reduceSub,Nat.reduceBEq,Nat.reduceLeDiff,xw0,eApp,rowOf,appRow,lkL,lkN,eMupd,vLook,mapSh,findE,putE,keqL,hasSh,fits,shb,Int.reduceBEq,eMksl,vSlc,boundsOf,boundOf,cleanL,Nat.reduceGT,Int.reduceGT,Int.reduceGE,Int.reduceDiv,Int.reduceTDiv,vAidx,rdc,heap_int_put_u1]
    simp -implicitDefEqProofs only [wl_s,fq21.n2_w]
    simp -implicitDefEqProofs only [sw0,sw1,sw2,sw3,sw4,sw5,reduceCtorEq,Nat.reduceEqDiff,Nat.reduceAdd,Nat.reduceDiv,Nat.reduceLeDiff,dw0,Int.reduceAdd,Int.reduceSub,Int.reduceMul,Int.reduceLT,Int.reduceLE,Int.reduceNeg,Int.reduceEq,Int.reduceToNat,Nat.reduceLT,Nat.reduceMul,Nat.reduceSub,Nat.reduceBEq,Nat.reduceLeDiff,xw0,eApp,rowOf,appRow,lkL,lkN,eMupd,vLook,mapSh,findE,putE,keqL,hasSh,fits,shb,Int.reduceBEq,eMksl,vSlc,boundsOf,boundOf,cleanL,Nat.reduceGT,Int.reduceGT,Int.reduceGE,Int.reduceDiv,Int.reduceTDiv,vAidx,rdc,fq21.n4_w,hbe,fq21.n5_w]
    simp -implicitDefEqProofs only [wl_s,fq21.n2_w]
    simp -implicitDefEqProofs only [sw0,sw1,sw2,sw3,sw4,sw5,reduceCtorEq,Nat.reduceEqDiff,Nat.reduceAdd,Nat.reduceDiv,Nat.reduceLeDiff,dw0,Int.reduceAdd,Int.reduceSub,Int.reduceMul,Int.reduceLT,Int.reduceLE,Int.reduceNeg,Int.reduceEq,Int.reduceToNat,Nat.reduceLT,Nat.reduceMul,Nat.reduceSub,Nat.reduceBEq,Nat.reduceLeDiff,xw0,eApp,rowOf,appRow,lkL,lkN,eMupd,vLook,mapSh,findE,putE,keqL,hasSh,fits,shb,Int.reduceBEq,eMksl,vSlc,boundsOf,boundOf,cleanL,Nat.reduceGT,Int.reduceGT,Int.reduceGE,Int.reduceDiv,Int.reduceTDiv,vAidx,rdc,fq21.ret]
    exact hK
  · rw [if_neg c] at hK
    simp -implicitDefEqProofs only [eq_false c] at hbe
    simp -implicitDefEqProofs only [fq21.n0_w,sw0,sw1,sw2,sw3,sw4,sw5,reduceCtorEq,Nat.reduceEqDiff,Nat.reduceAdd,Nat.reduceDiv,Nat.reduceLeDiff,dw0,Int.reduceAdd,Int.reduceSub,Int.reduceMul,Int.reduceLT,Int.reduceLE,Int.reduceNeg,Int.reduceEq,Int.reduceToNat,Nat.reduceLT,Nat.reduceMul,Nat.reduceSub,Nat.reduceBEq,Nat.reduceLeDiff,xw0,eApp,rowOf,appRow,lkL,lkN,eMupd,vLook,mapSh,findE,putE,keqL,hasSh,fits,shb,Int.reduceBEq,eMksl,vSlc,boundsOf,boundOf,cleanL,Nat.reduceGT,Int.reduceGT,Int.reduceGE,Int.reduceDiv,Int.reduceTDiv,vAidx,rdc,heap_int_put_u1]
    simp -implicitDefEqProofs only [wl_s,fq21.n2_w]
    simp -implicitDefEqProofs only [sw0,sw1,sw2,sw3,sw4,sw5,reduceCtorEq,Nat.reduceEqDiff,Nat.reduceAdd,Nat.reduceDiv,Nat.reduceLeDiff,dw0,Int.reduceAdd,Int.reduceSub,Int.reduceMul,Int.reduceLT,Int.reduceLE,Int.reduceNeg,Int.reduceEq,Int.reduceToNat,Nat.reduceLT,Nat.reduceMul,Nat.reduceSub,Nat.reduceBEq,Nat.reduceLeDiff,xw0,eApp,rowOf,appRow,lkL,lkN,eMupd,vLook,mapSh,findE,putE,keqL,hasSh,fits,shb,Int.reduceBEq,eMksl,vSlc,boundsOf,boundOf,cleanL,Nat.reduceGT,Int.reduceGT,Int.reduceGE,Int.reduceDiv,Int.reduceTDiv,vAidx,rdc,fq21.n4_w,hbe,fq21.ret]
    exact hK
theorem put1_2 {v z:AV} {qs:List (Int × Int × Int)} {cl n m:Nat} (hs:Sl H 3 jc v qs) (hr:row H cl 1=some [v]) (hn:n < qs.length) (hm:m < qs.length)
    (hK:K (.tup []) ⟨H ++ (.cells [.sref (H.length + (L.length + 1)) 0 2 2 1,.fn F_fq17 [.ptr cl 0 1]] :: (L ++ [.cells (if qs[n].2.2 < qs[m].2.2∨qs[n].2.2=qs[m].2.2∧n < m then [iv n,iv m] else [iv m,iv n])])),true⟩) :
    VC ⟨prog,k + 100,b⟩ F_fq21 [.ptr H.length 0 2,iv n] ⟨H ++ (.cells [.sref (H.length + (L.length + 1)) 0 1 2 1,.fn F_fq17 [.ptr cl 0 1]] :: (L ++ [AObj.cells [iv m,z]])),lk⟩ K:=by
  apply fq21.enter
  have hbe:=fun (X:List AObj) (lk:Bool) (b:Option Nat) (K:AV→St→Prop)=>Plan_1_s (k:=k + 98) (lk:=lk) (b:=b) (K:=K) (hs.app (L:=X)) (row_app (L:=X) hr) hn hm
  by_cases c:qs[n].2.2 < qs[m].2.2∨qs[n].2.2=qs[m].2.2∧n < m
  · rw [if_pos c] at hK
    simp -implicitDefEqProofs only [eq_true c] at hbe
    simp -implicitDefEqProofs only [fq21.n0_w,sw0,sw1,sw2,sw3,sw4,sw5,reduceCtorEq,Nat.reduceEqDiff,Nat.reduceAdd,Nat.reduceDiv,Nat.reduceLeDiff,dw0,Int.reduceAdd,Int.reduceSub,Int.reduceMul,Int.reduceLT,Int.reduceLE,Int.reduceNeg,Int.reduceEq,Int.reduceToNat,Nat.reduceLT,Nat.reduceMul,Nat.reduceSub,Nat.reduceBEq,Nat.reduceLeDiff,xw0,eApp,rowOf,appRow,lkL,lkN,eMupd,vLook,mapSh,findE,putE,keqL,hasSh,fits,shb,Int.reduceBEq,eMksl,vSlc,boundsOf,boundOf,cleanL,Nat.reduceGT,Int.reduceGT,Int.reduceGE,Int.reduceDiv,Int.reduceTDiv,vAidx,rdc,heap_int_put_u1]
    simp -implicitDefEqProofs only [wl_s,fq21.n2_w]
    simp -implicitDefEqProofs only [sw0,sw1,sw2,sw3,sw4,sw5,reduceCtorEq,Nat.reduceEqDiff,Nat.reduceAdd,Nat.reduceDiv,Nat.reduceLeDiff,dw0,Int.reduceAdd,Int.reduceSub,Int.reduceMul,Int.reduceLT,Int.reduceLE,Int.reduceNeg,Int.reduceEq,Int.reduceToNat,Nat.reduceLT,Nat.reduceMul,Nat.reduceSub,Nat.reduceBEq,Nat.reduceLeDiff,xw0,eApp,rowOf,appRow,lkL,lkN,eMupd,vLook,mapSh,findE,putE,keqL,hasSh,fits,shb,Int.reduceBEq,eMksl,vSlc,boundsOf,boundOf,cleanL,Nat.reduceGT,Int.reduceGT,Int.reduceGE,Int.reduceDiv,Int.reduceTDiv,vAidx,rdc,fq21.n4_w,hbe,fq21.n5_w]
    simp -implicitDefEqProofs only [wl_s,fq21.n2_w]
    simp -implicitDefEqProofs only [sw0,sw1,sw2,sw3,sw4,sw5,reduceCtorEq,Nat.reduceEqDiff,Nat.reduceAdd,Nat.reduceDiv,Nat.reduceLeDiff,dw0,Int.reduceAdd,Int.reduceSub,Int.reduceMul,Int.reduceLT,Int.reduceLE,Int.reduceNeg,Int.reduceEq,Int.reduceToNat,Nat.reduceLT,Nat.reduceMul,Nat.reduceSub,Nat.reduceBEq,Nat.reduceLeDiff,xw0,eApp,rowOf,appRow,lkL,lkN,eMupd,vLook,mapSh,findE,putE,keqL,hasSh,fits,shb,Int.reduceBEq,eMksl,vSlc,boundsOf,boundOf,cleanL,Nat.reduceGT,Int.reduceGT,Int.reduceGE,Int.reduceDiv,Int.reduceTDiv,vAidx,rdc,fq21.ret]
    exact hK
  · rw [if_neg c] at hK
    simp -implicitDefEqProofs only [eq_false c] at hbe
    simp -implicitDefEqProofs only [fq21.n0_w,sw0,sw1,sw2,sw3,sw4,sw5,reduceCtorEq,Nat.reduceEqDiff,Nat.reduceAdd,Nat.reduceDiv,Nat.reduceLeDiff,dw0,Int.reduceAdd,Int.reduceSub,Int.reduceMul,Int.reduceLT,Int.reduceLE,Int.reduceNeg,Int.reduceEq,Int.reduceToNat,Nat.reduceLT,Nat.reduceMul,Nat.reduceSub,Nat.reduceBEq,Nat.reduceLeDiff,xw0,eApp,rowOf,appRow,lkL,lkN,eMupd,vLook,mapSh,findE,putE,keqL,hasSh,fits,shb,Int.reduceBEq,eMksl,vSlc,boundsOf,boundOf,cleanL,Nat.reduceGT,Int.reduceGT,Int.reduceGE,Int.reduceDiv,Int.reduceTDiv,vAidx,rdc,heap_int_put_u1]
    simp -implicitDefEqProofs only [wl_s,fq21.n2_w]
    simp -implicitDefEqProofs only [sw0,sw1,sw2,sw3,sw4,sw5,reduceCtorEq,Nat.reduceEqDiff,Nat.reduceAdd,Nat.reduceDiv,Nat.reduceLeDiff,dw0,Int.reduceAdd,Int.reduceSub,Int.reduceMul,Int.reduceLT,Int.reduceLE,Int.reduceNeg,Int.reduceEq,Int.reduceToNat,Nat.reduceLT,Nat.reduceMul,Nat.reduceSub,Nat.reduceBEq,Nat.reduceLeDiff,xw0,eApp,rowOf,appRow,lkL,lkN,eMupd,vLook,mapSh,findE,putE,keqL,hasSh,fits,shb,Int.reduceBEq,eMksl,vSlc,boundsOf,boundOf,cleanL,Nat.reduceGT,Int.reduceGT,Int.reduceGE,Int.reduceDiv,Int.reduceTDiv,vAidx,rdc,fq21.n4_w,hbe,fq21.ret]
    exact hK
theorem take1 (hk:100≤k) {ver:Nat} {R:List AV} {n:Int} (hv:R.length + 1=ver) (hK:K (iv n) ⟨H ++ (.cells [.slice false 1 [],f] :: (L ++ [.cells (iv n :: R)])),true⟩) :
    VC ⟨prog,k + 1,b⟩ F_fq22 [.ptr H.length 0 2] ⟨H ++ (.cells [.sref (H.length + (L.length + 1)) 0 1 ver 1,f] :: (L ++ [.cells (iv n :: R)])),true⟩ K:=by
  subst hv
  apply fq22.enter
  simp -implicitDefEqProofs only [fq22.n0_w,sw0,sw1,sw2,sw3,sw4,sw5,reduceCtorEq,Nat.reduceEqDiff,Nat.reduceAdd,Nat.reduceDiv,Nat.reduceLeDiff,dw0,Int.reduceAdd,Int.reduceSub,Int.reduceMul,Int.reduceLT,Int.reduceLE,Int.reduceNeg,Int.reduceEq,Int.reduceToNat,Nat.reduceLT,Nat.reduceMul,Nat.reduceSub,Nat.reduceBEq,Nat.reduceLeDiff,xw0,eApp,rowOf,appRow,lkL,lkN,eMupd,vLook,mapSh,findE,putE,keqL,hasSh,fits,shb,Int.reduceBEq,eMksl,vSlc,boundsOf,boundOf,cleanL,Nat.reduceGT,Int.reduceGT,Int.reduceGE,Int.reduceDiv,Int.reduceTDiv,vAidx,rdc,heap_int_take_u1]
  rw [wl_1 (by omega)]
  simp -implicitDefEqProofs only [fq22.n2_w,sw0,sw1,sw2,sw3,sw4,sw5,reduceCtorEq,Nat.reduceEqDiff,Nat.reduceAdd,Nat.reduceDiv,Nat.reduceLeDiff,dw0,Int.reduceAdd,Int.reduceSub,Int.reduceMul,Int.reduceLT,Int.reduceLE,Int.reduceNeg,Int.reduceEq,Int.reduceToNat,Nat.reduceLT,Nat.reduceMul,Nat.reduceSub,Nat.reduceBEq,Nat.reduceLeDiff,xw0,eApp,rowOf,appRow,lkL,lkN,eMupd,vLook,mapSh,findE,putE,keqL,hasSh,fits,shb,Int.reduceBEq,eMksl,vSlc,boundsOf,boundOf,cleanL,Nat.reduceGT,Int.reduceGT,Int.reduceGE,Int.reduceDiv,Int.reduceTDiv,vAidx,rdc,heap_int_take_u3]
  rw [wl_1 (by omega)]
  simp -implicitDefEqProofs only [fq22.n4_w,sw0,sw1,sw2,sw3,sw4,sw5,reduceCtorEq,Nat.reduceEqDiff,Nat.reduceAdd,Nat.reduceDiv,Nat.reduceLeDiff,dw0,Int.reduceAdd,Int.reduceSub,Int.reduceMul,Int.reduceLT,Int.reduceLE,Int.reduceNeg,Int.reduceEq,Int.reduceToNat,Nat.reduceLT,Nat.reduceMul,Nat.reduceSub,Nat.reduceBEq,Nat.reduceLeDiff,xw0,eApp,rowOf,appRow,lkL,lkN,eMupd,vLook,mapSh,findE,putE,keqL,hasSh,fits,shb,Int.reduceBEq,eMksl,vSlc,boundsOf,boundOf,cleanL,Nat.reduceGT,Int.reduceGT,Int.reduceGE,Int.reduceDiv,Int.reduceTDiv,vAidx,rdc,fq22.n6_w,fq22.n8_w]
  rw [wl_1 (by omega)]
  simp -implicitDefEqProofs only [fq22.n4_w,sw0,sw1,sw2,sw3,sw4,sw5,reduceCtorEq,Nat.reduceEqDiff,Nat.reduceAdd,Nat.reduceDiv,Nat.reduceLeDiff,dw0,Int.reduceAdd,Int.reduceSub,Int.reduceMul,Int.reduceLT,Int.reduceLE,Int.reduceNeg,Int.reduceEq,Int.reduceToNat,Nat.reduceLT,Nat.reduceMul,Nat.reduceSub,Nat.reduceBEq,Nat.reduceLeDiff,xw0,eApp,rowOf,appRow,lkL,lkN,eMupd,vLook,mapSh,findE,putE,keqL,hasSh,fits,shb,Int.reduceBEq,eMksl,vSlc,boundsOf,boundOf,cleanL,Nat.reduceGT,Int.reduceGT,Int.reduceGE,Int.reduceDiv,Int.reduceTDiv,vAidx,rdc,fq22.n6_w,fq22.n8_w]
  rw [wl_1 (by omega)]
  simp -implicitDefEqProofs only [fq22.n4_w,sw0,sw1,sw2,sw3,sw4,sw5,reduceCtorEq,Nat.reduceEqDiff,Nat.reduceAdd,Nat.reduceDiv,Nat.reduceLeDiff,dw0,Int.reduceAdd,Int.reduceSub,Int.reduceMul,Int.reduceLT,Int.reduceLE,Int.reduceNeg,Int.reduceEq,Int.reduceToNat,Nat.reduceLT,Nat.reduceMul,Nat.reduceSub,Nat.reduceBEq,Nat.reduceLeDiff,xw0,eApp,rowOf,appRow,lkL,lkN,eMupd,vLook,mapSh,findE,putE,keqL,hasSh,fits,shb,Int.reduceBEq,eMksl,vSlc,boundsOf,boundOf,cleanL,Nat.reduceGT,Int.reduceGT,Int.reduceGE,Int.reduceDiv,Int.reduceTDiv,vAidx,rdc,fq22.n9_w,fq22.n10_w,fq22.ret]
  rw [List.take_of_length_le (by simp)]
  exact hK
theorem take2 (hk:100≤k) {n m:Int} (hK:K (iv n) ⟨H ++ (.cells [.sref (H.length + (L.length + 1)) 0 1 2 1,f] :: (L ++ [.cells [iv m,iv m]])),true⟩) :
    VC ⟨prog,k + 1,b⟩ F_fq22 [.ptr H.length 0 2] ⟨H ++ (.cells [.sref (H.length + (L.length + 1)) 0 2 2 1,f] :: (L ++ [.cells [iv n,iv m]])),true⟩ K:=by
  apply fq22.enter
  simp -implicitDefEqProofs only [fq22.n0_w,sw0,sw1,sw2,sw3,sw4,sw5,reduceCtorEq,Nat.reduceEqDiff,Nat.reduceAdd,Nat.reduceDiv,Nat.reduceLeDiff,dw0,Int.reduceAdd,Int.reduceSub,Int.reduceMul,Int.reduceLT,Int.reduceLE,Int.reduceNeg,Int.reduceEq,Int.reduceToNat,Nat.reduceLT,Nat.reduceMul,Nat.reduceSub,Nat.reduceBEq,Nat.reduceLeDiff,xw0,eApp,rowOf,appRow,lkL,lkN,eMupd,vLook,mapSh,findE,putE,keqL,hasSh,fits,shb,Int.reduceBEq,eMksl,vSlc,boundsOf,boundOf,cleanL,Nat.reduceGT,Int.reduceGT,Int.reduceGE,Int.reduceDiv,Int.reduceTDiv,vAidx,rdc,heap_int_take_u1]
  rw [wl_1 (by omega)]
  simp -implicitDefEqProofs only [fq22.n2_w,sw0,sw1,sw2,sw3,sw4,sw5,reduceCtorEq,Nat.reduceEqDiff,Nat.reduceAdd,Nat.reduceDiv,Nat.reduceLeDiff,dw0,Int.reduceAdd,Int.reduceSub,Int.reduceMul,Int.reduceLT,Int.reduceLE,Int.reduceNeg,Int.reduceEq,Int.reduceToNat,Nat.reduceLT,Nat.reduceMul,Nat.reduceSub,Nat.reduceBEq,Nat.reduceLeDiff,xw0,eApp,rowOf,appRow,lkL,lkN,eMupd,vLook,mapSh,findE,putE,keqL,hasSh,fits,shb,Int.reduceBEq,eMksl,vSlc,boundsOf,boundOf,cleanL,Nat.reduceGT,Int.reduceGT,Int.reduceGE,Int.reduceDiv,Int.reduceTDiv,vAidx,rdc,heap_int_take_u3]
  rw [wl_1 (by omega)]
  simp -implicitDefEqProofs only [fq22.n4_w,sw0,sw1,sw2,sw3,sw4,sw5,reduceCtorEq,Nat.reduceEqDiff,Nat.reduceAdd,Nat.reduceDiv,Nat.reduceLeDiff,dw0,Int.reduceAdd,Int.reduceSub,Int.reduceMul,Int.reduceLT,Int.reduceLE,Int.reduceNeg,Int.reduceEq,Int.reduceToNat,Nat.reduceLT,Nat.reduceMul,Nat.reduceSub,Nat.reduceBEq,Nat.reduceLeDiff,xw0,eApp,rowOf,appRow,lkL,lkN,eMupd,vLook,mapSh,findE,putE,keqL,hasSh,fits,shb,Int.reduceBEq,eMksl,vSlc,boundsOf,boundOf,cleanL,Nat.reduceGT,Int.reduceGT,Int.reduceGE,Int.reduceDiv,Int.reduceTDiv,vAidx,rdc,fq22.n6_w,fq22.n8_w]
  rw [wl_1 (by omega)]
  simp -implicitDefEqProofs only [fq22.n4_w,sw0,sw1,sw2,sw3,sw4,sw5,reduceCtorEq,Nat.reduceEqDiff,Nat.reduceAdd,Nat.reduceDiv,Nat.reduceLeDiff,dw0,Int.reduceAdd,Int.reduceSub,Int.reduceMul,Int.reduceLT,Int.reduceLE,Int.reduceNeg,Int.reduceEq,Int.reduceToNat,Nat.reduceLT,Nat.reduceMul,Nat.reduceSub,Nat.reduceBEq,Nat.reduceLeDiff,xw0,eApp,rowOf,appRow,lkL,lkN,eMupd,vLook,mapSh,findE,putE,keqL,hasSh,fits,shb,Int.reduceBEq,eMksl,vSlc,boundsOf,boundOf,cleanL,Nat.reduceGT,Int.reduceGT,Int.reduceGE,Int.reduceDiv,Int.reduceTDiv,vAidx,rdc,fq22.n6_w,fq22.n8_w]
  rw [wl_1 (by omega)]
  simp -implicitDefEqProofs only [fq22.n4_w,sw0,sw1,sw2,sw3,sw4,sw5,reduceCtorEq,Nat.reduceEqDiff,Nat.reduceAdd,Nat.reduceDiv,Nat.reduceLeDiff,dw0,Int.reduceAdd,Int.reduceSub,Int.reduceMul,Int.reduceLT,Int.reduceLE,Int.reduceNeg,Int.reduceEq,Int.reduceToNat,Nat.reduceLT,Nat.reduceMul,Nat.reduceSub,Nat.reduceBEq,Nat.reduceLeDiff,xw0,eApp,rowOf,appRow,lkL,lkN,eMupd,vLook,mapSh,findE,putE,keqL,hasSh,fits,shb,Int.reduceBEq,eMksl,vSlc,boundsOf,boundOf,cleanL,Nat.reduceGT,Int.reduceGT,Int.reduceGE,Int.reduceDiv,Int.reduceTDiv,vAidx,rdc,fq22.n9_w,fq22.n10_w,fq22.ret]
  exact hK
theorem slots_1_s {J:Nat→St→Prop} {R:St→Prop} (hk:1000≤k) {l ck:Nat} {s:St}
    (hy:∀ (t:Nat) s,t < 500→J t s→∃ m v,row s.heap ck 1=some [m]∧vLook s.heap shI (.slice true 0 []) false m (iv t)=some v∧∀ b,YC ⟨prog,k,b⟩ l [iv t,v] s (fun w s'=>(w=.bool true∧J (t + 1) s')∨(w=.bool false∧R s')))
    (h0:J 0 { s with leak:=false }) (hend:∀ s,J 500 s→R s) (hR:∀ s',R s'→s'.leak=true∧K (.tup []) ⟨s'.heap,true⟩):VC ⟨prog,k + 1,b⟩ F_fq41 [.yield l,.ptr ck 0 1] s K:=by
  have hfin:∀ s',R s'→K (leave s.heap.length s.leak [] [] s').1 (leave s.heap.length s.leak [] [] s').2:=by
    intro s' h
    obtain ⟨h1,h2⟩:=hR s' h
    obtain ⟨G,lk'⟩:=s'
    dsimp only at h1
    subst h1
    rw [lv_t]
    exact h2
  apply fq41.enter
  simp -implicitDefEqProofs only [fq41.n0_w,sw0,sw1,sw2,sw3,sw4,sw5,reduceCtorEq,Nat.reduceEqDiff,Nat.reduceAdd,Nat.reduceDiv,Nat.reduceLeDiff]
  refine fq41.n1_l (fun m r2 s=>∃ t:Nat,r2=iv t∧m=500 - t∧t≤500∧J t s) 500 (by simp -implicitDefEqProofs only []; omega) ⟨0,rfl,rfl,by omega,h0⟩ ?_
  rintro m r2 r3 s ⟨t,rfl,rfl,ht,hJ⟩
  simp -implicitDefEqProofs only [fq41.n2_w,sw0,sw1,sw2,sw3,sw4,sw5,reduceCtorEq,Nat.reduceEqDiff,Nat.reduceAdd,Nat.reduceDiv,Nat.reduceLeDiff]
  split
  · rename_i hlt
    have hlt:t < 500:=by omega
    obtain ⟨mm,v,h1,h2,h3⟩:=hy t s hlt hJ
    simp -implicitDefEqProofs only [fq41.n4_w,sw0,sw1,sw2,sw3,sw4,sw5,reduceCtorEq,Nat.reduceEqDiff,Nat.reduceAdd,Nat.reduceDiv,Nat.reduceLeDiff,h1,h2,VV_y]
    refine YC_mono ?_ (h3 _)
    rintro w s' (⟨rfl,hJ'⟩ | ⟨rfl,hR'⟩)
    · simp -implicitDefEqProofs only [sw0,sw1,sw2,sw3,sw4,sw5,reduceCtorEq,Nat.reduceEqDiff,Nat.reduceAdd,Nat.reduceDiv,Nat.reduceLeDiff,fq41.n5_w]
      refine fq41.n1_go (m':=500 - (t + 1)) (by omega) ⟨t + 1,by rw [wrap64 (by omega)]; rfl,rfl,by omega,hJ'⟩
    · simp -implicitDefEqProofs only [sw0,sw1,sw2,sw3,sw4,sw5,reduceCtorEq,Nat.reduceEqDiff,Nat.reduceAdd,Nat.reduceDiv,Nat.reduceLeDiff,fq41.ret]
      exact hfin s' hR'
  · rename_i hge
    have hte:t=500:=by omega
    subst hte
    simp -implicitDefEqProofs only [sw0,sw1,sw2,sw3,sw4,sw5,reduceCtorEq,Nat.reduceEqDiff,Nat.reduceAdd,Nat.reduceDiv,Nat.reduceLeDiff,RK_n,fq41.ret]
    exact hfin s (hend s hJ)
theorem put0' (hk:100≤k) {n:Int} (hK:K (.tup []) ⟨H ++ (.cells [.sref (H.length + (L.length + 1)) 0 1 1 1,f] :: (L ++ [.cells [iv n]])),true⟩):VC ⟨prog,k,b⟩ F_fq21 [.ptr H.length 0 2,iv n] ⟨H ++ (.cells [.slice true 0 [],f] :: L),lk⟩ K:=by
  obtain ⟨k,rfl⟩:∃ j,k=j + 100:=⟨k - 100,by omega⟩
  exact put0 hK
theorem put1'_1 (hk:100≤k) {v z:AV} {qs:List (Int × Int × Int)} {cl n m:Nat} (hs:Sl H 3 jc v qs) (hr:row H cl 1=some [v]) (hn:n < qs.length) (hm:m < qs.length)
    (hK:K (.tup []) ⟨H ++ (.cells [.sref (H.length + (L.length + 1)) 0 2 2 1,.fn F_fq17 [.ptr cl 0 1]] :: (L ++ [.cells (if qs[n].2.2 < qs[m].2.2∨qs[n].2.2=qs[m].2.2∧n < m then [iv n,iv m] else [iv m,iv n])])),true⟩) :
    VC ⟨prog,k,b⟩ F_fq21 [.ptr H.length 0 2,iv n] ⟨H ++ (.cells [.sref (H.length + (L.length + 1)) 0 1 1 1,.fn F_fq17 [.ptr cl 0 1]] :: (L ++ [AObj.cells [iv m]])),lk⟩ K:=by
  obtain ⟨k,rfl⟩:∃ j,k=j + 100:=⟨k - 100,by omega⟩
  exact put1_1 (z:=z) hs hr hn hm hK
theorem put1'_2 (hk:100≤k) {v z:AV} {qs:List (Int × Int × Int)} {cl n m:Nat} (hs:Sl H 3 jc v qs) (hr:row H cl 1=some [v]) (hn:n < qs.length) (hm:m < qs.length)
    (hK:K (.tup []) ⟨H ++ (.cells [.sref (H.length + (L.length + 1)) 0 2 2 1,.fn F_fq17 [.ptr cl 0 1]] :: (L ++ [.cells (if qs[n].2.2 < qs[m].2.2∨qs[n].2.2=qs[m].2.2∧n < m then [iv n,iv m] else [iv m,iv n])])),true⟩) :
    VC ⟨prog,k,b⟩ F_fq21 [.ptr H.length 0 2,iv n] ⟨H ++ (.cells [.sref (H.length + (L.length + 1)) 0 1 2 1,.fn F_fq17 [.ptr cl 0 1]] :: (L ++ [AObj.cells [iv m,z]])),lk⟩ K:=by
  obtain ⟨k,rfl⟩:∃ j,k=j + 100:=⟨k - 100,by omega⟩
  exact put1_2 (z:=z) hs hr hn hm hK
theorem yB0 (hk:1000≤k) {r0 r1 r6 r9 r10 r11 r12 r13 r14 r15 r16 r17 r18 r19 r20 r21 r22 r23 r24 r25 r26 r27 r28 r29 r30 r31 r32 r33 r34 r35 r36 r37 r38 r39 r40 r41 r42 r43 r44 r45 r46 r47 r48 r49 r50 r51 r52 r53 r54 r55 r56 r57 r58 r59 r60 r61 r62 r63 r64 r65 r66:AV} {m0 m1:AObj} {x1 x2:AObj}
    (hK:K (.bool true) ⟨H ++ [.cells [vB],.cells [iv 1],.cells [.slice true 0 []],.cells [iv 0],.cells [iv 0,iv 0],.cells [.sref (H.length + 4) 0 2 2 1],.cells [.sref (H.length + 13) 0 1 2 1,.fn F_fq17 [.ptr H.length 0 1]],m0,m1,x1,.cells [iv 0,iv 1],x2,.loop [r0,r1,.ptr H.length 0 1,.ptr (H.length + 1) 0 1,.ptr (H.length + 2) 0 1,.ptr (H.length + 3) 0 1,r6,.ptr (H.length + 5) 0 1,.ptr (H.length + 6) 0 2,r9,r10,r11,r12,r13,r14,r15,r16,r17,r18,r19,r20,r21,r22,r23,r24,r25,r26,r27,r28,r29,r30,r31,r32,r33,r34,r35,r36,r37,r38,r39,r40,r41,r42,r43,r44,r45,r46,r47,r48,r49,r50,r51,r52,r53,r54,r55,r56,r57,r58,r59,r60,r61,r62,r63,r64,r65,r66] [28,29] fq16.n4 fq16.n5 true none,.cells [iv 1,iv 1]],true⟩) :
    YC ⟨prog,k + 1,b⟩ (H.length + 12) [iv 0,.sref (H.length + 10) 0 2 2 1] ⟨H ++ [.cells [vB],.cells [iv 1],.cells [.slice true 0 []],.cells [iv 0],.cells [iv 0,iv 0],.cells [.sref (H.length + 4) 0 2 2 1],.cells [.slice true 0 [],.fn F_fq17 [.ptr H.length 0 1]],m0,m1,x1,.cells [iv 0,iv 1],x2,.loop [r0,r1,.ptr H.length 0 1,.ptr (H.length + 1) 0 1,.ptr (H.length + 2) 0 1,.ptr (H.length + 3) 0 1,r6,.ptr (H.length + 5) 0 1,.ptr (H.length + 6) 0 2,r9,r10,r11,r12,r13,r14,r15,r16,r17,r18,r19,r20,r21,r22,r23,r24,r25,r26,r27,r28,r29,r30,r31,r32,r33,r34,r35,r36,r37,r38,r39,r40,r41,r42,r43,r44,r45,r46,r47,r48,r49,r50,r51,r52,r53,r54,r55,r56,r57,r58,r59,r60,r61,r62,r63,r64,r65,r66] [28,29] fq16.n4 fq16.n5 true none],lk⟩ K:=by
  have hk1:100≤k:=by omega
  have hk2:100≤k - 1:=by omega
  refine YC_go (by simp -implicitDefEqProofs only [sw0,sw1,sw2,sw3,sw4,sw5,reduceCtorEq,Nat.reduceEqDiff,Nat.reduceAdd,Nat.reduceDiv,Nat.reduceLeDiff,dw0,Int.reduceAdd,Int.reduceSub,Int.reduceMul,Int.reduceLT,Int.reduceLE,Int.reduceNeg,Int.reduceEq,Int.reduceToNat,Nat.reduceLT,Nat.reduceMul,Nat.reduceSub,Nat.reduceBEq,Nat.reduceLeDiff,xw0,eApp,rowOf,appRow,lkL,lkN,eMupd,vLook,mapSh,findE,putE,keqL,hasSh,fits,shb,Int.reduceBEq,eMksl,vSlc,boundsOf,boundOf,cleanL,Nat.reduceGT,Int.reduceGT,Int.reduceGE,Int.reduceDiv,Int.reduceTDiv,vAidx,rdc]; rfl) rfl ?_
  simp -implicitDefEqProofs only [sw0,sw1,sw2,sw3,sw4,sw5,reduceCtorEq,Nat.reduceEqDiff,Nat.reduceAdd,Nat.reduceDiv,Nat.reduceLeDiff,dw0,Int.reduceAdd,Int.reduceSub,Int.reduceMul,Int.reduceLT,Int.reduceLE,Int.reduceNeg,Int.reduceEq,Int.reduceToNat,Nat.reduceLT,Nat.reduceMul,Nat.reduceSub,Nat.reduceBEq,Nat.reduceLeDiff,xw0,eApp,rowOf,appRow,lkL,lkN,eMupd,vLook,mapSh,findE,putE,keqL,hasSh,fits,shb,Int.reduceBEq,eMksl,vSlc,boundsOf,boundOf,cleanL,Nat.reduceGT,Int.reduceGT,Int.reduceGE,Int.reduceDiv,Int.reduceTDiv,vAidx,rdc,fq16.n4_w,fq16.n5_w,YK,Plan_u6]
  refine ⟨⟨_,_,_,_,rfl⟩,?_⟩
  rw [wl_1 (by omega)]
  simp -implicitDefEqProofs only [fq16.n7_w,sw0,sw1,sw2,sw3,sw4,sw5,reduceCtorEq,Nat.reduceEqDiff,Nat.reduceAdd,Nat.reduceDiv,Nat.reduceLeDiff,dw0,Int.reduceAdd,Int.reduceSub,Int.reduceMul,Int.reduceLT,Int.reduceLE,Int.reduceNeg,Int.reduceEq,Int.reduceToNat,Nat.reduceLT,Nat.reduceMul,Nat.reduceSub,Nat.reduceBEq,Nat.reduceLeDiff,xw0,eApp,rowOf,appRow,lkL,lkN,eMupd,vLook,mapSh,findE,putE,keqL,hasSh,fits,shb,Int.reduceBEq,eMksl,vSlc,boundsOf,boundOf,cleanL,Nat.reduceGT,Int.reduceGT,Int.reduceGE,Int.reduceDiv,Int.reduceTDiv,vAidx,rdc,fq16.n9_w]
  have h:=fun (K:AV→St→Prop) X (hK)=>put0' (k:=k) (b:=none) (lk:=lk) (K:=K) (n:=0) (f:=.fn F_fq17 [.ptr H.length 0 1]) hk1 (H:=H ++ [.cells [vB],.cells [iv 1],.cells [.slice true 0 []],.cells [iv 0],.cells [iv 0,iv 0],.cells [.sref (H.length + 4) 0 2 2 1]]) (L:=[m0,m1,x1,.cells [iv 0,iv 1],x2,X]) hK
  simp -implicitDefEqProofs only [sw0,sw1,sw2,sw3,sw4,sw5,reduceCtorEq,Nat.reduceEqDiff,Nat.reduceAdd,Nat.reduceDiv,Nat.reduceLeDiff,Nat.add_assoc] at h
  refine h _ _ ?_
  clear h
  rw [wl_1 (by omega)]
  simp -implicitDefEqProofs only [fq16.n7_w,sw0,sw1,sw2,sw3,sw4,sw5,reduceCtorEq,Nat.reduceEqDiff,Nat.reduceAdd,Nat.reduceDiv,Nat.reduceLeDiff,dw0,Int.reduceAdd,Int.reduceSub,Int.reduceMul,Int.reduceLT,Int.reduceLE,Int.reduceNeg,Int.reduceEq,Int.reduceToNat,Nat.reduceLT,Nat.reduceMul,Nat.reduceSub,Nat.reduceBEq,Nat.reduceLeDiff,xw0,eApp,rowOf,appRow,lkL,lkN,eMupd,vLook,mapSh,findE,putE,keqL,hasSh,fits,shb,Int.reduceBEq,eMksl,vSlc,boundsOf,boundOf,cleanL,Nat.reduceGT,Int.reduceGT,Int.reduceGE,Int.reduceDiv,Int.reduceTDiv,vAidx,rdc,fq16.n9_w]
  have h:=fun (K:AV→St→Prop) X (hK)=>put1'_1 (k:=k) (b:=none) (lk:=true) (K:=K) (n:=1) (m:=0) (z:=.undef) (qs:=jB) (cl:=H.length) (v:=vB) hk1 (H:=H ++ [.cells [vB],.cells [iv 1],.cells [.slice true 0 []],.cells [iv 0],.cells [iv 0,iv 0],.cells [.sref (H.length + 4) 0 2 2 1]]) (L:=[m0,m1,x1,.cells [iv 0,iv 1],x2,X]) vB_sl (by simp -implicitDefEqProofs only [sw0,sw1,sw2,sw3,sw4,sw5,reduceCtorEq,Nat.reduceEqDiff,Nat.reduceAdd,Nat.reduceDiv,Nat.reduceLeDiff,dw0,Int.reduceAdd,Int.reduceSub,Int.reduceMul,Int.reduceLT,Int.reduceLE,Int.reduceNeg,Int.reduceEq,Int.reduceToNat,Nat.reduceLT,Nat.reduceMul,Nat.reduceSub,Nat.reduceBEq,Nat.reduceLeDiff,xw0,eApp,rowOf,appRow,lkL,lkN,eMupd,vLook,mapSh,findE,putE,keqL,hasSh,fits,shb,Int.reduceBEq,eMksl,vSlc,boundsOf,boundOf,cleanL,Nat.reduceGT,Int.reduceGT,Int.reduceGE,Int.reduceDiv,Int.reduceTDiv,vAidx,rdc]) (by decide) (by decide) hK
  simp -implicitDefEqProofs only [sw0,sw1,sw2,sw3,sw4,sw5,reduceCtorEq,Nat.reduceEqDiff,Nat.reduceAdd,Nat.reduceDiv,Nat.reduceLeDiff,dw0,Int.reduceAdd,Int.reduceSub,Int.reduceMul,Int.reduceLT,Int.reduceLE,Int.reduceNeg,Int.reduceEq,Int.reduceToNat,Nat.reduceLT,Nat.reduceMul,Nat.reduceSub,Nat.reduceBEq,Nat.reduceLeDiff,xw0,eApp,rowOf,appRow,lkL,lkN,eMupd,vLook,mapSh,findE,putE,keqL,hasSh,fits,shb,Int.reduceBEq,eMksl,vSlc,boundsOf,boundOf,cleanL,Nat.reduceGT,Int.reduceGT,Int.reduceGE,Int.reduceDiv,Int.reduceTDiv,vAidx,rdc,jB,Nat.add_assoc] at h
  refine h _ _ ?_
  clear h
  rw [wl_1 (by omega)]
  simp -implicitDefEqProofs only [fq16.n7_w,sw0,sw1,sw2,sw3,sw4,sw5,reduceCtorEq,Nat.reduceEqDiff,Nat.reduceAdd,Nat.reduceDiv,Nat.reduceLeDiff,dw0,Int.reduceAdd,Int.reduceSub,Int.reduceMul,Int.reduceLT,Int.reduceLE,Int.reduceNeg,Int.reduceEq,Int.reduceToNat,Nat.reduceLT,Nat.reduceMul,Nat.reduceSub,Nat.reduceBEq,Nat.reduceLeDiff,xw0,eApp,rowOf,appRow,lkL,lkN,eMupd,vLook,mapSh,findE,putE,keqL,hasSh,fits,shb,Int.reduceBEq,eMksl,vSlc,boundsOf,boundOf,cleanL,Nat.reduceGT,Int.reduceGT,Int.reduceGE,Int.reduceDiv,Int.reduceTDiv,vAidx,rdc,fq16.n10_w,Plan_u11]
  rw [wl_1 (by omega)]
  simp -implicitDefEqProofs only [fq16.n12_w,sw0,sw1,sw2,sw3,sw4,sw5,reduceCtorEq,Nat.reduceEqDiff,Nat.reduceAdd,Nat.reduceDiv,Nat.reduceLeDiff,dw0,Int.reduceAdd,Int.reduceSub,Int.reduceMul,Int.reduceLT,Int.reduceLE,Int.reduceNeg,Int.reduceEq,Int.reduceToNat,Nat.reduceLT,Nat.reduceMul,Nat.reduceSub,Nat.reduceBEq,Nat.reduceLeDiff,xw0,eApp,rowOf,appRow,lkL,lkN,eMupd,vLook,mapSh,findE,putE,keqL,hasSh,fits,shb,Int.reduceBEq,eMksl,vSlc,boundsOf,boundOf,cleanL,Nat.reduceGT,Int.reduceGT,Int.reduceGE,Int.reduceDiv,Int.reduceTDiv,vAidx,rdc,fq16.n14_w]
  have h:=fun (K:AV→St→Prop) X (hK)=>take2 (k:=k - 1) (b:=none) (K:=K) (n:=0) (m:=1) (f:=.fn F_fq17 [.ptr H.length 0 1]) hk2 (H:=H ++ [.cells [vB],.cells [iv 1],.cells [.slice true 0 []],.cells [iv 0],.cells [iv 0,iv 0],.cells [.sref (H.length + 4) 0 2 2 1]]) (L:=[m0,m1,x1,.cells [iv 0,iv 1],x2,X]) hK
  rw [show k - 1 + 1=k by omega] at h
  simp -implicitDefEqProofs only [sw0,sw1,sw2,sw3,sw4,sw5,reduceCtorEq,Nat.reduceEqDiff,Nat.reduceAdd,Nat.reduceDiv,Nat.reduceLeDiff,dw0,Int.reduceAdd,Int.reduceSub,Int.reduceMul,Int.reduceLT,Int.reduceLE,Int.reduceNeg,Int.reduceEq,Int.reduceToNat,Nat.reduceLT,Nat.reduceMul,Nat.reduceSub,Nat.reduceBEq,Nat.reduceLeDiff,xw0,eApp,rowOf,appRow,lkL,lkN,eMupd,vLook,mapSh,findE,putE,keqL,hasSh,fits,shb,Int.reduceBEq,eMksl,vSlc,boundsOf,boundOf,cleanL,Nat.reduceGT,Int.reduceGT,Int.reduceGE,Int.reduceDiv,Int.reduceTDiv,vAidx,rdc,Nat.add_assoc] at h
  refine h _ _ ?_
  clear h
  simp -implicitDefEqProofs only [sw0,sw1,sw2,sw3,sw4,sw5,reduceCtorEq,Nat.reduceEqDiff,Nat.reduceAdd,Nat.reduceDiv,Nat.reduceLeDiff,dw0,Int.reduceAdd,Int.reduceSub,Int.reduceMul,Int.reduceLT,Int.reduceLE,Int.reduceNeg,Int.reduceEq,Int.reduceToNat,Nat.reduceLT,Nat.reduceMul,Nat.reduceSub,Nat.reduceBEq,Nat.reduceLeDiff,xw0,eApp,rowOf,appRow,lkL,lkN,eMupd,vLook,mapSh,findE,putE,keqL,hasSh,fits,shb,Int.reduceBEq,eMksl,vSlc,boundsOf,boundOf,cleanL,Nat.reduceGT,Int.reduceGT,Int.reduceGE,Int.reduceDiv,Int.reduceTDiv,vAidx,rdc,fq16.n16_w,fq16.n17_w]
  rw [wl_1 (by omega)]
  simp -implicitDefEqProofs only [fq16.n12_w,sw0,sw1,sw2,sw3,sw4,sw5,reduceCtorEq,Nat.reduceEqDiff,Nat.reduceAdd,Nat.reduceDiv,Nat.reduceLeDiff,dw0,Int.reduceAdd,Int.reduceSub,Int.reduceMul,Int.reduceLT,Int.reduceLE,Int.reduceNeg,Int.reduceEq,Int.reduceToNat,Nat.reduceLT,Nat.reduceMul,Nat.reduceSub,Nat.reduceBEq,Nat.reduceLeDiff,xw0,eApp,rowOf,appRow,lkL,lkN,eMupd,vLook,mapSh,findE,putE,keqL,hasSh,fits,shb,Int.reduceBEq,eMksl,vSlc,boundsOf,boundOf,cleanL,Nat.reduceGT,Int.reduceGT,Int.reduceGE,Int.reduceDiv,Int.reduceTDiv,vAidx,rdc,YK]
  exact hK
theorem yB1 (hk:1000≤k) {r0 r1 r6 r9 r10 r11 r12 r13 r14 r15 r16 r17 r18 r19 r20 r21 r22 r23 r24 r25 r26 r27 r28 r29 r30 r31 r32 r33 r34 r35 r36 r37 r38 r39 r40 r41 r42 r43 r44 r45 r46 r47 r48 r49 r50 r51 r52 r53 r54 r55 r56 r57 r58 r59 r60 r61 r62 r63 r64 r65 r66:AV} {m0 m1:AObj} {x1 x2:AObj}
    (hK:K (.bool false) ⟨H ++ [.cells [vB],.cells [iv 1],.cells [.slice true 0 []],.cells [iv 7],.cells [iv 0,iv 0],.cells [.sref (H.length + 4) 0 2 2 1],.cells [.slice false 1 [],.fn F_fq17 [.ptr H.length 0 1]],m0,m1,x1,.cells [iv 0,iv 1],x2,.loop [r0,r1,.ptr H.length 0 1,.ptr (H.length + 1) 0 1,.ptr (H.length + 2) 0 1,.ptr (H.length + 3) 0 1,r6,.ptr (H.length + 5) 0 1,.ptr (H.length + 6) 0 2,r9,r10,r11,r12,r13,r14,r15,r16,r17,r18,r19,r20,r21,r22,r23,r24,r25,r26,r27,r28,r29,r30,r31,r32,r33,r34,r35,r36,r37,r38,r39,r40,r41,r42,r43,r44,r45,r46,r47,r48,r49,r50,r51,r52,r53,r54,r55,r56,r57,r58,r59,r60,r61,r62,r63,r64,r65,r66] [28,29] fq16.n4 fq16.n5 false (some .ret),.cells [iv 1,iv 1]],true⟩) :
    YC ⟨prog,k + 1,b⟩ (H.length + 12) [iv 1,.slice true 0 []] ⟨H ++ [.cells [vB],.cells [iv 1],.cells [.slice true 0 []],.cells [iv 0],.cells [iv 0,iv 0],.cells [.sref (H.length + 4) 0 2 2 1],.cells [.sref (H.length + 13) 0 1 2 1,.fn F_fq17 [.ptr H.length 0 1]],m0,m1,x1,.cells [iv 0,iv 1],x2,.loop [r0,r1,.ptr H.length 0 1,.ptr (H.length + 1) 0 1,.ptr (H.length + 2) 0 1,.ptr (H.length + 3) 0 1,r6,.ptr (H.length + 5) 0 1,.ptr (H.length + 6) 0 2,r9,r10,r11,r12,r13,r14,r15,r16,r17,r18,r19,r20,r21,r22,r23,r24,r25,r26,r27,r28,r29,r30,r31,r32,r33,r34,r35,r36,r37,r38,r39,r40,r41,r42,r43,r44,r45,r46,r47,r48,r49,r50,r51,r52,r53,r54,r55,r56,r57,r58,r59,r60,r61,r62,r63,r64,r65,r66] [28,29] fq16.n4 fq16.n5 true none,.cells [iv 1,iv 1]],true⟩ K:=by
  have hk1:100≤k:=by omega
  have hk2:100≤k - 1:=by omega
  refine YC_go (by simp -implicitDefEqProofs only [sw0,sw1,sw2,sw3,sw4,sw5,reduceCtorEq,Nat.reduceEqDiff,Nat.reduceAdd,Nat.reduceDiv,Nat.reduceLeDiff,dw0,Int.reduceAdd,Int.reduceSub,Int.reduceMul,Int.reduceLT,Int.reduceLE,Int.reduceNeg,Int.reduceEq,Int.reduceToNat,Nat.reduceLT,Nat.reduceMul,Nat.reduceSub,Nat.reduceBEq,Nat.reduceLeDiff,xw0,eApp,rowOf,appRow,lkL,lkN,eMupd,vLook,mapSh,findE,putE,keqL,hasSh,fits,shb,Int.reduceBEq,eMksl,vSlc,boundsOf,boundOf,cleanL,Nat.reduceGT,Int.reduceGT,Int.reduceGE,Int.reduceDiv,Int.reduceTDiv,vAidx,rdc]; rfl) rfl ?_
  simp -implicitDefEqProofs only [sw0,sw1,sw2,sw3,sw4,sw5,reduceCtorEq,Nat.reduceEqDiff,Nat.reduceAdd,Nat.reduceDiv,Nat.reduceLeDiff,dw0,Int.reduceAdd,Int.reduceSub,Int.reduceMul,Int.reduceLT,Int.reduceLE,Int.reduceNeg,Int.reduceEq,Int.reduceToNat,Nat.reduceLT,Nat.reduceMul,Nat.reduceSub,Nat.reduceBEq,Nat.reduceLeDiff,xw0,eApp,rowOf,appRow,lkL,lkN,eMupd,vLook,mapSh,findE,putE,keqL,hasSh,fits,shb,Int.reduceBEq,eMksl,vSlc,boundsOf,boundOf,cleanL,Nat.reduceGT,Int.reduceGT,Int.reduceGE,Int.reduceDiv,Int.reduceTDiv,vAidx,rdc,fq16.n4_w,fq16.n5_w,YK,Plan_u6]
  refine ⟨⟨_,_,_,_,rfl⟩,?_⟩
  rw [wl_1 (by omega)]
  simp -implicitDefEqProofs only [fq16.n7_w,sw0,sw1,sw2,sw3,sw4,sw5,reduceCtorEq,Nat.reduceEqDiff,Nat.reduceAdd,Nat.reduceDiv,Nat.reduceLeDiff,dw0,Int.reduceAdd,Int.reduceSub,Int.reduceMul,Int.reduceLT,Int.reduceLE,Int.reduceNeg,Int.reduceEq,Int.reduceToNat,Nat.reduceLT,Nat.reduceMul,Nat.reduceSub,Nat.reduceBEq,Nat.reduceLeDiff,xw0,eApp,rowOf,appRow,lkL,lkN,eMupd,vLook,mapSh,findE,putE,keqL,hasSh,fits,shb,Int.reduceBEq,eMksl,vSlc,boundsOf,boundOf,cleanL,Nat.reduceGT,Int.reduceGT,Int.reduceGE,Int.reduceDiv,Int.reduceTDiv,vAidx,rdc,fq16.n10_w,Plan_u11]
  rw [wl_1 (by omega)]
  simp -implicitDefEqProofs only [fq16.n12_w,sw0,sw1,sw2,sw3,sw4,sw5,reduceCtorEq,Nat.reduceEqDiff,Nat.reduceAdd,Nat.reduceDiv,Nat.reduceLeDiff,dw0,Int.reduceAdd,Int.reduceSub,Int.reduceMul,Int.reduceLT,Int.reduceLE,Int.reduceNeg,Int.reduceEq,Int.reduceToNat,Nat.reduceLT,Nat.reduceMul,Nat.reduceSub,Nat.reduceBEq,Nat.reduceLeDiff,xw0,eApp,rowOf,appRow,lkL,lkN,eMupd,vLook,mapSh,findE,putE,keqL,hasSh,fits,shb,Int.reduceBEq,eMksl,vSlc,boundsOf,boundOf,cleanL,Nat.reduceGT,Int.reduceGT,Int.reduceGE,Int.reduceDiv,Int.reduceTDiv,vAidx,rdc,fq16.n14_w]
  have h:=fun (K:AV→St→Prop) X (hK)=>take1 (k:=k - 1) (b:=none) (K:=K) (ver:=2) (R:=[iv 1]) (n:=1) (f:=.fn F_fq17 [.ptr H.length 0 1]) hk2 rfl (H:=H ++ [.cells [vB],.cells [iv 1],.cells [.slice true 0 []],.cells [iv 0],.cells [iv 0,iv 0],.cells [.sref (H.length + 4) 0 2 2 1]]) (L:=[m0,m1,x1,.cells [iv 0,iv 1],x2,X]) hK
  rw [show k - 1 + 1=k by omega] at h
  simp -implicitDefEqProofs only [sw0,sw1,sw2,sw3,sw4,sw5,reduceCtorEq,Nat.reduceEqDiff,Nat.reduceAdd,Nat.reduceDiv,Nat.reduceLeDiff,dw0,Int.reduceAdd,Int.reduceSub,Int.reduceMul,Int.reduceLT,Int.reduceLE,Int.reduceNeg,Int.reduceEq,Int.reduceToNat,Nat.reduceLT,Nat.reduceMul,Nat.reduceSub,Nat.reduceBEq,Nat.reduceLeDiff,xw0,eApp,rowOf,appRow,lkL,lkN,eMupd,vLook,mapSh,findE,putE,keqL,hasSh,fits,shb,Int.reduceBEq,eMksl,vSlc,boundsOf,boundOf,cleanL,Nat.reduceGT,Int.reduceGT,Int.reduceGE,Int.reduceDiv,Int.reduceTDiv,vAidx,rdc,Nat.add_assoc] at h
  refine h _ _ ?_
  clear h
  simp -implicitDefEqProofs only [sw0,sw1,sw2,sw3,sw4,sw5,reduceCtorEq,Nat.reduceEqDiff,Nat.reduceAdd,Nat.reduceDiv,Nat.reduceLeDiff,dw0,Int.reduceAdd,Int.reduceSub,Int.reduceMul,Int.reduceLT,Int.reduceLE,Int.reduceNeg,Int.reduceEq,Int.reduceToNat,Nat.reduceLT,Nat.reduceMul,Nat.reduceSub,Nat.reduceBEq,Nat.reduceLeDiff,xw0,eApp,rowOf,appRow,lkL,lkN,eMupd,vLook,mapSh,findE,putE,keqL,hasSh,fits,shb,Int.reduceBEq,eMksl,vSlc,boundsOf,boundOf,cleanL,Nat.reduceGT,Int.reduceGT,Int.reduceGE,Int.reduceDiv,Int.reduceTDiv,vAidx,rdc,fq16.n15_w,YK]
  exact hK
theorem runB (hk:1000≤k) {r0 r1 r6 r9 r10 r11 r12 r13 r14 r15 r16 r17 r18 r19 r20 r21 r22 r23 r24 r25 r26 r27 r28 r29 r30 r31 r32 r33 r34 r35 r36 r37 r38 r39 r40 r41 r42 r43 r44 r45 r46 r47 r48 r49 r50 r51 r52 r53 r54 r55 r56 r57 r58 r59 r60 r61 r62 r63 r64 r65 r66:AV} {x1 x2:AObj} (hK:K (.tup []) ⟨H ++ [.cells [vB],.cells [iv 1],.cells [.slice true 0 []],.cells [iv 7],.cells [iv 0,iv 0],.cells [.sref (H.length + 4) 0 2 2 1],.cells [.slice false 1 [],.fn F_fq17 [.ptr H.length 0 1]],.map shI 2 [(iv 0,.sref (H.length + 10) 0 2 2 1)],.cells [.map (H.length + 7)],x1,.cells [iv 0,iv 1],x2,.loop [r0,r1,.ptr H.length 0 1,.ptr (H.length + 1) 0 1,.ptr (H.length + 2) 0 1,.ptr (H.length + 3) 0 1,r6,.ptr (H.length + 5) 0 1,.ptr (H.length + 6) 0 2,r9,r10,r11,r12,r13,r14,r15,r16,r17,r18,r19,r20,r21,r22,r23,r24,r25,r26,r27,r28,r29,r30,r31,r32,r33,r34,r35,r36,r37,r38,r39,r40,r41,r42,r43,r44,r45,r46,r47,r48,r49,r50,r51,r52,r53,r54,r55,r56,r57,r58,r59,r60,r61,r62,r63,r64,r65,r66] [28,29] fq16.n4 fq16.n5 false (some .ret),.cells [iv 1,iv 1]],true⟩):VC ⟨prog,k + 2,b⟩ F_fq41 [.yield (H.length + 12),.ptr (H.length + 8) 0 1] ⟨H ++ [.cells [vB],.cells [iv 1],.cells [.slice true 0 []],.cells [iv 0],.cells [iv 0,iv 0],.cells [.sref (H.length + 4) 0 2 2 1],.cells [.slice true 0 [],.fn F_fq17 [.ptr H.length 0 1]],.map shI 2 [(iv 0,.sref (H.length + 10) 0 2 2 1)],.cells [.map (H.length + 7)],x1,.cells [iv 0,iv 1],x2,.loop [r0,r1,.ptr H.length 0 1,.ptr (H.length + 1) 0 1,.ptr (H.length + 2) 0 1,.ptr (H.length + 3) 0 1,r6,.ptr (H.length + 5) 0 1,.ptr (H.length + 6) 0 2,r9,r10,r11,r12,r13,r14,r15,r16,r17,r18,r19,r20,r21,r22,r23,r24,r25,r26,r27,r28,r29,r30,r31,r32,r33,r34,r35,r36,r37,r38,r39,r40,r41,r42,r43,r44,r45,r46,r47,r48,r49,r50,r51,r52,r53,r54,r55,r56,r57,r58,r59,r60,r61,r62,r63,r64,r65,r66] [28,29] fq16.n4 fq16.n5 true none],lk⟩ K:=by
  refine slots_1_s (k:=k + 1) (J:=fun t s=>(t=0∧∃ lk,s=⟨H ++ [.cells [vB],.cells [iv 1],.cells [.slice true 0 []],.cells [iv 0],.cells [iv 0,iv 0],.cells [.sref (H.length + 4) 0 2 2 1],.cells [.slice true 0 [],.fn F_fq17 [.ptr H.length 0 1]],.map shI 2 [(iv 0,.sref (H.length + 10) 0 2 2 1)],.cells [.map (H.length + 7)],x1,.cells [iv 0,iv 1],x2,.loop [r0,r1,.ptr H.length 0 1,.ptr (H.length + 1) 0 1,.ptr (H.length + 2) 0 1,.ptr (H.length + 3) 0 1,r6,.ptr (H.length + 5) 0 1,.ptr (H.length + 6) 0 2,r9,r10,r11,r12,r13,r14,r15,r16,r17,r18,r19,r20,r21,r22,r23,r24,r25,r26,r27,r28,r29,r30,r31,r32,r33,r34,r35,r36,r37,r38,r39,r40,r41,r42,r43,r44,r45,r46,r47,r48,r49,r50,r51,r52,r53,r54,r55,r56,r57,r58,r59,r60,r61,r62,r63,r64,r65,r66] [28,29] fq16.n4 fq16.n5 true none],lk⟩)∨(t=1∧s=⟨H ++ [.cells [vB],.cells [iv 1],.cells [.slice true 0 []],.cells [iv 0],.cells [iv 0,iv 0],.cells [.sref (H.length + 4) 0 2 2 1],.cells [.sref (H.length + 13) 0 1 2 1,.fn F_fq17 [.ptr H.length 0 1]],.map shI 2 [(iv 0,.sref (H.length + 10) 0 2 2 1)],.cells [.map (H.length + 7)],x1,.cells [iv 0,iv 1],x2,.loop [r0,r1,.ptr H.length 0 1,.ptr (H.length + 1) 0 1,.ptr (H.length + 2) 0 1,.ptr (H.length + 3) 0 1,r6,.ptr (H.length + 5) 0 1,.ptr (H.length + 6) 0 2,r9,r10,r11,r12,r13,r14,r15,r16,r17,r18,r19,r20,r21,r22,r23,r24,r25,r26,r27,r28,r29,r30,r31,r32,r33,r34,r35,r36,r37,r38,r39,r40,r41,r42,r43,r44,r45,r46,r47,r48,r49,r50,r51,r52,r53,r54,r55,r56,r57,r58,r59,r60,r61,r62,r63,r64,r65,r66] [28,29] fq16.n4 fq16.n5 true none,.cells [iv 1,iv 1]],true⟩)) (R:=fun s=>s=⟨H ++ [.cells [vB],.cells [iv 1],.cells [.slice true 0 []],.cells [iv 7],.cells [iv 0,iv 0],.cells [.sref (H.length + 4) 0 2 2 1],.cells [.slice false 1 [],.fn F_fq17 [.ptr H.length 0 1]],.map shI 2 [(iv 0,.sref (H.length + 10) 0 2 2 1)],.cells [.map (H.length + 7)],x1,.cells [iv 0,iv 1],x2,.loop [r0,r1,.ptr H.length 0 1,.ptr (H.length + 1) 0 1,.ptr (H.length + 2) 0 1,.ptr (H.length + 3) 0 1,r6,.ptr (H.length + 5) 0 1,.ptr (H.length + 6) 0 2,r9,r10,r11,r12,r13,r14,r15,r16,r17,r18,r19,r20,r21,r22,r23,r24,r25,r26,r27,r28,r29,r30,r31,r32,r33,r34,r35,r36,r37,r38,r39,r40,r41,r42,r43,r44,r45,r46,r47,r48,r49,r50,r51,r52,r53,r54,r55,r56,r57,r58,r59,r60,r61,r62,r63,r64,r65,r66] [28,29] fq16.n4 fq16.n5 false (some .ret),.cells [iv 1,iv 1]],true⟩) (by omega) ?_ (.inl ⟨rfl,_,rfl⟩) (fun s h=>by rcases h with ⟨h,_⟩ | ⟨h,_⟩ <;> omega) (fun s h=>by subst h; exact ⟨rfl,hK⟩)
  rintro t s ht (⟨rfl,lk',rfl⟩ | ⟨rfl,rfl⟩)
  · refine ⟨.map (H.length + 7),.sref (H.length + 10) 0 2 2 1,by simp -implicitDefEqProofs only [sw0,sw1,sw2,sw3,sw4,sw5,reduceCtorEq,Nat.reduceEqDiff,Nat.reduceAdd,Nat.reduceDiv,Nat.reduceLeDiff,dw0,Int.reduceAdd,Int.reduceSub,Int.reduceMul,Int.reduceLT,Int.reduceLE,Int.reduceNeg,Int.reduceEq,Int.reduceToNat,Nat.reduceLT,Nat.reduceMul,Nat.reduceSub,Nat.reduceBEq,Nat.reduceLeDiff,xw0,eApp,rowOf,appRow,lkL,lkN,eMupd,vLook,mapSh,findE,putE,keqL,hasSh,fits,shb,Int.reduceBEq,eMksl,vSlc,boundsOf,boundOf,cleanL,Nat.reduceGT,Int.reduceGT,Int.reduceGE,Int.reduceDiv,Int.reduceTDiv,vAidx,rdc],by simp -implicitDefEqProofs only [sw0,sw1,sw2,sw3,sw4,sw5,reduceCtorEq,Nat.reduceEqDiff,Nat.reduceAdd,Nat.reduceDiv,Nat.reduceLeDiff,dw0,Int.reduceAdd,Int.reduceSub,Int.reduceMul,Int.reduceLT,Int.reduceLE,Int.reduceNeg,Int.reduceEq,Int.reduceToNat,Nat.reduceLT,Nat.reduceMul,Nat.reduceSub,Nat.reduceBEq,Nat.reduceLeDiff,xw0,eApp,rowOf,appRow,lkL,lkN,eMupd,vLook,mapSh,findE,putE,keqL,hasSh,fits,shb,Int.reduceBEq,eMksl,vSlc,boundsOf,boundOf,cleanL,Nat.reduceGT,Int.reduceGT,Int.reduceGE,Int.reduceDiv,Int.reduceTDiv,vAidx,rdc],fun b=>yB0 hk ?_⟩
    exact .inl ⟨rfl,.inr ⟨rfl,rfl⟩⟩
  · refine ⟨.map (H.length + 7),.slice true 0 [],by simp -implicitDefEqProofs only [sw0,sw1,sw2,sw3,sw4,sw5,reduceCtorEq,Nat.reduceEqDiff,Nat.reduceAdd,Nat.reduceDiv,Nat.reduceLeDiff,dw0,Int.reduceAdd,Int.reduceSub,Int.reduceMul,Int.reduceLT,Int.reduceLE,Int.reduceNeg,Int.reduceEq,Int.reduceToNat,Nat.reduceLT,Nat.reduceMul,Nat.reduceSub,Nat.reduceBEq,Nat.reduceLeDiff,xw0,eApp,rowOf,appRow,lkL,lkN,eMupd,vLook,mapSh,findE,putE,keqL,hasSh,fits,shb,Int.reduceBEq,eMksl,vSlc,boundsOf,boundOf,cleanL,Nat.reduceGT,Int.reduceGT,Int.reduceGE,Int.reduceDiv,Int.reduceTDiv,vAidx,rdc],by simp -implicitDefEqProofs only [sw0,sw1,sw2,sw3,sw4,sw5,reduceCtorEq,Nat.reduceEqDiff,Nat.reduceAdd,Nat.reduceDiv,Nat.reduceLeDiff,dw0,Int.reduceAdd,Int.reduceSub,Int.reduceMul,Int.reduceLT,Int.reduceLE,Int.reduceNeg,Int.reduceEq,Int.reduceToNat,Nat.reduceLT,Nat.reduceMul,Nat.reduceSub,Nat.reduceBEq,Nat.reduceLeDiff,xw0,eApp,rowOf,appRow,lkL,lkN,eMupd,vLook,mapSh,findE,putE,keqL,hasSh,fits,shb,Int.reduceBEq,eMksl,vSlc,boundsOf,boundOf,cleanL,Nat.reduceGT,Int.reduceGT,Int.reduceGE,Int.reduceDiv,Int.reduceTDiv,vAidx,rdc],fun b=>yB1 hk ?_⟩
    exact .inr ⟨rfl,rfl⟩
theorem PlanB (hk:3000≤k) (hK:∀ L,K (.tup [.slice true 0 [],iv 7]) ⟨H ++ L,true⟩):VC ⟨prog,k,b⟩ F_fq16 [vB,iv 1] ⟨H,lk⟩ K:=by
  obtain ⟨k,rfl⟩:∃ j,k=j + 1:=⟨k - 1,by omega⟩
  apply fq16.enter
  have hjb:(decide (jB.length≤200) && jB.all jobOk)=true:=by decide
  have h11:((1:Int)≤1∧(1:Int)≤8)=True:=by simp
  have hask:=fun (H':List AObj) (K:AV→St→Prop)=>asked_s (K:=K) (k:=k) (b:=some H.length) (lk:=false) (by omega) (H:=H') vB_sl (c:=1) (by decide)
  simp -implicitDefEqProofs only [hjb,if_true,h11] at hask
  have hmk:∀ (H':List AObj),eMksl ⟨H',false⟩ 1 8 [iv 0] (iv 2) (iv 2)=some (.sref H'.length 0 2 (2 * 1) 1,⟨H' ++ [.cells [iv 0,iv 0]],false⟩):=fun H'=>by simp [eMksl,push]
  simp -implicitDefEqProofs only [fq16.n0_w,sw0,sw1,sw2,sw3,sw4,sw5,reduceCtorEq,Nat.reduceEqDiff,Nat.reduceAdd,Nat.reduceDiv,Nat.reduceLeDiff,dw0,Int.reduceAdd,Int.reduceSub,Int.reduceMul,Int.reduceLT,Int.reduceLE,Int.reduceNeg,Int.reduceEq,Int.reduceToNat,Nat.reduceLT,Nat.reduceMul,Nat.reduceSub,Nat.reduceBEq,Nat.reduceLeDiff,hask,fq16.n2_w,hmk]
  refine slotsB (by omega) ?_
  simp -implicitDefEqProofs only [sw0,sw1,sw2,sw3,sw4,sw5,reduceCtorEq,Nat.reduceEqDiff,Nat.reduceAdd,Nat.reduceDiv,Nat.reduceLeDiff,dw0,Int.reduceAdd,Int.reduceSub,Int.reduceMul,Int.reduceLT,Int.reduceLE,Int.reduceNeg,Int.reduceEq,Int.reduceToNat,Nat.reduceLT,Nat.reduceMul,Nat.reduceSub,Nat.reduceBEq,Nat.reduceLeDiff,xw0,eApp,rowOf,appRow,lkL,lkN,eMupd,vLook,mapSh,findE,putE,keqL,hasSh,fits,shb,Int.reduceBEq,eMksl,vSlc,boundsOf,boundOf,cleanL,Nat.reduceGT,Int.reduceGT,Int.reduceGE,Int.reduceDiv,Int.reduceTDiv,vAidx,rdc]
  refine WC_rf (f:=F_fq41) (caps:=[.ptr (H.length + 8) 0 1]) rfl ?_
  obtain ⟨k',hk'⟩:∃ j,k=j + 2:=⟨k - 2,by omega⟩
  simp -implicitDefEqProofs only [sw0,sw1,sw2,sw3,sw4,sw5,reduceCtorEq,Nat.reduceEqDiff,Nat.reduceAdd,Nat.reduceDiv,Nat.reduceLeDiff,dw0,Int.reduceAdd,Int.reduceSub,Int.reduceMul,Int.reduceLT,Int.reduceLE,Int.reduceNeg,Int.reduceEq,Int.reduceToNat,Nat.reduceLT,Nat.reduceMul,Nat.reduceSub,Nat.reduceBEq,Nat.reduceLeDiff,xw0,eApp,rowOf,appRow,lkL,lkN,eMupd,vLook,mapSh,findE,putE,keqL,hasSh,fits,shb,Int.reduceBEq,eMksl,vSlc,boundsOf,boundOf,cleanL,Nat.reduceGT,Int.reduceGT,Int.reduceGE,Int.reduceDiv,Int.reduceTDiv,vAidx,rdc]
  have hrun:=fun (K:AV→St→Prop) (b:Option Nat)=>@runB k' b H false K (by omega)
  rw [← hk'] at hrun
  refine hrun _ _ ?_
  simp -implicitDefEqProofs only [RF,sw0,sw1,sw2,sw3,sw4,sw5,reduceCtorEq,Nat.reduceEqDiff,Nat.reduceAdd,Nat.reduceDiv,Nat.reduceLeDiff,dw0,Int.reduceAdd,Int.reduceSub,Int.reduceMul,Int.reduceLT,Int.reduceLE,Int.reduceNeg,Int.reduceEq,Int.reduceToNat,Nat.reduceLT,Nat.reduceMul,Nat.reduceSub,Nat.reduceBEq,Nat.reduceLeDiff,xw0,eApp,rowOf,appRow,lkL,lkN,eMupd,vLook,mapSh,findE,putE,keqL,hasSh,fits,shb,Int.reduceBEq,eMksl,vSlc,boundsOf,boundOf,cleanL,Nat.reduceGT,Int.reduceGT,Int.reduceGE,Int.reduceDiv,Int.reduceTDiv,vAidx,rdc,fq16.res]
  simp -implicitDefEqProofs only [RK_r,resultsOf,resultOf,sw0,sw1,sw2,sw3,sw4,sw5,reduceCtorEq,Nat.reduceEqDiff,Nat.reduceAdd,Nat.reduceDiv,Nat.reduceLeDiff,dw0,Int.reduceAdd,Int.reduceSub,Int.reduceMul,Int.reduceLT,Int.reduceLE,Int.reduceNeg,Int.reduceEq,Int.reduceToNat,Nat.reduceLT,Nat.reduceMul,Nat.reduceSub,Nat.reduceBEq,Nat.reduceLeDiff,xw0,eApp,rowOf,appRow,lkL,lkN,eMupd,vLook,mapSh,findE,putE,keqL,hasSh,fits,shb,Int.reduceBEq,eMksl,vSlc,boundsOf,boundOf,cleanL,Nat.reduceGT,Int.reduceGT,Int.reduceGE,Int.reduceDiv,Int.reduceTDiv,vAidx,rdc]
  exact hK _
end Go.Proofs.YtcebebhaahpoiaaDoor
end
