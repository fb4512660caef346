/- PlantCheapest: for every plant, schedule, and change of it the law answers true and turns nothing, with no condition. Part 5 of 5. -/
import Derived.KernelRfl
import Derived.Test.YtcebebhaahpoiaaDoorE4
set_option maxHeartbeats 2000000
set_option linter.unusedSimpArgs false
set_option linter.unusedVariables false
set_option linter.deprecated false
set_option linter.all false
section
namespace Go.Proofs.YtcebebhaahpoiaaDoor
open Go Go.Ai Go.W
attribute [local irreducible] VC YC WC
set_option linter.unusedSimpArgs false
set_option linter.unusedVariables false
set_option maxRecDepth 10000
variable {k:Nat} {b:Option Nat} {H:List AObj} {lk:Bool} {K:AV→St→Prop}
def mstep (val:Nat→Int) (acc:Int × Nat) (c:Nat):Int × Nat:=if acc.1 < 0∨val c < acc.1 then (val c,c) else acc
theorem pstep_m {D f a S}:pstep D f a S=mstep (fun c=>f (wo c S) + D a c):=rfl
def firstOf (val:Nat→Int) (done:List Nat) (acc:Int × Nat):Prop :=
  (done=[]∧acc.1 < 0)∨∃ l1 l2,done=l1 ++ acc.2 :: l2∧val acc.2=acc.1∧0≤acc.1∧(∀ d,d ∈ l1→acc.1 < val d)∧(∀ d,d ∈ l2→acc.1≤val d)
theorem fold_firstOf {val:Nat→Int}:∀ (S done:List Nat) (acc:Int × Nat),(∀ c,c ∈ S→0≤val c)→firstOf val done acc→firstOf val (done ++ S) (S.foldl (mstep val) acc)
  | [],done,acc,_,h=>by rw [List.append_nil]; exact h
  | c :: S, done,acc,hv,h=>by
    rw [List.foldl_cons,show done ++ c :: S=(done ++ [c]) ++ S by simp]
    have hc:=hv c (by simp)
    refine fold_firstOf S _ _ (fun d hd=>hv d (by simp [hd])) ?_
    unfold mstep
    rcases h with ⟨rfl,h0⟩ | ⟨l1,l2,rfl,h1,h2,h3,h4⟩
    · rw [if_pos (.inl h0)]
      exact .inr ⟨[],[],rfl,rfl,hc,fun d hd=>(by cases hd),fun d hd=>(by cases hd)⟩
    · by_cases hlt:val c < acc.1
      · rw [if_pos (.inr hlt)]
        refine .inr ⟨l1 ++ acc.2 :: l2,[],by simp,rfl,hc,fun d hd=>?_,fun d hd=>(by cases hd)⟩
        dsimp only
        rcases List.mem_append.1 hd with h | h
        · have:=h3 d h; omega
        · rcases List.mem_cons.1 h with rfl | h
          · omega
          · have:=h4 d h; omega
      · rw [if_neg (by omega)]
        refine .inr ⟨l1,l2 ++ [c],by simp,h1,h2,h3,fun d hd=>?_⟩
        rcases List.mem_append.1 hd with h | h
        · exact h4 d h
        · simp -implicitDefEqProofs only [List.mem_singleton] at h
          subst h
          omega
theorem fold_first {val:Nat→Int} {S:List Nat} (hne:S ≠ []) (hv:∀ c,c ∈ S→0≤val c) {acc:Int × Nat} (he:S.foldl (mstep val) (-1,0)=acc) :
    ∃ l1 l2,S=l1 ++ acc.2 :: l2∧val acc.2=acc.1∧0≤acc.1∧(∀ d,d ∈ l1→acc.1 < val d)∧(∀ d,d ∈ l2→acc.1≤val d):=by
  have:=fold_firstOf S [] (-1,0) hv (.inl ⟨rfl,by decide⟩)
  rw [he,List.nil_append] at this
  exact this.resolve_left fun h=>hne h.1
theorem lm_pos {D:Nat→Nat→Int} {n:Nat} (hD:∀ a c,0≤D a c):∀ (r:Nat) (S:List Nat),0≤(lm D n r S).1
  | 0,S=>by simp [lm]
  | r + 1,[]=>by simp [lm]
  | r + 1,a :: S=>by
    rw [lm,pstep_m]
    obtain ⟨_,_,_,_,h,_⟩:=fold_first (val:=fun c=>(lm D n r (wo c (a :: S))).1 + D (n - (S.length + 1)) c) (S:=a :: S) (by simp) (fun c _=>by have:=lm_pos (n:=n) hD r (wo c (a :: S)); have:=hD (n - (S.length + 1)) c; omega) rfl
    exact h
theorem lv_first {D:Nat→Nat→Int} {n:Nat} (hD:∀ a c,0≤D a c) {S:List Nat} (hne:S ≠ []) (hn:S.Nodup) (hl:S.length≤64) :
    ∃ l1 l2,S=l1 ++ (lv D n S).2 :: l2∧(lv D n (wo (lv D n S).2 S)).1 + D (n - S.length) (lv D n S).2=(lv D n S).1∧(∀ d,d ∈ l1→(lv D n (wo d S)).1 + D (n - S.length) d ≠ (lv D n S).1):=by
  have h:=lv_cons (D:=D) (n:=n) hne hn hl
  rw [pstep_m] at h
  obtain ⟨l1,l2,h1,h2,_,h3,_⟩:=fold_first hne (fun c _=>by have:=lm_pos (n:=n) hD 64 (wo c S); have:=hD (n - S.length) c; unfold lv; omega) h.symm
  exact ⟨l1,l2,h1,h2,fun d hd e=>by have:=h3 d hd; omega⟩
theorem first_uniq {P:Nat→Prop}:∀ {l m r t:List Nat} {c a:Nat},l ++ c :: r=m ++ a :: t→(∀ d,d ∈ l→¬ P d)→(∀ d,d ∈ m→¬ P d)→P c→P a→c=a
  | [],[],r,t,c,a,e,_,_,_,_=>by simpa using (List.cons.inj e).1
  | [],x :: m,r,t,c,a,e,_,h2,hc,_=>by
    have:=(List.cons.inj e).1
    exact absurd (this ▸ hc) (h2 x (by simp))
  | x :: l,[],r,t,c,a,e,h1,_,_,ha=>by
    have:=(List.cons.inj e).1
    exact absurd (this.symm ▸ ha) (h1 x (by simp))
  | x :: l,y :: m,r,t,c,a,e,h1,h2,hc,ha=>first_uniq (List.cons.inj e).2 (fun d hd=>h1 d (by simp [hd])) (fun d hd=>h2 d (by simp [hd])) hc ha
def nrow (D:Nat→Nat→Int) (n:Nat):Nat→List Nat→List Int
  | 0,_=>[]
  | _ + 1,[]=>[]
  | r + 1,a :: S=>((lv D n (a :: S)).2:Int) :: nrow D n r (wo (lv D n (a :: S)).2 (a :: S))
theorem nrow_ne {D:Nat→Nat→Int} {n r:Nat} {S:List Nat} (h:S ≠ []):nrow D n (r + 1) S=((lv D n S).2:Int) :: nrow D n r (wo (lv D n S).2 S):=by
  cases S with
  | nil=>exact absurd rfl h
  | cons a S=>rfl
def cnt (rs:List (AV × List Int)) (s x:Nat):Int:=(rs.countP fun q=>decide (q.2[s]?=some (x:Int)):Nat)
theorem cnt_le {rs:List (AV × List Int)} {s x:Nat}:0≤cnt rs s x∧cnt rs s x≤rs.length:=by
  unfold cnt
  have:=List.countP_le_length (p:=fun q:AV × List Int=>decide (q.2[s]?=some (x:Int))) (l:=rs)
  omega
def nextAns (n:Int) (rs:List (AV × List Int)):List AV :=
  if rot n rs then (if rs.length=100 then [.slice true 0 [],iv 6] else [.slice false 1 ((nrow (cnt rs) n.toNat n.toNat (List.range n.toNat)).map ic),iv 0]) else [.slice true 0 [],iv 2]
theorem tab8_ext {D D':Nat→Nat→Int} (h:∀ s x,s < 8→x < 8→D s x=D' s x):tab8 D=tab8 D':=by
  unfold tab8
  refine List.map_congr_left fun i hi=>?_
  rw [List.mem_range] at hi
  rw [h _ _ (by omega) (by omega)]
theorem tab8_set {D:Nat→Nat→Int} {s x:Nat} {v:Int} (hs:s < 8) (hx:x < 8):(tab8 D).set (s * 8 + x) (iv v)=tab8 fun a c=>if a=s∧c=x then v else D a c:=by
  unfold tab8
  refine List.ext_getElem (by simp) fun i h1 h2=>?_
  simp -implicitDefEqProofs only [List.length_set,List.length_map,List.length_range] at h1
  rw [List.getElem_set]
  simp -implicitDefEqProofs only [List.getElem_map,List.getElem_range]
  by_cases e:s * 8 + x=i
  · rw [if_pos e,if_pos ⟨by omega,by omega⟩]
  · rw [if_neg e,if_neg (by omega)]
def cntT (rs:List (AV × List Int)) (l:List Int) (j s x:Nat):Int:=cnt rs s x + if s < j∧l[s]?=some (x:Int) then 1 else 0
theorem cntT_zero {rs l}:cntT rs l 0=cnt rs:=by
  funext s x
  simp [cntT]
theorem cntT_le {rs:List (AV × List Int)} {l j s x}:0≤cntT rs l j s x∧cntT rs l j s x≤rs.length + 1:=by
  have:=cnt_le (rs:=rs) (s:=s) (x:=x)
  unfold cntT
  split <;> omega
theorem cntT_full {rs:List (AV × List Int)} {q:AV × List Int} (h:q.2.length≤8):tab8 (cntT rs q.2 q.2.length)=tab8 (cnt (rs ++ [q])):=by
  refine tab8_ext fun s x hs hx=>?_
  unfold cntT cnt
  rw [List.countP_append,List.countP_singleton]
  by_cases e:q.2[s]?=some (x:Int)
  · have:s < q.2.length:=(List.getElem?_eq_some_iff.1 e).1
    simp -implicitDefEqProofs only [e,this,true_and,and_self,if_true,decide_true]
    omega
  · simp [e]
theorem cntT_step {rs:List (AV × List Int)} {l:List Int} {j x:Nat} (hj:j < 8) (hx:x < 8) (hl:l[j]?=some (x:Int)):(tab8 (cntT rs l j)).set (j * 8 + x) (iv (cntT rs l j j x + 1))=tab8 (cntT rs l (j + 1)):=by
  rw [tab8_set hj hx]
  refine tab8_ext fun s y hs hy=>?_
  unfold cntT
  by_cases e:s=j
  · subst e
    rw [hl]
    by_cases e2:y=x
    · subst e2; simp
    · have:¬ x=y:=fun e=>e2 e.symm
      have:¬ ((x:Int)=(y:Int)):=by omega
      simp [e2,this]
  · have:(s < j + 1)=(s < j):=by simp; omega
    simp [e,this]
theorem rnd_at {n:Int} {l:List Int} (h:rnd n l=true):(∀ x,x ∈ l→0≤x∧x≤n - 1)∧l.Nodup∧(l.length:Int)=n:=of_decide_eq_true h
theorem Next_s (hk:1700≤k) {v:AV} {n:Int} {rs:List (AV × List Int)} (hs:RD H v rs) (hl:rs.length≤1000) (hw:∀ q,q ∈ rs→q.2.length≤500) :
    VC ⟨prog,k,b⟩ F_fq15 [iv n,v] ⟨H,lk⟩ K=K (.tup (nextAns n rs)) ⟨H,lk⟩:=by
  obtain ⟨k,rfl⟩:∃ j,k=j + 1:=⟨k - 1,by omega⟩
  apply VC_iff
  apply fq15.enter
  have hcr:=fun (K:AV→St→Prop)=>CheckRotation_s (K:=K) (k:=k) (b:=some H.length) (lk:=false) (n:=n) (by omega) hs hl hw
  cases hr:rot n rs
  · rw [hr] at hcr
    have hans:nextAns n rs=[.slice true 0 [],iv 2]:=by unfold nextAns; rw [hr]; rfl
    simp -implicitDefEqProofs only [fq15.n0_w,sw0,sw1,sw2,sw3,sw4,sw5,reduceCtorEq,Nat.reduceEqDiff,Nat.reduceAdd,Nat.reduceDiv,Nat.reduceLeDiff,hcr,fq15.n1_w,fq15.ret,hans]
  rw [hr] at hcr
  by_cases c1:(rs.length:Int)=100
  · have hans:nextAns n rs=[.slice true 0 [],iv 6]:=by unfold nextAns; rw [hr,if_pos rfl,if_pos (by omega)]
    simp -implicitDefEqProofs only [fq15.n0_w,sw0,sw1,sw2,sw3,sw4,sw5,reduceCtorEq,Nat.reduceEqDiff,Nat.reduceAdd,Nat.reduceDiv,Nat.reduceLeDiff,hcr,fq15.n2_w,hs.sl.len,eq_true c1,fq15.n3_w,fq15.ret,hans]
  obtain ⟨hn18,hall⟩:(1≤n∧n≤8)∧∀ q,q ∈ rs→rnd n q.2=true:=by
    unfold rot at hr
    simp -implicitDefEqProofs only [Bool.and_eq_true,decide_eq_true_eq,List.all_eq_true] at hr
    exact ⟨hr.1.1,hr.2⟩
  have hl100:rs.length≤100:=by
    unfold rot at hr
    simp -implicitDefEqProofs only [Bool.and_eq_true,decide_eq_true_eq,List.all_eq_true] at hr
    exact hr.1.2
  obtain ⟨w,rfl⟩:=Int.eq_ofNat_of_zero_le (show 0≤n by omega)
  have hans:nextAns w rs=[.slice false 1 ((nrow (cnt rs) w w (List.range w)).map ic),iv 0]:=by unfold nextAns; rw [hr,if_pos rfl,if_neg (by omega),Int.toNat_natCast]
  have h00:tab8 (cnt ([]:List (AV × List Int)))=[iv 0,iv 0,iv 0,iv 0,iv 0,iv 0,iv 0,iv 0,iv 0,iv 0,iv 0,iv 0,iv 0,iv 0,iv 0,iv 0,iv 0,iv 0,iv 0,iv 0,iv 0,iv 0,iv 0,iv 0,iv 0,iv 0,iv 0,iv 0,iv 0,iv 0,iv 0,iv 0,iv 0,iv 0,iv 0,iv 0,iv 0,iv 0,iv 0,iv 0,iv 0,iv 0,iv 0,iv 0,iv 0,iv 0,iv 0,iv 0,iv 0,iv 0,iv 0,iv 0,iv 0,iv 0,iv 0,iv 0,iv 0,iv 0,iv 0,iv 0,iv 0,iv 0,iv 0,iv 0]:=by rfl
  simp -implicitDefEqProofs only [fq15.n0_w,sw0,sw1,sw2,sw3,sw4,sw5,reduceCtorEq,Nat.reduceEqDiff,Nat.reduceAdd,Nat.reduceDiv,Nat.reduceLeDiff,hcr,fq15.n2_w,hs.sl.len,eq_false c1,fq15.n4_w]
  rw [← h00]
  refine fq15.n5_l (fun m r7 s=>∃ i:Nat,r7=iv i∧s=⟨H ++ [.cells (tab8 (cnt (rs.take i)))],false⟩∧m=rs.length - i∧i≤rs.length) rs.length (by simp -implicitDefEqProofs only []; omega) ⟨0,rfl,rfl,rfl,by omega⟩ ?_
  rintro m r7 r8 r12 r13 r14 r15 r16 s ⟨i,rfl,rfl,rfl,hi⟩
  have hsl:=hs.sl.app (L:=[.cells (tab8 (cnt (rs.take i)))])
  simp -implicitDefEqProofs only [fq15.n6_w,sw0,sw1,sw2,sw3,sw4,sw5,reduceCtorEq,Nat.reduceEqDiff,Nat.reduceAdd,Nat.reduceDiv,Nat.reduceLeDiff]
  split
  · rename_i hlt
    have hlt:i < rs.length:=by omega
    obtain ⟨q,hq⟩:∃ q,q=rs[i]:=⟨_,rfl⟩
    have hqm:q ∈ rs:=by rw [hq]; exact List.getElem_mem hlt
    have htk:rs.take (i + 1)=rs.take i ++ [q]:=by rw [hq]; exact (List.take_append_getElem hlt).symm
    obtain ⟨hq1,hq2,hq3⟩:=rnd_at (hall q hqm)
    have hld:=hsl.ld hlt (show 0 < 1 by omega)
    rw [← hq] at hld
    have hqs:=(hs.row q hqm).app (L:=[.cells (tab8 (cnt (rs.take i)))])
    have hti:(rs.take i).length=i:=by rw [List.length_take]; omega
    simp -implicitDefEqProofs only [fq15.n8_w,sw0,sw1,sw2,sw3,sw4,sw5,reduceCtorEq,Nat.reduceEqDiff,Nat.reduceAdd,Nat.reduceDiv,Nat.reduceLeDiff,hsl.at,hlt,hld,rc,hqs.len]
    refine fq15.n9_l (fun m r8 s=>∃ j:Nat,r8=iv j∧s=⟨H ++ [.cells (tab8 (cntT (rs.take i) q.2 j))],false⟩∧m=q.2.length - j∧j≤q.2.length) q.2.length (by simp -implicitDefEqProofs only []; omega) ⟨0,rfl,by rw [cntT_zero],rfl,by omega⟩ ?_
    rintro m r8 r14 r15 r16 s ⟨j,rfl,rfl,rfl,hj⟩
    simp -implicitDefEqProofs only [fq15.n10_w,sw0,sw1,sw2,sw3,sw4,sw5,reduceCtorEq,Nat.reduceEqDiff,Nat.reduceAdd,Nat.reduceDiv,Nat.reduceLeDiff]
    split
    · rename_i hltj
      have hltj:j < q.2.length:=by omega
      have hqs':=(hs.row q hqm).app (L:=[.cells (tab8 (cntT (rs.take i) q.2 j))])
      obtain ⟨x,hx⟩:=Int.eq_ofNat_of_zero_le (hq1 _ (List.getElem_mem hltj)).1
      have hx8:x < 8:=by have:=(hq1 _ (List.getElem_mem hltj)).2; omega
      have hj8:j < 8:=by omega
      have hldx:=hqs'.ld hltj hqs'.pos
      rw [hx] at hldx
      have hlx:q.2[j]?=some (x:Int):=by rw [List.getElem?_eq_getElem hltj,hx]
      have hrow:row (H ++ [.cells (tab8 (cntT (rs.take i) q.2 j))]) H.length 64=some (tab8 (cntT (rs.take i) q.2 j)):=by simp -implicitDefEqProofs only [sw0,sw1,sw2,sw3,sw4,sw5,reduceCtorEq,Nat.reduceEqDiff,Nat.reduceAdd,Nat.reduceDiv,Nat.reduceLeDiff,row_hd,tab8_len]
      have hta:(tab8 (cntT (rs.take i) q.2 j))[j * 8 + x * 1]?=some (iv (cntT (rs.take i) q.2 j j x)):=by rw [Nat.mul_one]; exact tab8_at hj8 hx8
      have hb:=cntT_le (rs:=rs.take i) (l:=q.2) (j:=j) (s:=j) (x:=x)
      have hst:=cntT_step (rs:=rs.take i) hj8 hx8 hlx
      have hle:j * 8 + x * 1 + 1≤(tab8 (cntT (rs.take i) q.2 j)).length:=by rw [tab8_len]; omega
      have hst':(tab8 (cntT (rs.take i) q.2 j)).set (j * 8 + x * 1) (iv (cntT (rs.take i) q.2 j j x + 1))=tab8 (cntT (rs.take i) q.2 (j + 1)):=by rw [Nat.mul_one]; exact hst
      simp -implicitDefEqProofs only [fq15.n12_w,sw0,sw1,sw2,sw3,sw4,sw5,reduceCtorEq,Nat.reduceEqDiff,Nat.reduceAdd,Nat.reduceDiv,Nat.reduceLeDiff,hqs'.at,hltj,hldx,ic,idx_i,hj8,hx8,hrow,hta,hle]
      rw [wrap64 (n:=cntT (rs.take i) q.2 j j x + 1) (by omega)]
      simp -implicitDefEqProofs only [sw0,sw1,sw2,sw3,sw4,sw5,reduceCtorEq,Nat.reduceEqDiff,Nat.reduceAdd,Nat.reduceDiv,Nat.reduceLeDiff,hst',hle]
      refine fq15.n9_go (m':=q.2.length - (j + 1)) (by omega) ⟨j + 1,by rw [wrap64 (by omega)]; rfl,rfl,rfl,by omega⟩
    · rename_i hgej
      have hje:j=q.2.length:=by omega
      subst hje
      rw [cntT_full (by omega),← htk]
      simp -implicitDefEqProofs only [sw0,sw1,sw2,sw3,sw4,sw5,reduceCtorEq,Nat.reduceEqDiff,Nat.reduceAdd,Nat.reduceDiv,Nat.reduceLeDiff,fq15.n13_w]
      refine fq15.n5_go (m':=rs.length - (i + 1)) (by omega) ⟨i + 1,by rw [wrap64 (by omega)]; rfl,rfl,rfl,by omega⟩
  · rename_i hge
    rw [List.take_of_length_le (show rs.length≤i by omega)]
    simp -implicitDefEqProofs only [sw0,sw1,sw2,sw3,sw4,sw5,reduceCtorEq,Nat.reduceEqDiff,Nat.reduceAdd,Nat.reduceDiv,Nat.reduceLeDiff,fq15.n14_w]
    have hneg:¬ ((w:Int) < 0):=by omega
    have hpw:2 ^ w≤2 ^ 8:=Nat.pow_le_pow_right (by omega) (by omega)
    have hpw1:0 < 2 ^ w:=Nat.two_pow_pos _
    have e2:(1:Int) * 2 ^ min w IntKind.u64.bits=((2 ^ w:Nat):Int):=by
      rw [show IntKind.u64.bits=64 from rfl,Nat.min_eq_left (by omega)]; simp
    have hneg2:((2 ^ w:Nat):Int) - 1=((2 ^ w - 1:Nat):Int):=by omega
    simp -implicitDefEqProofs only [sw0,sw1,sw2,sw3,sw4,sw5,reduceCtorEq,Nat.reduceEqDiff,Nat.reduceAdd,Nat.reduceDiv,Nat.reduceLeDiff,hneg,Int.toNat_natCast,e2,wrapu (show 2 ^ w < 18446744073709551616 by omega)]
    rw [hneg2,wrapu (by omega)]
    obtain ⟨D,hDd⟩:∃ D,D=cnt rs:=⟨_,rfl⟩
    have hD:∀ a c,0≤D a c∧D a c≤1000:=fun a c=>by have:=cnt_le (rs:=rs) (s:=a) (x:=c); rw [hDd]; omega
    have hw8:w≤8:=by omega
    rw [← hDd] at hans ⊢
    refine fq15.n15_l (fun m r4 r5 r9 s=>∃ (sh x:Nat) (xs:List Int) (ver:Nat) (l:List (Nat × AV)),r4=uv x∧r5=.sref (H.length + 4) 0 xs.length (xs.length * 1) 1∧r9=iv sh∧s=⟨H ++ [.cells (tab8 D),.map shU ver (encE uvn l),.cells [.map (H.length + 1)],.cells [.fn F_fq16 [.ptr (H.length + 2) 0 1,.ptr (H.length + 3) 0 1,.ptr H.length 0 64]],.cells (xs.map ic).flatten],false⟩ ∧
      m=w - sh∧sh + (mem x).length=w∧x < 2 ^ w∧LG D w l∧xs ++ nrow D w (w - sh) (mem x)=nrow D w w (List.range w)∧xs.length=sh) w (by simp -implicitDefEqProofs only []; omega)
      ⟨0,2 ^ w - 1,[],0,[],rfl,rfl,rfl,rfl,rfl,by rw [mem_full (by omega),List.length_range]; omega,by omega,⟨fun x v hx=>by cases hx⟩,by rw [mem_full (by omega)]; rfl,rfl⟩ ?_
    rintro m r4 r5 r6 r9 r11 r12 r13 r14 r15 r16 r17 r18 r19 r20 r21 r22 r23 r24 r25 r26 r27 s ⟨sh,x,xs,ver,l,rfl,rfl,rfl,rfl,rfl,hsh,hx,hG,hxs,hxl⟩
    simp -implicitDefEqProofs only [fq15.n16_w,sw0,sw1,sw2,sw3,sw4,sw5,reduceCtorEq,Nat.reduceEqDiff,Nat.reduceAdd,Nat.reduceDiv,Nat.reduceLeDiff]
    split
    · rename_i hlt2
      have hlt2:sh < w:=by omega
      have hx64:x < 18446744073709551616:=by
        have:=Nat.pow_le_pow_right (show 0 < 2 by omega) hw8
        omega
      have hne:mem x ≠ []:=fun e=>by rw [e] at hsh; simp at hsh; omega
      have hF:∀ ver l ys,NF (H ++ [.cells (tab8 D),.map shU ver (encE uvn l),.cells [.map (H.length + 1)],.cells [.fn F_fq16 [.ptr (H.length + 2) 0 1,.ptr (H.length + 3) 0 1,.ptr H.length 0 64]],.cells ys]) (H.length + 2) (H.length + 3) H.length (H.length + 1) D:=fun ver l ys =>
        ⟨by simp -implicitDefEqProofs only [sw0,sw1,sw2,sw3,sw4,sw5,reduceCtorEq,Nat.reduceEqDiff,Nat.reduceAdd,Nat.reduceDiv,Nat.reduceLeDiff],by simp -implicitDefEqProofs only [sw0,sw1,sw2,sw3,sw4,sw5,reduceCtorEq,Nat.reduceEqDiff,Nat.reduceAdd,Nat.reduceDiv,Nat.reduceLeDiff],by simp -implicitDefEqProofs only [sw0,sw1,sw2,sw3,sw4,sw5,reduceCtorEq,Nat.reduceEqDiff,Nat.reduceAdd,Nat.reduceDiv,Nat.reduceLeDiff]⟩
      have hrow:∀ ver l ys,row (H ++ [.cells (tab8 D),.map shU ver (encE uvn l),.cells [.map (H.length + 1)],.cells [.fn F_fq16 [.ptr (H.length + 2) 0 1,.ptr (H.length + 3) 0 1,.ptr H.length 0 64]],.cells ys]) H.length 64=some (tab8 D):=fun ver l ys=>row_of (hF ver l ys).u tab8_len
      simp -implicitDefEqProofs only [fq15.n18_w,sw0,sw1,sw2,sw3,sw4,sw5,reduceCtorEq,Nat.reduceEqDiff,Nat.reduceAdd,Nat.reduceDiv,Nat.reduceLeDiff,VV_fn]
      refine least_s hD hw8 64 (k:=k) (by omega) hx mem_len hsh (hF _ _ _) (ver:=ver) (l:=l) (by simp -implicitDefEqProofs only [sw0,sw1,sw2,sw3,sw4,sw5,reduceCtorEq,Nat.reduceEqDiff,Nat.reduceAdd,Nat.reduceDiv,Nat.reduceLeDiff]) hG ?_
      intro ver1 l1 hG1
      obtain ⟨want,hwant⟩:∃ z,z=(lv D w (mem x)).1:=⟨_,rfl⟩
      obtain ⟨m1,m2,hsp,hval,hbef⟩:=lv_first (D:=D) (n:=w) (fun a c=>(hD a c).1) hne mem_nodup mem_len
      have hshe:w - (mem x).length=sh:=by omega
      rw [hshe] at hval hbef
      rw [← hwant] at hval hbef ⊢
      simp -implicitDefEqProofs only [sw0,sw1,sw2,sw3,sw4,sw5,reduceCtorEq,Nat.reduceEqDiff,Nat.reduceAdd,Nat.reduceDiv,Nat.reduceLeDiff]
      refine fq15.n19_l (fun m r4 r5 r6 r11 s=>∃ (y:Nat) (done:List Nat) (ver:Nat) (l:List (Nat × AV)),r4=uv x∧r5=.sref (H.length + 4) 0 xs.length (xs.length * 1) 1∧r6=uv y∧r11=iv want∧s=⟨H ++ [.cells (tab8 D),.map shU ver (encE uvn l),.cells [.map (H.length + 1)],.cells [.fn F_fq16 [.ptr (H.length + 2) 0 1,.ptr (H.length + 3) 0 1,.ptr H.length 0 64]],.cells (xs.map ic).flatten],false⟩ ∧
        m=(mem y).length∧y < 18446744073709551616∧mem x=done ++ mem y∧LG D w l∧(∀ d,d ∈ done→(lv D w (wo d (mem x))).1 + D sh d ≠ want)) (mem x).length (by simp -implicitDefEqProofs only []; omega)
        ⟨x,[],ver1,l1,rfl,rfl,rfl,rfl,rfl,rfl,hx64,rfl,hG1,fun d hd=>by cases hd⟩ ?_
      rintro m r4 r5 r6 r11 r12 r13 r14 r15 r16 r17 r18 r19 r20 r21 r22 r23 r24 r25 r26 r27 s ⟨y,done,ver2,l2,rfl,rfl,rfl,rfl,rfl,rfl,hy64,hdone,hG2,hno⟩
      simp -implicitDefEqProofs only [fq15.n20_w,sw0,sw1,sw2,sw3,sw4,sw5,reduceCtorEq,Nat.reduceEqDiff,Nat.reduceAdd,Nat.reduceDiv,Nat.reduceLeDiff]
      split
      · rename_i hney
        have hy0:y ≠ 0:=by omega
        obtain ⟨hc64,hmy⟩:=mem_first hy0 hy64
        obtain ⟨c,hc⟩:∃ c,c=ctzN 64 y:=⟨_,rfl⟩
        rw [← hc] at hc64 hmy
        have hcx:c ∈ mem x:=by rw [hdone,hmy]; simp
        have hcn:=mem_bound hx hcx
        have hcxx:clrB x c < x:=clrB_lt hx64 (mem_iff.1 hcx).2
        have hmc:=mem_clr (i:=c) hx64
        have hwl:=wo_len mem_nodup hcx
        have hws:IntKind.i64.wrap ((sh:Int) + 1)=((sh + 1:Nat):Int):=by rw [wrap64 (by omega)]; rfl
        simp -implicitDefEqProofs only [fq15.n22_w,sw0,sw1,sw2,sw3,sw4,sw5,reduceCtorEq,Nat.reduceEqDiff,Nat.reduceAdd,Nat.reduceDiv,Nat.reduceLeDiff,first_place (k:=k) (by omega) hy64,← hc,without_place (k:=k) (by omega) hx64 hc64,VV_fn,hws]
        refine least_s hD hw8 64 (k:=k) (by omega) (x:=clrB x c) (sh:=sh + 1) (by omega) mem_len (by rw [hmc]; omega) (hF _ _ _) (ver:=ver2) (l:=l2) (by simp -implicitDefEqProofs only [sw0,sw1,sw2,sw3,sw4,sw5,reduceCtorEq,Nat.reduceEqDiff,Nat.reduceAdd,Nat.reduceDiv,Nat.reduceLeDiff]) hG2 ?_
        intro ver3 l3 hG3
        have hpvb:=lm_le (n:=w) hD 64 (mem (clrB x c))
        have hpvb:-1≤(lv D w (mem (clrB x c))).1∧(lv D w (mem (clrB x c))).1≤64000:=by unfold lv; omega
        have hdl:=hD sh c
        have hw3:=wrap64 (n:=(lv D w (mem (clrB x c))).1 + D sh c) (by omega)
        have hta:(tab8 D)[sh * 8 + c * 1]?=some (iv (D sh c)):=by rw [Nat.mul_one]; exact tab8_at (by omega) (by omega)
        have hc8:c < 8:=by omega
        have hsh8:sh < 8:=by omega
        have hmyc:=mem_clr (i:=c) hy64
        have hyl:(mem (clrB y c)).length < (mem y).length:=by rw [hmy]; simp
        have hdone':mem x=(done ++ [c]) ++ mem (clrB y c):=by rw [hdone,hmy]; simp
        rw [hmc] at hw3 ⊢
        by_cases ce:(lv D w (wo c (mem x))).1 + D sh c=want
        ·
          have hcm:c=(lv D w (mem x)).2:=by
            have h1:mem x=done ++ c :: mem (clrB y c):=by rw [hdone,hmy]
            exact first_uniq (P:=fun d=>(lv D w (wo d (mem x))).1 + D sh d=want) (h1.symm.trans hsp) hno hbef ce hval
          rw [ce] at hw3
          have happ:=app_own (base:=some H.length) (lk:=false) (fl:=true) (bytes:=8) (xs:=xs) (x:=(c:Int)) (H:=H ++ [.cells (tab8 D),.map shU ver3 (encE uvn l3),.cells [.map (H.length + 1)],.cells [.fn F_fq16 [.ptr (H.length + 2) 0 1,.ptr (H.length + 3) 0 1,.ptr H.length 0 64]],.cells (xs.map ic).flatten]) (c:=H.length + 4) Nat.one_pos ic_len (ic_one _) (ic_clean _) rfl (by simp -implicitDefEqProofs only [sw0,sw1,sw2,sw3,sw4,sw5,reduceCtorEq,Nat.reduceEqDiff,Nat.reduceAdd,Nat.reduceDiv,Nat.reduceLeDiff,row_hd,ic_flat,Nat.mul_one]) (by omega)
          simp -implicitDefEqProofs only [ic] at happ
          simp -implicitDefEqProofs only [sw0,sw1,sw2,sw3,sw4,sw5,reduceCtorEq,Nat.reduceEqDiff,Nat.reduceAdd,Nat.reduceDiv,Nat.reduceLeDiff,hrow,tab8_len,idx_i,hsh8,hc8,hta,ce,hw3,fq15.n23_w,happ,without_place (k:=k) (by omega) hx64 hc64,fq15.n25_w]
          refine fq15.n15_go (m':=w - (sh + 1)) (by omega) ⟨sh + 1,clrB x c,xs ++ [(c:Int)],ver3,l3,rfl,by simp,by rw [hws],rfl,rfl,by rw [hmc]; omega,by omega,hG3,?_,by simp [hxl]⟩
          rw [← hxs,show w - sh=(w - (sh + 1)) + 1 by omega,nrow_ne hne,← hcm,hmc]
          simp
        · simp -implicitDefEqProofs only [sw0,sw1,sw2,sw3,sw4,sw5,reduceCtorEq,Nat.reduceEqDiff,Nat.reduceAdd,Nat.reduceDiv,Nat.reduceLeDiff,hrow,tab8_len,idx_i,hsh8,hc8,hta,hw3,eq_false ce,fq15.n24_w,first_place (k:=k) (by omega) hy64,← hc,without_place (k:=k) (by omega) hy64 hc64]
          refine fq15.n19_go (m':=(mem (clrB y c)).length) hyl ⟨clrB y c,done ++ [c],ver3,l3,rfl,rfl,rfl,rfl,rfl,rfl,clrB_lt2,hdone',hG3,?_⟩
          intro d hd
          rcases List.mem_append.1 hd with h | h
          · exact hno d h
          · simp -implicitDefEqProofs only [List.mem_singleton] at h
            subst h
            exact ce
      · rename_i hzy
        have hy0:y=0:=by omega
        subst hy0
        rw [mem_zero,List.append_nil] at hdone
        refine absurd hval (hno _ ?_)
        rw [← hdone]
        have:(lv D w (mem x)).2 ∈ m1 ++ (lv D w (mem x)).2 :: m2:=by simp
        rw [← hsp] at this
        exact this
    · rename_i hge2
      have hxe:sh=w:=by omega
      rw [hxe,Nat.sub_self] at hxs
      simp -implicitDefEqProofs only [nrow,List.append_nil] at hxs
      subst hxs
      have hfz:=fz_own (m:=H.length) (f:=ic) (xs:=nrow D w w (List.range w)) (c:=H.length + 4) (H:=H ++ [.cells (tab8 D),.map shU ver (encE uvn l),.cells [.map (H.length + 1)],.cells [.fn F_fq16 [.ptr (H.length + 2) 0 1,.ptr (H.length + 3) 0 1,.ptr H.length 0 64]],.cells ((nrow D w w (List.range w)).map ic).flatten]) Nat.one_pos ic_len ic_clean rfl (by simp -implicitDefEqProofs only [sw0,sw1,sw2,sw3,sw4,sw5,reduceCtorEq,Nat.reduceEqDiff,Nat.reduceAdd,Nat.reduceDiv,Nat.reduceLeDiff,row_hd,ic_flat,Nat.mul_one]) (by omega)
      simp -implicitDefEqProofs only [fq15.n26_w,sw0,sw1,sw2,sw3,sw4,sw5,reduceCtorEq,Nat.reduceEqDiff,Nat.reduceAdd,Nat.reduceDiv,Nat.reduceLeDiff,fq15.ret,hfz,hans]
end Go.Proofs.YtcebebhaahpoiaaDoor
end
section
namespace Go.Proofs.YtcebebhaahpoiaaDoor
open Go Go.Ai Go.W
attribute [local irreducible] VC YC WC
set_option linter.unusedSimpArgs false
set_option linter.unusedVariables false
set_option maxRecDepth 10000
variable {k:Nat} {b:Option Nat} {H:List AObj} {lk:Bool} {K:AV→St→Prop}
abbrev jc (q:Int × Int × Int):List AV:=[iv q.1,iv q.2.1,iv q.2.2]
theorem jc_len (q:Int × Int × Int):(jc q).length=3:=rfl
def jobOk (q:Int × Int × Int):Bool:=decide (0≤q.1∧q.1≤7) && decide (0≤q.2.1∧q.2.1≤499) && decide (q.2.1 + 1≤q.2.2∧q.2.2≤500)
theorem CheckJobs_1_s (hk:10≤k) {q:Int × Int × Int}:VC ⟨prog,k,b⟩ F_fq5 [.agg (jc q)] ⟨H,lk⟩ K=K (.bool (!jobOk q)) ⟨H,lk⟩:=by
  obtain ⟨k,rfl⟩:∃ j,k=j + 1:=⟨k - 1,by omega⟩
  apply VC_iff
  apply fq5.enter
  by_cases c1:0≤q.1∧q.1≤7
  · by_cases c2:0≤q.2.1∧q.2.1≤499
    · have hw:=wrap64 (n:=q.2.1 + 1) (by omega)
      simp -implicitDefEqProofs only [fq5.n0_w,sw0,sw1,sw2,sw3,sw4,sw5,reduceCtorEq,Nat.reduceEqDiff,Nat.reduceAdd,Nat.reduceDiv,Nat.reduceLeDiff,jc,within_s (k:=k) (by omega),eq_true c1,eq_true c2,hw,fq5.ret,jobOk]
    · simp -implicitDefEqProofs only [fq5.n0_w,sw0,sw1,sw2,sw3,sw4,sw5,reduceCtorEq,Nat.reduceEqDiff,Nat.reduceAdd,Nat.reduceDiv,Nat.reduceLeDiff,jc,within_s (k:=k) (by omega),eq_true c1,eq_false c2,fq5.ret,jobOk]
  · simp -implicitDefEqProofs only [fq5.n0_w,sw0,sw1,sw2,sw3,sw4,sw5,reduceCtorEq,Nat.reduceEqDiff,Nat.reduceAdd,Nat.reduceDiv,Nat.reduceLeDiff,jc,within_s (k:=k) (by omega),eq_false c1,fq5.ret,jobOk]
theorem CheckJobs_s (hk:1100≤k) {v:AV} {qs:List (Int × Int × Int)} (hs:Sl H 3 jc v qs) (hl:qs.length≤1000) :
    VC ⟨prog,k,b⟩ F_fq4 [v] ⟨H,lk⟩ K=K (.bool (decide (qs.length≤200) && qs.all jobOk)) ⟨H,lk⟩:=by
  obtain ⟨k,rfl⟩:∃ j,k=j + 1:=⟨k - 1,by omega⟩
  apply VC_iff
  apply fq4.enter
  have hcf:=fun (K:AV→St→Prop)=>ContainsFunc_Job (K:=K) (k:=k) (b:=some H.length) (lk:=false) (by omega) (f:=F_fq5) (caps:=[]) hs hl (vl:=fun q=>.agg (jc q)) (fun x=>rfl) (p:=fun q=>!jobOk q) (fun x hx b lk K=>CheckJobs_1_s (k:=k - 2) (by omega))
  have hany:qs.any (fun q=>!jobOk q)=!qs.all jobOk:=by rw [List.all_eq_not_any_not,Bool.not_not]
  simp -implicitDefEqProofs only [hany] at hcf
  by_cases c1:(qs.length:Int)≤200
  · have c1':decide (qs.length≤200)=true:=decide_eq_true (by omega)
    simp -implicitDefEqProofs only [fq4.n0_w,sw0,sw1,sw2,sw3,sw4,sw5,reduceCtorEq,Nat.reduceEqDiff,Nat.reduceAdd,Nat.reduceDiv,Nat.reduceLeDiff,hs.len,eq_true c1,hcf,c1',Bool.not_not,fq4.ret]
  · have c1':decide (qs.length≤200)=false:=decide_eq_false (by omega)
    simp -implicitDefEqProofs only [fq4.n0_w,sw0,sw1,sw2,sw3,sw4,sw5,reduceCtorEq,Nat.reduceEqDiff,Nat.reduceAdd,Nat.reduceDiv,Nat.reduceLeDiff,hs.len,eq_false c1,c1',fq4.ret]
theorem asked_s (hk:1110≤k) {v:AV} {c:Int} {qs:List (Int × Int × Int)} (hs:Sl H 3 jc v qs) (hl:qs.length≤1000) :
    VC ⟨prog,k,b⟩ F_fq19 [v,iv c] ⟨H,lk⟩ K=K (iv (if (decide (qs.length≤200) && qs.all jobOk)=true then if 1≤c∧c≤8 then 0 else 4 else 2)) ⟨H,lk⟩:=by
  obtain ⟨k,rfl⟩:∃ j,k=j + 1:=⟨k - 1,by omega⟩
  apply VC_iff
  apply fq19.enter
  cases h:(decide (qs.length≤200) && qs.all jobOk)
  · simp -implicitDefEqProofs only [fq19.n0_w,sw0,sw1,sw2,sw3,sw4,sw5,reduceCtorEq,Nat.reduceEqDiff,Nat.reduceAdd,Nat.reduceDiv,Nat.reduceLeDiff,CheckJobs_s (k:=k) (by omega) hs hl,h,fq19.n1_w,fq19.ret]
  · by_cases c1:1≤c∧c≤8
    · simp -implicitDefEqProofs only [fq19.n0_w,sw0,sw1,sw2,sw3,sw4,sw5,reduceCtorEq,Nat.reduceEqDiff,Nat.reduceAdd,Nat.reduceDiv,Nat.reduceLeDiff,CheckJobs_s (k:=k) (by omega) hs hl,h,fq19.n2_w,within_s (k:=k) (by omega),eq_true c1,fq19.n4_w,fq19.ret]
    · simp -implicitDefEqProofs only [fq19.n0_w,sw0,sw1,sw2,sw3,sw4,sw5,reduceCtorEq,Nat.reduceEqDiff,Nat.reduceAdd,Nat.reduceDiv,Nat.reduceLeDiff,CheckJobs_s (k:=k) (by omega) hs hl,h,fq19.n2_w,within_s (k:=k) (by omega),eq_false c1,fq19.n3_w,fq19.ret]
def jB:List (Int × Int × Int):=[(0,0,1),(1,0,1)]
abbrev vB:AV:=.slice true 3 [[iv 0,iv 0,iv 1],[iv 1,iv 0,iv 1]]
theorem vB_sl:Sl H 3 jc vB jB:=Sl.lit (by omega) jc_len rfl
theorem Crowd_n6 {E:Env} {r0 r1 r2 r3 r4 r5 r6 r7 r8 r9 r10 r11 r12:AV} {s:St} {Q:AExit→Regs→St→Prop}:WC E fq10.n6 [r0,r1,r2,r3,r4,r5,r6,r7,r8,r9,r10,r11,r12] s Q=(oM (vLen false r0) fun v1=>(sK (WC E (.block 2 fq10.n7)) (sK (WC E fq10.n13) (bK 1 (sK (WC E fq10.n20) Q)))) .normal [r0,r1,r2,r3,r4,r5,r6,r7,iv 0,(.ptr s.heap.length 0 501),v1,r11,r12] (push s (.cells (List.replicate 501 (iv 0))))):=by
  rw [fq10.n6_w]; rfl
theorem Crowd_n3 {k:Nat} {b:Option Nat} {ρ s Q}:WC ⟨prog,k,b⟩ fq10.n3 ρ s Q=wLoop (WC ⟨prog,k,b⟩ fq10.n4) k ρ s Q:=WC_lp
theorem Crowd_n7 {k:Nat} {b:Option Nat} {ρ s Q}:WC ⟨prog,k,b⟩ fq10.n7 ρ s Q=wLoop (WC ⟨prog,k,b⟩ fq10.n8) k ρ s Q:=WC_lp
theorem Crowd_n14 {k:Nat} {b:Option Nat} {ρ s Q}:WC ⟨prog,k,b⟩ fq10.n14 ρ s Q=wLoop (WC ⟨prog,k,b⟩ fq10.n15) k ρ s Q:=WC_lp
theorem CrowdB (hk:1200≤k):VC ⟨prog,k,b⟩ F_fq10 [vB,iv 1] ⟨H,lk⟩ K=K (.tup [iv 0,iv 1,iv 0]) ⟨H,lk⟩:=by
  obtain ⟨k,rfl⟩:∃ j,k=j + 1:=⟨k - 1,by omega⟩
  apply VC_iff
  apply fq10.enter
  have hjb:(decide (jB.length≤200) && jB.all jobOk)=true:=by decide
  have h11:((1:Int)≤1∧(1:Int)≤8)=True:=by simp
  have hask:=fun (K:AV→St→Prop)=>asked_s (K:=K) (k:=k) (b:=some H.length) (lk:=false) (by omega) (H:=H) vB_sl (c:=1) (by decide)
  simp -implicitDefEqProofs only [hjb,if_true,h11] at hask
  obtain ⟨k,rfl⟩:∃ j,k=j + 100:=⟨k - 100,by omega⟩
  obtain ⟨Z,hZ⟩:∃ Z,Z=List.replicate 501 (iv 0):=⟨_,rfl⟩
  have hZl:Z.length=501:=by rw [hZ,List.length_replicate]
  have hZ1:Z[1]?=some (iv 0):=by rw [hZ]; rfl
  simp -implicitDefEqProofs only [fq10.n0_w,wl_s,sw0,sw1,sw2,sw3,sw4,sw5,reduceCtorEq,Nat.reduceEqDiff,Nat.reduceAdd,Nat.reduceDiv,Nat.reduceLeDiff,dw0,Int.reduceAdd,Int.reduceSub,Int.reduceMul,Int.reduceLT,Int.reduceLE,Int.reduceNeg,Int.reduceEq,Int.reduceToNat,Nat.reduceLT,Nat.reduceMul,Nat.reduceSub,Nat.reduceBEq,Nat.reduceLeDiff,hask,fq10.n2_w,Crowd_n3,fq10.n4_w,Crowd_n6,← hZ,Crowd_n7,fq10.n8_w]
  simp -implicitDefEqProofs only [sw0,sw1,sw2,sw3,sw4,sw5,reduceCtorEq,Nat.reduceEqDiff,Nat.reduceAdd,Nat.reduceDiv,Nat.reduceLeDiff,dw0,Int.reduceAdd,Int.reduceSub,Int.reduceMul,Int.reduceLT,Int.reduceLE,Int.reduceNeg,Int.reduceEq,Int.reduceToNat,Nat.reduceLT,Nat.reduceMul,Nat.reduceSub,Nat.reduceBEq,Nat.reduceLeDiff,iaddr_slice,hZl,hZ1,row_hd,fq10.n10_w,fq10.n11_w,fq10.n12_w,fq10.n13_w,Crowd_n14,fq10.n15_w,fq10.n17_w,fq10.n18_w,fq10.n9_w,hZl,hZ1,row_hd,List.getElem?_set_self,fq10.ret]
  simp -implicitDefEqProofs only [wl_s,fq10.n8_w]
  simp -implicitDefEqProofs only [sw0,sw1,sw2,sw3,sw4,sw5,reduceCtorEq,Nat.reduceEqDiff,Nat.reduceAdd,Nat.reduceDiv,Nat.reduceLeDiff,dw0,Int.reduceAdd,Int.reduceSub,Int.reduceMul,Int.reduceLT,Int.reduceLE,Int.reduceNeg,Int.reduceEq,Int.reduceToNat,Nat.reduceLT,Nat.reduceMul,Nat.reduceSub,Nat.reduceBEq,Nat.reduceLeDiff,iaddr_slice,hZl,hZ1,row_hd,fq10.n10_w,fq10.n11_w,fq10.n12_w,List.getElem?_set_self,List.set_set]

  simp -implicitDefEqProofs only [wl_s,fq10.n8_w]
  simp -implicitDefEqProofs only [sw0,sw1,sw2,sw3,sw4,sw5,reduceCtorEq,Nat.reduceEqDiff,Nat.reduceAdd,Nat.reduceDiv,Nat.reduceLeDiff,dw0,Int.reduceAdd,Int.reduceSub,Int.reduceMul,Int.reduceLT,Int.reduceLE,Int.reduceNeg,Int.reduceEq,Int.reduceToNat,Nat.reduceLT,Nat.reduceMul,Nat.reduceSub,Nat.reduceBEq,Nat.reduceLeDiff,iaddr_slice,hZl,hZ1,row_hd,fq10.n13_w,Crowd_n14,List.getElem?_set_self,List.set_set]

  simp -implicitDefEqProofs only [wl_s,fq10.n15_w]
  simp -implicitDefEqProofs only [sw0,sw1,sw2,sw3,sw4,sw5,reduceCtorEq,Nat.reduceEqDiff,Nat.reduceAdd,Nat.reduceDiv,Nat.reduceLeDiff,dw0,Int.reduceAdd,Int.reduceSub,Int.reduceMul,Int.reduceLT,Int.reduceLE,Int.reduceNeg,Int.reduceEq,Int.reduceToNat,Nat.reduceLT,Nat.reduceMul,Nat.reduceSub,Nat.reduceBEq,Nat.reduceLeDiff,iaddr_slice,hZl,hZ1,row_hd,fq10.n17_w,fq10.n18_w,fq10.ret,List.getElem?_set_self,List.set_set]
end Go.Proofs.YtcebebhaahpoiaaDoor
end
section
namespace Go.Proofs.YtcebebhaahpoiaaDoor
open Go Go.Ai Go.W
attribute [local irreducible] VC YC WC
set_option linter.unusedSimpArgs false
set_option linter.unusedVariables false
set_option maxRecDepth 10000
variable {k:Nat} {b:Option Nat} {H:List AObj} {lk:Bool} {K:AV→St→Prop}
theorem slots_u1 {k:Nat} {b:Option Nat} {ρ s Q}:WC ⟨prog,k,b⟩ fq41.n1 ρ s Q=wLoop (WC ⟨prog,k,b⟩ fq41.n2) k ρ s Q:=WC_lp
theorem Plan_u6 {k:Nat} {b:Option Nat} {ρ s Q}:WC ⟨prog,k,b⟩ fq17.n6 ρ s Q=wLoop (WC ⟨prog,k,b⟩ fq17.n7) k ρ s Q:=WC_lp
theorem Plan_u11 {k:Nat} {b:Option Nat} {ρ s Q}:WC ⟨prog,k,b⟩ fq17.n11 ρ s Q=wLoop (WC ⟨prog,k,b⟩ fq17.n12) k ρ s Q:=WC_lp
theorem heap_int_put_u1 {k:Nat} {b:Option Nat} {ρ s Q}:WC ⟨prog,k,b⟩ fq22.n1 ρ s Q=wLoop (WC ⟨prog,k,b⟩ fq22.n2) k ρ s Q:=WC_lp
theorem heap_int_take_u1 {k:Nat} {b:Option Nat} {ρ s Q}:WC ⟨prog,k,b⟩ fq23.n1 ρ s Q=wLoop (WC ⟨prog,k,b⟩ fq23.n2) k ρ s Q:=WC_lp
theorem heap_int_take_u3 {k:Nat} {b:Option Nat} {ρ s Q}:WC ⟨prog,k,b⟩ fq23.n3 ρ s Q=wLoop (WC ⟨prog,k,b⟩ fq23.n4) k ρ s Q:=WC_lp
abbrev shI:Sh:=.mk false [.int .i64]
theorem slotsB (hk:200≤k) (hK:K (.fn F_fq42 [.ptr (H.length + 1) 0 1]) ⟨H ++ [.map shI 2 [(iv 0,.sref (H.length + 3) 0 2 2 1)],.cells [.map H.length],.cells [iv 0,iv 0,iv 1],.cells [iv 0,iv 1],.cells [iv 1,iv 0,iv 1]],false⟩):VC ⟨prog,k,b⟩ F_fq41 [vB] ⟨H,false⟩ K:=by
  obtain ⟨k,rfl⟩:∃ j,k=j + 1:=⟨k - 1,by omega⟩
  obtain ⟨k,rfl⟩:∃ j,k=j + 100:=⟨k - 100,by omega⟩
  apply fq41.enter
  have hu:AV.under H.length (AV.fn F_fq42 [AV.ptr (H.length + 1) 0 1])=false:=by simp [AV.under,underL]
  simp -implicitDefEqProofs only [fq41.n0_w,sw0,sw1,sw2,sw3,sw4,sw5,reduceCtorEq,Nat.reduceEqDiff,Nat.reduceAdd,Nat.reduceDiv,Nat.reduceLeDiff,dw0,Int.reduceAdd,Int.reduceSub,Int.reduceMul,Int.reduceLT,Int.reduceLE,Int.reduceNeg,Int.reduceEq,Int.reduceToNat,Nat.reduceLT,Nat.reduceMul,Nat.reduceSub,Nat.reduceBEq,Nat.reduceLeDiff,xw0,eApp,rowOf,appRow,lkL,lkN,eMupd,vLook,mapSh,findE,putE,keqL,hasSh,fits,shb,Int.reduceBEq,eMksl,vSlc,boundsOf,boundOf,cleanL,Nat.reduceGT,Int.reduceGT,Int.reduceGE,Int.reduceDiv,Int.reduceTDiv,vAidx,rdc,slots_u1]
  simp -implicitDefEqProofs only [wl_s,fq41.n2_w]
  simp -implicitDefEqProofs only [sw0,sw1,sw2,sw3,sw4,sw5,reduceCtorEq,Nat.reduceEqDiff,Nat.reduceAdd,Nat.reduceDiv,Nat.reduceLeDiff,dw0,Int.reduceAdd,Int.reduceSub,Int.reduceMul,Int.reduceLT,Int.reduceLE,Int.reduceNeg,Int.reduceEq,Int.reduceToNat,Nat.reduceLT,Nat.reduceMul,Nat.reduceSub,Nat.reduceBEq,Nat.reduceLeDiff,xw0,eApp,rowOf,appRow,lkL,lkN,eMupd,vLook,mapSh,findE,putE,keqL,hasSh,fits,shb,Int.reduceBEq,eMksl,vSlc,boundsOf,boundOf,cleanL,Nat.reduceGT,Int.reduceGT,Int.reduceGE,Int.reduceDiv,Int.reduceTDiv,vAidx,rdc,fq41.n4_w]
  simp -implicitDefEqProofs only [wl_s,fq41.n2_w]
  simp -implicitDefEqProofs only [sw0,sw1,sw2,sw3,sw4,sw5,reduceCtorEq,Nat.reduceEqDiff,Nat.reduceAdd,Nat.reduceDiv,Nat.reduceLeDiff,dw0,Int.reduceAdd,Int.reduceSub,Int.reduceMul,Int.reduceLT,Int.reduceLE,Int.reduceNeg,Int.reduceEq,Int.reduceToNat,Nat.reduceLT,Nat.reduceMul,Nat.reduceSub,Nat.reduceBEq,Nat.reduceLeDiff,xw0,eApp,rowOf,appRow,lkL,lkN,eMupd,vLook,mapSh,findE,putE,keqL,hasSh,fits,shb,Int.reduceBEq,eMksl,vSlc,boundsOf,boundOf,cleanL,Nat.reduceGT,Int.reduceGT,Int.reduceGE,Int.reduceDiv,Int.reduceTDiv,vAidx,rdc,fq41.n4_w]
  simp -implicitDefEqProofs only [wl_s,fq41.n2_w]
  simp -implicitDefEqProofs only [sw0,sw1,sw2,sw3,sw4,sw5,reduceCtorEq,Nat.reduceEqDiff,Nat.reduceAdd,Nat.reduceDiv,Nat.reduceLeDiff,dw0,Int.reduceAdd,Int.reduceSub,Int.reduceMul,Int.reduceLT,Int.reduceLE,Int.reduceNeg,Int.reduceEq,Int.reduceToNat,Nat.reduceLT,Nat.reduceMul,Nat.reduceSub,Nat.reduceBEq,Nat.reduceLeDiff,xw0,eApp,rowOf,appRow,lkL,lkN,eMupd,vLook,mapSh,findE,putE,keqL,hasSh,fits,shb,Int.reduceBEq,eMksl,vSlc,boundsOf,boundOf,cleanL,Nat.reduceGT,Int.reduceGT,Int.reduceGE,Int.reduceDiv,Int.reduceTDiv,vAidx,rdc,fq41.n5_w,fq41.ret,hu]
  exact hK
theorem gO_u {b:Bool} {s:St} {X:(AV→St→Prop)→Prop} {K:AV→St→Prop}:gO .undef b s X K=K .undef s:=rfl
theorem Plan_1_s {v:AV} {qs:List (Int × Int × Int)} {cl x y:Nat} (hs:Sl H 3 jc v qs) (hr:row H cl 1=some [v]) (hx:x < qs.length) (hy:y < qs.length):VC ⟨prog,k + 1,b⟩ F_fq18 [iv x,iv y,.ptr cl 0 1] ⟨H,lk⟩ K=K (.bool (decide (qs[x].2.2 < qs[y].2.2∨qs[x].2.2=qs[y].2.2∧x < y))) ⟨H,lk⟩:=by
  apply VC_iff
  apply fq18.enter
  have hx2:=hs.ld hx (show 2 < 3 by omega)
  have hy2:=hs.ld hy (show 2 < 3 by omega)
  have hax:=hs.at' (k:=.i64) hx
  have hay:=hs.at' (k:=.i64) hy
  by_cases c1:qs[x].2.2 < qs[y].2.2
  · simp -implicitDefEqProofs only [fq18.n0_w,sw0,sw1,sw2,sw3,sw4,sw5,reduceCtorEq,Nat.reduceEqDiff,Nat.reduceAdd,Nat.reduceDiv,Nat.reduceLeDiff,hr,hs.at,hx,hy,hs.off,hx2,hy2,eq_true c1,fq18.ret,true_or,gO_u]
  · by_cases c2:qs[x].2.2=qs[y].2.2
    · by_cases c3:(x:Int) < y
      · have c3':x < y:=by omega
        simp -implicitDefEqProofs only [fq18.n0_w,sw0,sw1,sw2,sw3,sw4,sw5,reduceCtorEq,Nat.reduceEqDiff,Nat.reduceAdd,Nat.reduceDiv,Nat.reduceLeDiff,hr,hs.at,hx,hy,hs.off,hx2,hy2,eq_false c1,eq_true c2,eq_true c3,eq_true c3',fq18.ret,false_or,or_true]
      · have c3':¬ x < y:=by omega
        simp -implicitDefEqProofs only [fq18.n0_w,sw0,sw1,sw2,sw3,sw4,sw5,reduceCtorEq,Nat.reduceEqDiff,Nat.reduceAdd,Nat.reduceDiv,Nat.reduceLeDiff,hr,hs.at,hx,hy,hs.off,hx2,hy2,eq_false c1,eq_true c2,eq_false c3,eq_false c3',fq18.ret,false_or,or_self]
    · simp -implicitDefEqProofs only [fq18.n0_w,sw0,sw1,sw2,sw3,sw4,sw5,reduceCtorEq,Nat.reduceEqDiff,Nat.reduceAdd,Nat.reduceDiv,Nat.reduceLeDiff,hr,hs.at,hx,hy,hs.off,hx2,hy2,eq_false c1,eq_false c2,fq18.ret,false_or,false_and,or_self]
variable {f:AV} {L:List AObj} {a c x:AV}
theorem put0 {n:Int} (hK:K (.tup []) ⟨H ++ (.cells [.sref (H.length + (L.length + 1)) 0 1 1 1,f] :: (L ++ [.cells [iv n]])),true⟩):VC ⟨prog,k + 100,b⟩ F_fq22 [.ptr H.length 0 2,iv n] ⟨H ++ (.cells [.slice true 0 [],f] :: L),lk⟩ K:=by
  apply fq22.enter
  simp -implicitDefEqProofs only [fq22.n0_w,sw0,sw1,sw2,sw3,sw4,sw5,reduceCtorEq,Nat.reduceEqDiff,Nat.reduceAdd,Nat.reduceDiv,Nat.reduceLeDiff,dw0,Int.reduceAdd,Int.reduceSub,Int.reduceMul,Int.reduceLT,Int.reduceLE,Int.reduceNeg,Int.reduceEq,Int.reduceToNat,Nat.reduceLT,Nat.reduceMul,Nat.reduceSub,Nat.reduceBEq,Nat.reduceLeDiff,xw0,eApp,rowOf,appRow,lkL,lkN,eMupd,vLook,mapSh,findE,putE,keqL,hasSh,fits,shb,Int.reduceBEq,eMksl,vSlc,boundsOf,boundOf,cleanL,Nat.reduceGT,Int.reduceGT,Int.reduceGE,Int.reduceDiv,Int.reduceTDiv,vAidx,rdc,heap_int_put_u1]
  simp -implicitDefEqProofs only [wl_s,fq22.n2_w]
  simp -implicitDefEqProofs only [sw0,sw1,sw2,sw3,sw4,sw5,reduceCtorEq,Nat.reduceEqDiff,Nat.reduceAdd,Nat.reduceDiv,Nat.reduceLeDiff,dw0,Int.reduceAdd,Int.reduceSub,Int.reduceMul,Int.reduceLT,Int.reduceLE,Int.reduceNeg,Int.reduceEq,Int.reduceToNat,Nat.reduceLT,Nat.reduceMul,Nat.reduceSub,Nat.reduceBEq,Nat.reduceLeDiff,xw0,eApp,rowOf,appRow,lkL,lkN,eMupd,vLook,mapSh,findE,putE,keqL,hasSh,fits,shb,Int.reduceBEq,eMksl,vSlc,boundsOf,boundOf,cleanL,Nat.reduceGT,Int.reduceGT,Int.reduceGE,Int.reduceDiv,Int.reduceTDiv,vAidx,rdc,fq22.ret]
  exact hK
theorem put1_1 {v z:AV} {qs:List (Int × Int × Int)} {cl n m:Nat} (hs:Sl H 3 jc v qs) (hr:row H cl 1=some [v]) (hn:n < qs.length) (hm:m < qs.length)
    (hK:K (.tup []) ⟨H ++ (.cells [.sref (H.length + (L.length + 1)) 0 2 2 1,.fn F_fq18 [.ptr cl 0 1]] :: (L ++ [.cells (if qs[n].2.2 < qs[m].2.2∨qs[n].2.2=qs[m].2.2∧n < m then [iv n,iv m] else [iv m,iv n])])),true⟩) :
    VC ⟨prog,k + 100,b⟩ F_fq22 [.ptr H.length 0 2,iv n] ⟨H ++ (.cells [.sref (H.length + (L.length + 1)) 0 1 1 1,.fn F_fq18 [.ptr cl 0 1]] :: (L ++ [AObj.cells [iv m]])),lk⟩ K:=by
  apply fq22.enter
  have hbe:=fun (X:List AObj) (lk:Bool) (b:Option Nat) (K:AV→St→Prop)=>Plan_1_s (k:=k + 98) (lk:=lk) (b:=b) (K:=K) (hs.app (L:=X)) (row_app (L:=X) hr) hn hm
  by_cases c:qs[n].2.2 < qs[m].2.2∨qs[n].2.2=qs[m].2.2∧n < m
  · rw [if_pos c] at hK
    simp -implicitDefEqProofs only [eq_true c] at hbe
    simp -implicitDefEqProofs only [fq22.n0_w,sw0,sw1,sw2,sw3,sw4,sw5,reduceCtorEq,Nat.reduceEqDiff,Nat.reduceAdd,Nat.reduceDiv,Nat.reduceLeDiff,dw0,Int.reduceAdd,Int.reduceSub,Int.reduceMul,Int.reduceLT,Int.reduceLE,Int.reduceNeg,Int.reduceEq,Int.reduceToNat,Nat.reduceLT,Nat.reduceMul,Nat.reduceSub,Nat.reduceBEq,Nat.reduceLeDiff,xw0,eApp,rowOf,appRow,lkL,lkN,eMupd,vLook,mapSh,findE,putE,keqL,hasSh,fits,shb,Int.reduceBEq,eMksl,vSlc,boundsOf,boundOf,cleanL,Nat.reduceGT,Int.reduceGT,Int.reduceGE,Int.reduceDiv,Int.reduceTDiv,vAidx,rdc,heap_int_put_u1]
    simp -implicitDefEqProofs only [wl_s,fq22.n2_w]
    simp -implicitDefEqProofs only [sw0,sw1,sw2,sw3,sw4,sw5,reduceCtorEq,Nat.reduceEqDiff,Nat.reduceAdd,Nat.reduceDiv,Nat.reduceLeDiff,dw0,Int.reduceAdd,Int.reduceSub,Int.reduceMul,Int.reduceLT,Int.reduceLE,Int.reduceNeg,Int.reduceEq,Int.reduceToNat,Nat.reduceLT,Nat.reduceMul,Nat.reduceSub,Nat.reduceBEq,Nat.reduceLeDiff,xw0,eApp,rowOf,appRow,lkL,lkN,eMupd,vLook,mapSh,findE,putE,keqL,hasSh,fits,shb,Int.reduceBEq,eMksl,vSlc,boundsOf,boundOf,cleanL,Nat.reduceGT,Int.reduceGT,Int.reduceGE,Int.reduceDiv,Int.reduceTDiv,vAidx,rdc,fq22.n4_w,hbe,fq22.n5_w]
    simp -implicitDefEqProofs only [wl_s,fq22.n2_w]
    simp -implicitDefEqProofs only [sw0,sw1,sw2,sw3,sw4,sw5,reduceCtorEq,Nat.reduceEqDiff,Nat.reduceAdd,Nat.reduceDiv,Nat.reduceLeDiff,dw0,Int.reduceAdd,Int.reduceSub,Int.reduceMul,Int.reduceLT,Int.reduceLE,Int.reduceNeg,Int.reduceEq,Int.reduceToNat,Nat.reduceLT,Nat.reduceMul,Nat.reduceSub,Nat.reduceBEq,Nat.reduceLeDiff,xw0,eApp,rowOf,appRow,lkL,lkN,eMupd,vLook,mapSh,findE,putE,keqL,hasSh,fits,shb,Int.reduceBEq,eMksl,vSlc,boundsOf,boundOf,cleanL,Nat.reduceGT,Int.reduceGT,Int.reduceGE,Int.reduceDiv,Int.reduceTDiv,vAidx,rdc,fq22.ret]
    exact hK
  · rw [if_neg c] at hK
    simp -implicitDefEqProofs only [eq_false c] at hbe
    simp -implicitDefEqProofs only [fq22.n0_w,sw0,sw1,sw2,sw3,sw4,sw5,reduceCtorEq,Nat.reduceEqDiff,Nat.reduceAdd,Nat.reduceDiv,Nat.reduceLeDiff,dw0,Int.reduceAdd,Int.reduceSub,Int.reduceMul,Int.reduceLT,Int.reduceLE,Int.reduceNeg,Int.reduceEq,Int.reduceToNat,Nat.reduceLT,Nat.reduceMul,Nat.reduceSub,Nat.reduceBEq,Nat.reduceLeDiff,xw0,eApp,rowOf,appRow,lkL,lkN,eMupd,vLook,mapSh,findE,putE,keqL,hasSh,fits,shb,Int.reduceBEq,eMksl,vSlc,boundsOf,boundOf,cleanL,Nat.reduceGT,Int.reduceGT,Int.reduceGE,Int.reduceDiv,Int.reduceTDiv,vAidx,rdc,heap_int_put_u1]
    simp -implicitDefEqProofs only [wl_s,fq22.n2_w]
    simp -implicitDefEqProofs only [sw0,sw1,sw2,sw3,sw4,sw5,reduceCtorEq,Nat.reduceEqDiff,Nat.reduceAdd,Nat.reduceDiv,Nat.reduceLeDiff,dw0,Int.reduceAdd,Int.reduceSub,Int.reduceMul,Int.reduceLT,Int.reduceLE,Int.reduceNeg,Int.reduceEq,Int.reduceToNat,Nat.reduceLT,Nat.reduceMul,Nat.reduceSub,Nat.reduceBEq,Nat.reduceLeDiff,xw0,eApp,rowOf,appRow,lkL,lkN,eMupd,vLook,mapSh,findE,putE,keqL,hasSh,fits,shb,Int.reduceBEq,eMksl,vSlc,boundsOf,boundOf,cleanL,Nat.reduceGT,Int.reduceGT,Int.reduceGE,Int.reduceDiv,Int.reduceTDiv,vAidx,rdc,fq22.n4_w,hbe,fq22.ret]
    exact hK
theorem put1_2 {v z:AV} {qs:List (Int × Int × Int)} {cl n m:Nat} (hs:Sl H 3 jc v qs) (hr:row H cl 1=some [v]) (hn:n < qs.length) (hm:m < qs.length)
    (hK:K (.tup []) ⟨H ++ (.cells [.sref (H.length + (L.length + 1)) 0 2 2 1,.fn F_fq18 [.ptr cl 0 1]] :: (L ++ [.cells (if qs[n].2.2 < qs[m].2.2∨qs[n].2.2=qs[m].2.2∧n < m then [iv n,iv m] else [iv m,iv n])])),true⟩) :
    VC ⟨prog,k + 100,b⟩ F_fq22 [.ptr H.length 0 2,iv n] ⟨H ++ (.cells [.sref (H.length + (L.length + 1)) 0 1 2 1,.fn F_fq18 [.ptr cl 0 1]] :: (L ++ [AObj.cells [iv m,z]])),lk⟩ K:=by
  apply fq22.enter
  have hbe:=fun (X:List AObj) (lk:Bool) (b:Option Nat) (K:AV→St→Prop)=>Plan_1_s (k:=k + 98) (lk:=lk) (b:=b) (K:=K) (hs.app (L:=X)) (row_app (L:=X) hr) hn hm
  by_cases c:qs[n].2.2 < qs[m].2.2∨qs[n].2.2=qs[m].2.2∧n < m
  · rw [if_pos c] at hK
    simp -implicitDefEqProofs only [eq_true c] at hbe
    simp -implicitDefEqProofs only [fq22.n0_w,sw0,sw1,sw2,sw3,sw4,sw5,reduceCtorEq,Nat.reduceEqDiff,Nat.reduceAdd,Nat.reduceDiv,Nat.reduceLeDiff,dw0,Int.reduceAdd,Int.reduceSub,Int.reduceMul,Int.reduceLT,Int.reduceLE,Int.reduceNeg,Int.reduceEq,Int.reduceToNat,Nat.reduceLT,Nat.reduceMul,Nat.reduceSub,Nat.reduceBEq,Nat.reduceLeDiff,xw0,eApp,rowOf,appRow,lkL,lkN,eMupd,vLook,mapSh,findE,putE,keqL,hasSh,fits,shb,Int.reduceBEq,eMksl,vSlc,boundsOf,boundOf,cleanL,Nat.reduceGT,Int.reduceGT,Int.reduceGE,Int.reduceDiv,Int.reduceTDiv,vAidx,rdc,heap_int_put_u1]
    simp -implicitDefEqProofs only [wl_s,fq22.n2_w]
    simp -implicitDefEqProofs only [sw0,sw1,sw2,sw3,sw4,sw5,reduceCtorEq,Nat.reduceEqDiff,Nat.reduceAdd,Nat.reduceDiv,Nat.reduceLeDiff,dw0,Int.reduceAdd,Int.reduceSub,Int.reduceMul,Int.reduceLT,Int.reduceLE,Int.reduceNeg,Int.reduceEq,Int.reduceToNat,Nat.reduceLT,Nat.reduceMul,Nat.reduceSub,Nat.reduceBEq,Nat.reduceLeDiff,xw0,eApp,rowOf,appRow,lkL,lkN,eMupd,vLook,mapSh,findE,putE,keqL,hasSh,fits,shb,Int.reduceBEq,eMksl,vSlc,boundsOf,boundOf,cleanL,Nat.reduceGT,Int.reduceGT,Int.reduceGE,Int.reduceDiv,Int.reduceTDiv,vAidx,rdc,fq22.n4_w,hbe,fq22.n5_w]
    simp -implicitDefEqProofs only [wl_s,fq22.n2_w]
    simp -implicitDefEqProofs only [sw0,sw1,sw2,sw3,sw4,sw5,reduceCtorEq,Nat.reduceEqDiff,Nat.reduceAdd,Nat.reduceDiv,Nat.reduceLeDiff,dw0,Int.reduceAdd,Int.reduceSub,Int.reduceMul,Int.reduceLT,Int.reduceLE,Int.reduceNeg,Int.reduceEq,Int.reduceToNat,Nat.reduceLT,Nat.reduceMul,Nat.reduceSub,Nat.reduceBEq,Nat.reduceLeDiff,xw0,eApp,rowOf,appRow,lkL,lkN,eMupd,vLook,mapSh,findE,putE,keqL,hasSh,fits,shb,Int.reduceBEq,eMksl,vSlc,boundsOf,boundOf,cleanL,Nat.reduceGT,Int.reduceGT,Int.reduceGE,Int.reduceDiv,Int.reduceTDiv,vAidx,rdc,fq22.ret]
    exact hK
  · rw [if_neg c] at hK
    simp -implicitDefEqProofs only [eq_false c] at hbe
    simp -implicitDefEqProofs only [fq22.n0_w,sw0,sw1,sw2,sw3,sw4,sw5,reduceCtorEq,Nat.reduceEqDiff,Nat.reduceAdd,Nat.reduceDiv,Nat.reduceLeDiff,dw0,Int.reduceAdd,Int.reduceSub,Int.reduceMul,Int.reduceLT,Int.reduceLE,Int.reduceNeg,Int.reduceEq,Int.reduceToNat,Nat.reduceLT,Nat.reduceMul,Nat.reduceSub,Nat.reduceBEq,Nat.reduceLeDiff,xw0,eApp,rowOf,appRow,lkL,lkN,eMupd,vLook,mapSh,findE,putE,keqL,hasSh,fits,shb,Int.reduceBEq,eMksl,vSlc,boundsOf,boundOf,cleanL,Nat.reduceGT,Int.reduceGT,Int.reduceGE,Int.reduceDiv,Int.reduceTDiv,vAidx,rdc,heap_int_put_u1]
    simp -implicitDefEqProofs only [wl_s,fq22.n2_w]
    simp -implicitDefEqProofs only [sw0,sw1,sw2,sw3,sw4,sw5,reduceCtorEq,Nat.reduceEqDiff,Nat.reduceAdd,Nat.reduceDiv,Nat.reduceLeDiff,dw0,Int.reduceAdd,Int.reduceSub,Int.reduceMul,Int.reduceLT,Int.reduceLE,Int.reduceNeg,Int.reduceEq,Int.reduceToNat,Nat.reduceLT,Nat.reduceMul,Nat.reduceSub,Nat.reduceBEq,Nat.reduceLeDiff,xw0,eApp,rowOf,appRow,lkL,lkN,eMupd,vLook,mapSh,findE,putE,keqL,hasSh,fits,shb,Int.reduceBEq,eMksl,vSlc,boundsOf,boundOf,cleanL,Nat.reduceGT,Int.reduceGT,Int.reduceGE,Int.reduceDiv,Int.reduceTDiv,vAidx,rdc,fq22.n4_w,hbe,fq22.ret]
    exact hK
theorem take1 (hk:100≤k) {ver:Nat} {R:List AV} {n:Int} (hv:R.length + 1=ver) (hK:K (iv n) ⟨H ++ (.cells [.slice false 1 [],f] :: (L ++ [.cells (iv n :: R)])),true⟩) :
    VC ⟨prog,k + 1,b⟩ F_fq23 [.ptr H.length 0 2] ⟨H ++ (.cells [.sref (H.length + (L.length + 1)) 0 1 ver 1,f] :: (L ++ [.cells (iv n :: R)])),true⟩ K:=by
  subst hv
  apply fq23.enter
  simp -implicitDefEqProofs only [fq23.n0_w,sw0,sw1,sw2,sw3,sw4,sw5,reduceCtorEq,Nat.reduceEqDiff,Nat.reduceAdd,Nat.reduceDiv,Nat.reduceLeDiff,dw0,Int.reduceAdd,Int.reduceSub,Int.reduceMul,Int.reduceLT,Int.reduceLE,Int.reduceNeg,Int.reduceEq,Int.reduceToNat,Nat.reduceLT,Nat.reduceMul,Nat.reduceSub,Nat.reduceBEq,Nat.reduceLeDiff,xw0,eApp,rowOf,appRow,lkL,lkN,eMupd,vLook,mapSh,findE,putE,keqL,hasSh,fits,shb,Int.reduceBEq,eMksl,vSlc,boundsOf,boundOf,cleanL,Nat.reduceGT,Int.reduceGT,Int.reduceGE,Int.reduceDiv,Int.reduceTDiv,vAidx,rdc,heap_int_take_u1]
  rw [wl_1 (by omega)]
  simp -implicitDefEqProofs only [fq23.n2_w,sw0,sw1,sw2,sw3,sw4,sw5,reduceCtorEq,Nat.reduceEqDiff,Nat.reduceAdd,Nat.reduceDiv,Nat.reduceLeDiff,dw0,Int.reduceAdd,Int.reduceSub,Int.reduceMul,Int.reduceLT,Int.reduceLE,Int.reduceNeg,Int.reduceEq,Int.reduceToNat,Nat.reduceLT,Nat.reduceMul,Nat.reduceSub,Nat.reduceBEq,Nat.reduceLeDiff,xw0,eApp,rowOf,appRow,lkL,lkN,eMupd,vLook,mapSh,findE,putE,keqL,hasSh,fits,shb,Int.reduceBEq,eMksl,vSlc,boundsOf,boundOf,cleanL,Nat.reduceGT,Int.reduceGT,Int.reduceGE,Int.reduceDiv,Int.reduceTDiv,vAidx,rdc,heap_int_take_u3]
  rw [wl_1 (by omega)]
  simp -implicitDefEqProofs only [fq23.n4_w,sw0,sw1,sw2,sw3,sw4,sw5,reduceCtorEq,Nat.reduceEqDiff,Nat.reduceAdd,Nat.reduceDiv,Nat.reduceLeDiff,dw0,Int.reduceAdd,Int.reduceSub,Int.reduceMul,Int.reduceLT,Int.reduceLE,Int.reduceNeg,Int.reduceEq,Int.reduceToNat,Nat.reduceLT,Nat.reduceMul,Nat.reduceSub,Nat.reduceBEq,Nat.reduceLeDiff,xw0,eApp,rowOf,appRow,lkL,lkN,eMupd,vLook,mapSh,findE,putE,keqL,hasSh,fits,shb,Int.reduceBEq,eMksl,vSlc,boundsOf,boundOf,cleanL,Nat.reduceGT,Int.reduceGT,Int.reduceGE,Int.reduceDiv,Int.reduceTDiv,vAidx,rdc,fq23.n6_w,fq23.n8_w]
  rw [wl_1 (by omega)]
  simp -implicitDefEqProofs only [fq23.n4_w,sw0,sw1,sw2,sw3,sw4,sw5,reduceCtorEq,Nat.reduceEqDiff,Nat.reduceAdd,Nat.reduceDiv,Nat.reduceLeDiff,dw0,Int.reduceAdd,Int.reduceSub,Int.reduceMul,Int.reduceLT,Int.reduceLE,Int.reduceNeg,Int.reduceEq,Int.reduceToNat,Nat.reduceLT,Nat.reduceMul,Nat.reduceSub,Nat.reduceBEq,Nat.reduceLeDiff,xw0,eApp,rowOf,appRow,lkL,lkN,eMupd,vLook,mapSh,findE,putE,keqL,hasSh,fits,shb,Int.reduceBEq,eMksl,vSlc,boundsOf,boundOf,cleanL,Nat.reduceGT,Int.reduceGT,Int.reduceGE,Int.reduceDiv,Int.reduceTDiv,vAidx,rdc,fq23.n6_w,fq23.n8_w]
  rw [wl_1 (by omega)]
  simp -implicitDefEqProofs only [fq23.n4_w,sw0,sw1,sw2,sw3,sw4,sw5,reduceCtorEq,Nat.reduceEqDiff,Nat.reduceAdd,Nat.reduceDiv,Nat.reduceLeDiff,dw0,Int.reduceAdd,Int.reduceSub,Int.reduceMul,Int.reduceLT,Int.reduceLE,Int.reduceNeg,Int.reduceEq,Int.reduceToNat,Nat.reduceLT,Nat.reduceMul,Nat.reduceSub,Nat.reduceBEq,Nat.reduceLeDiff,xw0,eApp,rowOf,appRow,lkL,lkN,eMupd,vLook,mapSh,findE,putE,keqL,hasSh,fits,shb,Int.reduceBEq,eMksl,vSlc,boundsOf,boundOf,cleanL,Nat.reduceGT,Int.reduceGT,Int.reduceGE,Int.reduceDiv,Int.reduceTDiv,vAidx,rdc,fq23.n9_w,fq23.n10_w,fq23.ret]
  rw [List.take_of_length_le (by simp)]
  exact hK
theorem take2 (hk:100≤k) {n m:Int} (hK:K (iv n) ⟨H ++ (.cells [.sref (H.length + (L.length + 1)) 0 1 2 1,f] :: (L ++ [.cells [iv m,iv m]])),true⟩) :
    VC ⟨prog,k + 1,b⟩ F_fq23 [.ptr H.length 0 2] ⟨H ++ (.cells [.sref (H.length + (L.length + 1)) 0 2 2 1,f] :: (L ++ [.cells [iv n,iv m]])),true⟩ K:=by
  apply fq23.enter
  simp -implicitDefEqProofs only [fq23.n0_w,sw0,sw1,sw2,sw3,sw4,sw5,reduceCtorEq,Nat.reduceEqDiff,Nat.reduceAdd,Nat.reduceDiv,Nat.reduceLeDiff,dw0,Int.reduceAdd,Int.reduceSub,Int.reduceMul,Int.reduceLT,Int.reduceLE,Int.reduceNeg,Int.reduceEq,Int.reduceToNat,Nat.reduceLT,Nat.reduceMul,Nat.reduceSub,Nat.reduceBEq,Nat.reduceLeDiff,xw0,eApp,rowOf,appRow,lkL,lkN,eMupd,vLook,mapSh,findE,putE,keqL,hasSh,fits,shb,Int.reduceBEq,eMksl,vSlc,boundsOf,boundOf,cleanL,Nat.reduceGT,Int.reduceGT,Int.reduceGE,Int.reduceDiv,Int.reduceTDiv,vAidx,rdc,heap_int_take_u1]
  rw [wl_1 (by omega)]
  simp -implicitDefEqProofs only [fq23.n2_w,sw0,sw1,sw2,sw3,sw4,sw5,reduceCtorEq,Nat.reduceEqDiff,Nat.reduceAdd,Nat.reduceDiv,Nat.reduceLeDiff,dw0,Int.reduceAdd,Int.reduceSub,Int.reduceMul,Int.reduceLT,Int.reduceLE,Int.reduceNeg,Int.reduceEq,Int.reduceToNat,Nat.reduceLT,Nat.reduceMul,Nat.reduceSub,Nat.reduceBEq,Nat.reduceLeDiff,xw0,eApp,rowOf,appRow,lkL,lkN,eMupd,vLook,mapSh,findE,putE,keqL,hasSh,fits,shb,Int.reduceBEq,eMksl,vSlc,boundsOf,boundOf,cleanL,Nat.reduceGT,Int.reduceGT,Int.reduceGE,Int.reduceDiv,Int.reduceTDiv,vAidx,rdc,heap_int_take_u3]
  rw [wl_1 (by omega)]
  simp -implicitDefEqProofs only [fq23.n4_w,sw0,sw1,sw2,sw3,sw4,sw5,reduceCtorEq,Nat.reduceEqDiff,Nat.reduceAdd,Nat.reduceDiv,Nat.reduceLeDiff,dw0,Int.reduceAdd,Int.reduceSub,Int.reduceMul,Int.reduceLT,Int.reduceLE,Int.reduceNeg,Int.reduceEq,Int.reduceToNat,Nat.reduceLT,Nat.reduceMul,Nat.reduceSub,Nat.reduceBEq,Nat.reduceLeDiff,xw0,eApp,rowOf,appRow,lkL,lkN,eMupd,vLook,mapSh,findE,putE,keqL,hasSh,fits,shb,Int.reduceBEq,eMksl,vSlc,boundsOf,boundOf,cleanL,Nat.reduceGT,Int.reduceGT,Int.reduceGE,Int.reduceDiv,Int.reduceTDiv,vAidx,rdc,fq23.n6_w,fq23.n8_w]
  rw [wl_1 (by omega)]
  simp -implicitDefEqProofs only [fq23.n4_w,sw0,sw1,sw2,sw3,sw4,sw5,reduceCtorEq,Nat.reduceEqDiff,Nat.reduceAdd,Nat.reduceDiv,Nat.reduceLeDiff,dw0,Int.reduceAdd,Int.reduceSub,Int.reduceMul,Int.reduceLT,Int.reduceLE,Int.reduceNeg,Int.reduceEq,Int.reduceToNat,Nat.reduceLT,Nat.reduceMul,Nat.reduceSub,Nat.reduceBEq,Nat.reduceLeDiff,xw0,eApp,rowOf,appRow,lkL,lkN,eMupd,vLook,mapSh,findE,putE,keqL,hasSh,fits,shb,Int.reduceBEq,eMksl,vSlc,boundsOf,boundOf,cleanL,Nat.reduceGT,Int.reduceGT,Int.reduceGE,Int.reduceDiv,Int.reduceTDiv,vAidx,rdc,fq23.n6_w,fq23.n8_w]
  rw [wl_1 (by omega)]
  simp -implicitDefEqProofs only [fq23.n4_w,sw0,sw1,sw2,sw3,sw4,sw5,reduceCtorEq,Nat.reduceEqDiff,Nat.reduceAdd,Nat.reduceDiv,Nat.reduceLeDiff,dw0,Int.reduceAdd,Int.reduceSub,Int.reduceMul,Int.reduceLT,Int.reduceLE,Int.reduceNeg,Int.reduceEq,Int.reduceToNat,Nat.reduceLT,Nat.reduceMul,Nat.reduceSub,Nat.reduceBEq,Nat.reduceLeDiff,xw0,eApp,rowOf,appRow,lkL,lkN,eMupd,vLook,mapSh,findE,putE,keqL,hasSh,fits,shb,Int.reduceBEq,eMksl,vSlc,boundsOf,boundOf,cleanL,Nat.reduceGT,Int.reduceGT,Int.reduceGE,Int.reduceDiv,Int.reduceTDiv,vAidx,rdc,fq23.n9_w,fq23.n10_w,fq23.ret]
  exact hK
theorem slots_1_s {J:Nat→St→Prop} {R:St→Prop} (hk:1000≤k) {l ck:Nat} {s:St}
    (hy:∀ (t:Nat) s,t < 500→J t s→∃ m v,row s.heap ck 1=some [m]∧vLook s.heap shI (.slice true 0 []) false m (iv t)=some v∧∀ b,YC ⟨prog,k,b⟩ l [iv t,v] s (fun w s'=>(w=.bool true∧J (t + 1) s')∨(w=.bool false∧R s')))
    (h0:J 0 { s with leak:=false }) (hend:∀ s,J 500 s→R s) (hR:∀ s',R s'→s'.leak=true∧K (.tup []) ⟨s'.heap,true⟩):VC ⟨prog,k + 1,b⟩ F_fq42 [.yield l,.ptr ck 0 1] s K:=by
  have hfin:∀ s',R s'→K (leave s.heap.length s.leak [] [] s').1 (leave s.heap.length s.leak [] [] s').2:=by
    intro s' h
    obtain ⟨h1,h2⟩:=hR s' h
    obtain ⟨G,lk'⟩:=s'
    dsimp only at h1
    subst h1
    rw [lv_t]
    exact h2
  apply fq42.enter
  simp -implicitDefEqProofs only [fq42.n0_w,sw0,sw1,sw2,sw3,sw4,sw5,reduceCtorEq,Nat.reduceEqDiff,Nat.reduceAdd,Nat.reduceDiv,Nat.reduceLeDiff]
  refine fq42.n1_l (fun m r2 s=>∃ t:Nat,r2=iv t∧m=500 - t∧t≤500∧J t s) 500 (by simp -implicitDefEqProofs only []; omega) ⟨0,rfl,rfl,by omega,h0⟩ ?_
  rintro m r2 r3 s ⟨t,rfl,rfl,ht,hJ⟩
  simp -implicitDefEqProofs only [fq42.n2_w,sw0,sw1,sw2,sw3,sw4,sw5,reduceCtorEq,Nat.reduceEqDiff,Nat.reduceAdd,Nat.reduceDiv,Nat.reduceLeDiff]
  split
  · rename_i hlt
    have hlt:t < 500:=by omega
    obtain ⟨mm,v,h1,h2,h3⟩:=hy t s hlt hJ
    simp -implicitDefEqProofs only [fq42.n4_w,sw0,sw1,sw2,sw3,sw4,sw5,reduceCtorEq,Nat.reduceEqDiff,Nat.reduceAdd,Nat.reduceDiv,Nat.reduceLeDiff,h1,h2,VV_y]
    refine YC_mono ?_ (h3 _)
    rintro w s' (⟨rfl,hJ'⟩ | ⟨rfl,hR'⟩)
    · simp -implicitDefEqProofs only [sw0,sw1,sw2,sw3,sw4,sw5,reduceCtorEq,Nat.reduceEqDiff,Nat.reduceAdd,Nat.reduceDiv,Nat.reduceLeDiff,fq42.n5_w]
      refine fq42.n1_go (m':=500 - (t + 1)) (by omega) ⟨t + 1,by rw [wrap64 (by omega)]; rfl,rfl,by omega,hJ'⟩
    · simp -implicitDefEqProofs only [sw0,sw1,sw2,sw3,sw4,sw5,reduceCtorEq,Nat.reduceEqDiff,Nat.reduceAdd,Nat.reduceDiv,Nat.reduceLeDiff,fq42.ret]
      exact hfin s' hR'
  · rename_i hge
    have hte:t=500:=by omega
    subst hte
    simp -implicitDefEqProofs only [sw0,sw1,sw2,sw3,sw4,sw5,reduceCtorEq,Nat.reduceEqDiff,Nat.reduceAdd,Nat.reduceDiv,Nat.reduceLeDiff,RK_n,fq42.ret]
    exact hfin s (hend s hJ)
theorem put0' (hk:100≤k) {n:Int} (hK:K (.tup []) ⟨H ++ (.cells [.sref (H.length + (L.length + 1)) 0 1 1 1,f] :: (L ++ [.cells [iv n]])),true⟩):VC ⟨prog,k,b⟩ F_fq22 [.ptr H.length 0 2,iv n] ⟨H ++ (.cells [.slice true 0 [],f] :: L),lk⟩ K:=by
  obtain ⟨k,rfl⟩:∃ j,k=j + 100:=⟨k - 100,by omega⟩
  exact put0 hK
theorem put1'_1 (hk:100≤k) {v z:AV} {qs:List (Int × Int × Int)} {cl n m:Nat} (hs:Sl H 3 jc v qs) (hr:row H cl 1=some [v]) (hn:n < qs.length) (hm:m < qs.length)
    (hK:K (.tup []) ⟨H ++ (.cells [.sref (H.length + (L.length + 1)) 0 2 2 1,.fn F_fq18 [.ptr cl 0 1]] :: (L ++ [.cells (if qs[n].2.2 < qs[m].2.2∨qs[n].2.2=qs[m].2.2∧n < m then [iv n,iv m] else [iv m,iv n])])),true⟩) :
    VC ⟨prog,k,b⟩ F_fq22 [.ptr H.length 0 2,iv n] ⟨H ++ (.cells [.sref (H.length + (L.length + 1)) 0 1 1 1,.fn F_fq18 [.ptr cl 0 1]] :: (L ++ [AObj.cells [iv m]])),lk⟩ K:=by
  obtain ⟨k,rfl⟩:∃ j,k=j + 100:=⟨k - 100,by omega⟩
  exact put1_1 (z:=z) hs hr hn hm hK
theorem put1'_2 (hk:100≤k) {v z:AV} {qs:List (Int × Int × Int)} {cl n m:Nat} (hs:Sl H 3 jc v qs) (hr:row H cl 1=some [v]) (hn:n < qs.length) (hm:m < qs.length)
    (hK:K (.tup []) ⟨H ++ (.cells [.sref (H.length + (L.length + 1)) 0 2 2 1,.fn F_fq18 [.ptr cl 0 1]] :: (L ++ [.cells (if qs[n].2.2 < qs[m].2.2∨qs[n].2.2=qs[m].2.2∧n < m then [iv n,iv m] else [iv m,iv n])])),true⟩) :
    VC ⟨prog,k,b⟩ F_fq22 [.ptr H.length 0 2,iv n] ⟨H ++ (.cells [.sref (H.length + (L.length + 1)) 0 1 2 1,.fn F_fq18 [.ptr cl 0 1]] :: (L ++ [AObj.cells [iv m,z]])),lk⟩ K:=by
  obtain ⟨k,rfl⟩:∃ j,k=j + 100:=⟨k - 100,by omega⟩
  exact put1_2 (z:=z) hs hr hn hm hK
theorem yB0 (hk:1000≤k) {r0 r1 r6 r9 r10 r11 r12 r13 r14 r15 r16 r17 r18 r19 r20 r21 r22 r23 r24 r25 r26 r27 r28 r29 r30 r31 r32 r33 r34 r35 r36 r37 r38 r39 r40 r41 r42 r43 r44 r45 r46 r47 r48 r49 r50 r51 r52 r53 r54 r55 r56 r57 r58 r59 r60 r61 r62 r63 r64 r65 r66:AV} {m0 m1:AObj} {x1 x2:AObj}
    (hK:K (.bool true) ⟨H ++ [.cells [vB],.cells [iv 1],.cells [.slice true 0 []],.cells [iv 0],.cells [iv 0,iv 0],.cells [.sref (H.length + 4) 0 2 2 1],.cells [.sref (H.length + 13) 0 1 2 1,.fn F_fq18 [.ptr H.length 0 1]],m0,m1,x1,.cells [iv 0,iv 1],x2,.loop [r0,r1,.ptr H.length 0 1,.ptr (H.length + 1) 0 1,.ptr (H.length + 2) 0 1,.ptr (H.length + 3) 0 1,r6,.ptr (H.length + 5) 0 1,.ptr (H.length + 6) 0 2,r9,r10,r11,r12,r13,r14,r15,r16,r17,r18,r19,r20,r21,r22,r23,r24,r25,r26,r27,r28,r29,r30,r31,r32,r33,r34,r35,r36,r37,r38,r39,r40,r41,r42,r43,r44,r45,r46,r47,r48,r49,r50,r51,r52,r53,r54,r55,r56,r57,r58,r59,r60,r61,r62,r63,r64,r65,r66] [28,29] fq17.n4 fq17.n5 true none,.cells [iv 1,iv 1]],true⟩) :
    YC ⟨prog,k + 1,b⟩ (H.length + 12) [iv 0,.sref (H.length + 10) 0 2 2 1] ⟨H ++ [.cells [vB],.cells [iv 1],.cells [.slice true 0 []],.cells [iv 0],.cells [iv 0,iv 0],.cells [.sref (H.length + 4) 0 2 2 1],.cells [.slice true 0 [],.fn F_fq18 [.ptr H.length 0 1]],m0,m1,x1,.cells [iv 0,iv 1],x2,.loop [r0,r1,.ptr H.length 0 1,.ptr (H.length + 1) 0 1,.ptr (H.length + 2) 0 1,.ptr (H.length + 3) 0 1,r6,.ptr (H.length + 5) 0 1,.ptr (H.length + 6) 0 2,r9,r10,r11,r12,r13,r14,r15,r16,r17,r18,r19,r20,r21,r22,r23,r24,r25,r26,r27,r28,r29,r30,r31,r32,r33,r34,r35,r36,r37,r38,r39,r40,r41,r42,r43,r44,r45,r46,r47,r48,r49,r50,r51,r52,r53,r54,r55,r56,r57,r58,r59,r60,r61,r62,r63,r64,r65,r66] [28,29] fq17.n4 fq17.n5 true none],lk⟩ K:=by
  have hk1:100≤k:=by omega
  have hk2:100≤k - 1:=by omega
  refine YC_go (by simp -implicitDefEqProofs only [sw0,sw1,sw2,sw3,sw4,sw5,reduceCtorEq,Nat.reduceEqDiff,Nat.reduceAdd,Nat.reduceDiv,Nat.reduceLeDiff,dw0,Int.reduceAdd,Int.reduceSub,Int.reduceMul,Int.reduceLT,Int.reduceLE,Int.reduceNeg,Int.reduceEq,Int.reduceToNat,Nat.reduceLT,Nat.reduceMul,Nat.reduceSub,Nat.reduceBEq,Nat.reduceLeDiff,xw0,eApp,rowOf,appRow,lkL,lkN,eMupd,vLook,mapSh,findE,putE,keqL,hasSh,fits,shb,Int.reduceBEq,eMksl,vSlc,boundsOf,boundOf,cleanL,Nat.reduceGT,Int.reduceGT,Int.reduceGE,Int.reduceDiv,Int.reduceTDiv,vAidx,rdc]; rfl) rfl ?_
  simp -implicitDefEqProofs only [sw0,sw1,sw2,sw3,sw4,sw5,reduceCtorEq,Nat.reduceEqDiff,Nat.reduceAdd,Nat.reduceDiv,Nat.reduceLeDiff,dw0,Int.reduceAdd,Int.reduceSub,Int.reduceMul,Int.reduceLT,Int.reduceLE,Int.reduceNeg,Int.reduceEq,Int.reduceToNat,Nat.reduceLT,Nat.reduceMul,Nat.reduceSub,Nat.reduceBEq,Nat.reduceLeDiff,xw0,eApp,rowOf,appRow,lkL,lkN,eMupd,vLook,mapSh,findE,putE,keqL,hasSh,fits,shb,Int.reduceBEq,eMksl,vSlc,boundsOf,boundOf,cleanL,Nat.reduceGT,Int.reduceGT,Int.reduceGE,Int.reduceDiv,Int.reduceTDiv,vAidx,rdc,fq17.n4_w,fq17.n5_w,YK,Plan_u6]
  refine ⟨⟨_,_,_,_,rfl⟩,?_⟩
  rw [wl_1 (by omega)]
  simp -implicitDefEqProofs only [fq17.n7_w,sw0,sw1,sw2,sw3,sw4,sw5,reduceCtorEq,Nat.reduceEqDiff,Nat.reduceAdd,Nat.reduceDiv,Nat.reduceLeDiff,dw0,Int.reduceAdd,Int.reduceSub,Int.reduceMul,Int.reduceLT,Int.reduceLE,Int.reduceNeg,Int.reduceEq,Int.reduceToNat,Nat.reduceLT,Nat.reduceMul,Nat.reduceSub,Nat.reduceBEq,Nat.reduceLeDiff,xw0,eApp,rowOf,appRow,lkL,lkN,eMupd,vLook,mapSh,findE,putE,keqL,hasSh,fits,shb,Int.reduceBEq,eMksl,vSlc,boundsOf,boundOf,cleanL,Nat.reduceGT,Int.reduceGT,Int.reduceGE,Int.reduceDiv,Int.reduceTDiv,vAidx,rdc,fq17.n9_w]
  have h:=fun (K:AV→St→Prop) X (hK)=>put0' (k:=k) (b:=none) (lk:=lk) (K:=K) (n:=0) (f:=.fn F_fq18 [.ptr H.length 0 1]) hk1 (H:=H ++ [.cells [vB],.cells [iv 1],.cells [.slice true 0 []],.cells [iv 0],.cells [iv 0,iv 0],.cells [.sref (H.length + 4) 0 2 2 1]]) (L:=[m0,m1,x1,.cells [iv 0,iv 1],x2,X]) hK
  simp -implicitDefEqProofs only [sw0,sw1,sw2,sw3,sw4,sw5,reduceCtorEq,Nat.reduceEqDiff,Nat.reduceAdd,Nat.reduceDiv,Nat.reduceLeDiff,Nat.add_assoc] at h
  refine h _ _ ?_
  clear h
  rw [wl_1 (by omega)]
  simp -implicitDefEqProofs only [fq17.n7_w,sw0,sw1,sw2,sw3,sw4,sw5,reduceCtorEq,Nat.reduceEqDiff,Nat.reduceAdd,Nat.reduceDiv,Nat.reduceLeDiff,dw0,Int.reduceAdd,Int.reduceSub,Int.reduceMul,Int.reduceLT,Int.reduceLE,Int.reduceNeg,Int.reduceEq,Int.reduceToNat,Nat.reduceLT,Nat.reduceMul,Nat.reduceSub,Nat.reduceBEq,Nat.reduceLeDiff,xw0,eApp,rowOf,appRow,lkL,lkN,eMupd,vLook,mapSh,findE,putE,keqL,hasSh,fits,shb,Int.reduceBEq,eMksl,vSlc,boundsOf,boundOf,cleanL,Nat.reduceGT,Int.reduceGT,Int.reduceGE,Int.reduceDiv,Int.reduceTDiv,vAidx,rdc,fq17.n9_w]
  have h:=fun (K:AV→St→Prop) X (hK)=>put1'_1 (k:=k) (b:=none) (lk:=true) (K:=K) (n:=1) (m:=0) (z:=.undef) (qs:=jB) (cl:=H.length) (v:=vB) hk1 (H:=H ++ [.cells [vB],.cells [iv 1],.cells [.slice true 0 []],.cells [iv 0],.cells [iv 0,iv 0],.cells [.sref (H.length + 4) 0 2 2 1]]) (L:=[m0,m1,x1,.cells [iv 0,iv 1],x2,X]) vB_sl (by simp -implicitDefEqProofs only [sw0,sw1,sw2,sw3,sw4,sw5,reduceCtorEq,Nat.reduceEqDiff,Nat.reduceAdd,Nat.reduceDiv,Nat.reduceLeDiff,dw0,Int.reduceAdd,Int.reduceSub,Int.reduceMul,Int.reduceLT,Int.reduceLE,Int.reduceNeg,Int.reduceEq,Int.reduceToNat,Nat.reduceLT,Nat.reduceMul,Nat.reduceSub,Nat.reduceBEq,Nat.reduceLeDiff,xw0,eApp,rowOf,appRow,lkL,lkN,eMupd,vLook,mapSh,findE,putE,keqL,hasSh,fits,shb,Int.reduceBEq,eMksl,vSlc,boundsOf,boundOf,cleanL,Nat.reduceGT,Int.reduceGT,Int.reduceGE,Int.reduceDiv,Int.reduceTDiv,vAidx,rdc]) (by decide) (by decide) hK
  simp -implicitDefEqProofs only [sw0,sw1,sw2,sw3,sw4,sw5,reduceCtorEq,Nat.reduceEqDiff,Nat.reduceAdd,Nat.reduceDiv,Nat.reduceLeDiff,dw0,Int.reduceAdd,Int.reduceSub,Int.reduceMul,Int.reduceLT,Int.reduceLE,Int.reduceNeg,Int.reduceEq,Int.reduceToNat,Nat.reduceLT,Nat.reduceMul,Nat.reduceSub,Nat.reduceBEq,Nat.reduceLeDiff,xw0,eApp,rowOf,appRow,lkL,lkN,eMupd,vLook,mapSh,findE,putE,keqL,hasSh,fits,shb,Int.reduceBEq,eMksl,vSlc,boundsOf,boundOf,cleanL,Nat.reduceGT,Int.reduceGT,Int.reduceGE,Int.reduceDiv,Int.reduceTDiv,vAidx,rdc,jB,Nat.add_assoc] at h
  refine h _ _ ?_
  clear h
  rw [wl_1 (by omega)]
  simp -implicitDefEqProofs only [fq17.n7_w,sw0,sw1,sw2,sw3,sw4,sw5,reduceCtorEq,Nat.reduceEqDiff,Nat.reduceAdd,Nat.reduceDiv,Nat.reduceLeDiff,dw0,Int.reduceAdd,Int.reduceSub,Int.reduceMul,Int.reduceLT,Int.reduceLE,Int.reduceNeg,Int.reduceEq,Int.reduceToNat,Nat.reduceLT,Nat.reduceMul,Nat.reduceSub,Nat.reduceBEq,Nat.reduceLeDiff,xw0,eApp,rowOf,appRow,lkL,lkN,eMupd,vLook,mapSh,findE,putE,keqL,hasSh,fits,shb,Int.reduceBEq,eMksl,vSlc,boundsOf,boundOf,cleanL,Nat.reduceGT,Int.reduceGT,Int.reduceGE,Int.reduceDiv,Int.reduceTDiv,vAidx,rdc,fq17.n10_w,Plan_u11]
  rw [wl_1 (by omega)]
  simp -implicitDefEqProofs only [fq17.n12_w,sw0,sw1,sw2,sw3,sw4,sw5,reduceCtorEq,Nat.reduceEqDiff,Nat.reduceAdd,Nat.reduceDiv,Nat.reduceLeDiff,dw0,Int.reduceAdd,Int.reduceSub,Int.reduceMul,Int.reduceLT,Int.reduceLE,Int.reduceNeg,Int.reduceEq,Int.reduceToNat,Nat.reduceLT,Nat.reduceMul,Nat.reduceSub,Nat.reduceBEq,Nat.reduceLeDiff,xw0,eApp,rowOf,appRow,lkL,lkN,eMupd,vLook,mapSh,findE,putE,keqL,hasSh,fits,shb,Int.reduceBEq,eMksl,vSlc,boundsOf,boundOf,cleanL,Nat.reduceGT,Int.reduceGT,Int.reduceGE,Int.reduceDiv,Int.reduceTDiv,vAidx,rdc,fq17.n14_w]
  have h:=fun (K:AV→St→Prop) X (hK)=>take2 (k:=k - 1) (b:=none) (K:=K) (n:=0) (m:=1) (f:=.fn F_fq18 [.ptr H.length 0 1]) hk2 (H:=H ++ [.cells [vB],.cells [iv 1],.cells [.slice true 0 []],.cells [iv 0],.cells [iv 0,iv 0],.cells [.sref (H.length + 4) 0 2 2 1]]) (L:=[m0,m1,x1,.cells [iv 0,iv 1],x2,X]) hK
  rw [show k - 1 + 1=k by omega] at h
  simp -implicitDefEqProofs only [sw0,sw1,sw2,sw3,sw4,sw5,reduceCtorEq,Nat.reduceEqDiff,Nat.reduceAdd,Nat.reduceDiv,Nat.reduceLeDiff,dw0,Int.reduceAdd,Int.reduceSub,Int.reduceMul,Int.reduceLT,Int.reduceLE,Int.reduceNeg,Int.reduceEq,Int.reduceToNat,Nat.reduceLT,Nat.reduceMul,Nat.reduceSub,Nat.reduceBEq,Nat.reduceLeDiff,xw0,eApp,rowOf,appRow,lkL,lkN,eMupd,vLook,mapSh,findE,putE,keqL,hasSh,fits,shb,Int.reduceBEq,eMksl,vSlc,boundsOf,boundOf,cleanL,Nat.reduceGT,Int.reduceGT,Int.reduceGE,Int.reduceDiv,Int.reduceTDiv,vAidx,rdc,Nat.add_assoc] at h
  refine h _ _ ?_
  clear h
  simp -implicitDefEqProofs only [sw0,sw1,sw2,sw3,sw4,sw5,reduceCtorEq,Nat.reduceEqDiff,Nat.reduceAdd,Nat.reduceDiv,Nat.reduceLeDiff,dw0,Int.reduceAdd,Int.reduceSub,Int.reduceMul,Int.reduceLT,Int.reduceLE,Int.reduceNeg,Int.reduceEq,Int.reduceToNat,Nat.reduceLT,Nat.reduceMul,Nat.reduceSub,Nat.reduceBEq,Nat.reduceLeDiff,xw0,eApp,rowOf,appRow,lkL,lkN,eMupd,vLook,mapSh,findE,putE,keqL,hasSh,fits,shb,Int.reduceBEq,eMksl,vSlc,boundsOf,boundOf,cleanL,Nat.reduceGT,Int.reduceGT,Int.reduceGE,Int.reduceDiv,Int.reduceTDiv,vAidx,rdc,fq17.n16_w,fq17.n17_w]
  rw [wl_1 (by omega)]
  simp -implicitDefEqProofs only [fq17.n12_w,sw0,sw1,sw2,sw3,sw4,sw5,reduceCtorEq,Nat.reduceEqDiff,Nat.reduceAdd,Nat.reduceDiv,Nat.reduceLeDiff,dw0,Int.reduceAdd,Int.reduceSub,Int.reduceMul,Int.reduceLT,Int.reduceLE,Int.reduceNeg,Int.reduceEq,Int.reduceToNat,Nat.reduceLT,Nat.reduceMul,Nat.reduceSub,Nat.reduceBEq,Nat.reduceLeDiff,xw0,eApp,rowOf,appRow,lkL,lkN,eMupd,vLook,mapSh,findE,putE,keqL,hasSh,fits,shb,Int.reduceBEq,eMksl,vSlc,boundsOf,boundOf,cleanL,Nat.reduceGT,Int.reduceGT,Int.reduceGE,Int.reduceDiv,Int.reduceTDiv,vAidx,rdc,YK]
  exact hK
theorem yB1 (hk:1000≤k) {r0 r1 r6 r9 r10 r11 r12 r13 r14 r15 r16 r17 r18 r19 r20 r21 r22 r23 r24 r25 r26 r27 r28 r29 r30 r31 r32 r33 r34 r35 r36 r37 r38 r39 r40 r41 r42 r43 r44 r45 r46 r47 r48 r49 r50 r51 r52 r53 r54 r55 r56 r57 r58 r59 r60 r61 r62 r63 r64 r65 r66:AV} {m0 m1:AObj} {x1 x2:AObj}
    (hK:K (.bool false) ⟨H ++ [.cells [vB],.cells [iv 1],.cells [.slice true 0 []],.cells [iv 7],.cells [iv 0,iv 0],.cells [.sref (H.length + 4) 0 2 2 1],.cells [.slice false 1 [],.fn F_fq18 [.ptr H.length 0 1]],m0,m1,x1,.cells [iv 0,iv 1],x2,.loop [r0,r1,.ptr H.length 0 1,.ptr (H.length + 1) 0 1,.ptr (H.length + 2) 0 1,.ptr (H.length + 3) 0 1,r6,.ptr (H.length + 5) 0 1,.ptr (H.length + 6) 0 2,r9,r10,r11,r12,r13,r14,r15,r16,r17,r18,r19,r20,r21,r22,r23,r24,r25,r26,r27,r28,r29,r30,r31,r32,r33,r34,r35,r36,r37,r38,r39,r40,r41,r42,r43,r44,r45,r46,r47,r48,r49,r50,r51,r52,r53,r54,r55,r56,r57,r58,r59,r60,r61,r62,r63,r64,r65,r66] [28,29] fq17.n4 fq17.n5 false (some .ret),.cells [iv 1,iv 1]],true⟩) :
    YC ⟨prog,k + 1,b⟩ (H.length + 12) [iv 1,.slice true 0 []] ⟨H ++ [.cells [vB],.cells [iv 1],.cells [.slice true 0 []],.cells [iv 0],.cells [iv 0,iv 0],.cells [.sref (H.length + 4) 0 2 2 1],.cells [.sref (H.length + 13) 0 1 2 1,.fn F_fq18 [.ptr H.length 0 1]],m0,m1,x1,.cells [iv 0,iv 1],x2,.loop [r0,r1,.ptr H.length 0 1,.ptr (H.length + 1) 0 1,.ptr (H.length + 2) 0 1,.ptr (H.length + 3) 0 1,r6,.ptr (H.length + 5) 0 1,.ptr (H.length + 6) 0 2,r9,r10,r11,r12,r13,r14,r15,r16,r17,r18,r19,r20,r21,r22,r23,r24,r25,r26,r27,r28,r29,r30,r31,r32,r33,r34,r35,r36,r37,r38,r39,r40,r41,r42,r43,r44,r45,r46,r47,r48,r49,r50,r51,r52,r53,r54,r55,r56,r57,r58,r59,r60,r61,r62,r63,r64,r65,r66] [28,29] fq17.n4 fq17.n5 true none,.cells [iv 1,iv 1]],true⟩ K:=by
  have hk1:100≤k:=by omega
  have hk2:100≤k - 1:=by omega
  refine YC_go (by simp -implicitDefEqProofs only [sw0,sw1,sw2,sw3,sw4,sw5,reduceCtorEq,Nat.reduceEqDiff,Nat.reduceAdd,Nat.reduceDiv,Nat.reduceLeDiff,dw0,Int.reduceAdd,Int.reduceSub,Int.reduceMul,Int.reduceLT,Int.reduceLE,Int.reduceNeg,Int.reduceEq,Int.reduceToNat,Nat.reduceLT,Nat.reduceMul,Nat.reduceSub,Nat.reduceBEq,Nat.reduceLeDiff,xw0,eApp,rowOf,appRow,lkL,lkN,eMupd,vLook,mapSh,findE,putE,keqL,hasSh,fits,shb,Int.reduceBEq,eMksl,vSlc,boundsOf,boundOf,cleanL,Nat.reduceGT,Int.reduceGT,Int.reduceGE,Int.reduceDiv,Int.reduceTDiv,vAidx,rdc]; rfl) rfl ?_
  simp -implicitDefEqProofs only [sw0,sw1,sw2,sw3,sw4,sw5,reduceCtorEq,Nat.reduceEqDiff,Nat.reduceAdd,Nat.reduceDiv,Nat.reduceLeDiff,dw0,Int.reduceAdd,Int.reduceSub,Int.reduceMul,Int.reduceLT,Int.reduceLE,Int.reduceNeg,Int.reduceEq,Int.reduceToNat,Nat.reduceLT,Nat.reduceMul,Nat.reduceSub,Nat.reduceBEq,Nat.reduceLeDiff,xw0,eApp,rowOf,appRow,lkL,lkN,eMupd,vLook,mapSh,findE,putE,keqL,hasSh,fits,shb,Int.reduceBEq,eMksl,vSlc,boundsOf,boundOf,cleanL,Nat.reduceGT,Int.reduceGT,Int.reduceGE,Int.reduceDiv,Int.reduceTDiv,vAidx,rdc,fq17.n4_w,fq17.n5_w,YK,Plan_u6]
  refine ⟨⟨_,_,_,_,rfl⟩,?_⟩
  rw [wl_1 (by omega)]
  simp -implicitDefEqProofs only [fq17.n7_w,sw0,sw1,sw2,sw3,sw4,sw5,reduceCtorEq,Nat.reduceEqDiff,Nat.reduceAdd,Nat.reduceDiv,Nat.reduceLeDiff,dw0,Int.reduceAdd,Int.reduceSub,Int.reduceMul,Int.reduceLT,Int.reduceLE,Int.reduceNeg,Int.reduceEq,Int.reduceToNat,Nat.reduceLT,Nat.reduceMul,Nat.reduceSub,Nat.reduceBEq,Nat.reduceLeDiff,xw0,eApp,rowOf,appRow,lkL,lkN,eMupd,vLook,mapSh,findE,putE,keqL,hasSh,fits,shb,Int.reduceBEq,eMksl,vSlc,boundsOf,boundOf,cleanL,Nat.reduceGT,Int.reduceGT,Int.reduceGE,Int.reduceDiv,Int.reduceTDiv,vAidx,rdc,fq17.n10_w,Plan_u11]
  rw [wl_1 (by omega)]
  simp -implicitDefEqProofs only [fq17.n12_w,sw0,sw1,sw2,sw3,sw4,sw5,reduceCtorEq,Nat.reduceEqDiff,Nat.reduceAdd,Nat.reduceDiv,Nat.reduceLeDiff,dw0,Int.reduceAdd,Int.reduceSub,Int.reduceMul,Int.reduceLT,Int.reduceLE,Int.reduceNeg,Int.reduceEq,Int.reduceToNat,Nat.reduceLT,Nat.reduceMul,Nat.reduceSub,Nat.reduceBEq,Nat.reduceLeDiff,xw0,eApp,rowOf,appRow,lkL,lkN,eMupd,vLook,mapSh,findE,putE,keqL,hasSh,fits,shb,Int.reduceBEq,eMksl,vSlc,boundsOf,boundOf,cleanL,Nat.reduceGT,Int.reduceGT,Int.reduceGE,Int.reduceDiv,Int.reduceTDiv,vAidx,rdc,fq17.n14_w]
  have h:=fun (K:AV→St→Prop) X (hK)=>take1 (k:=k - 1) (b:=none) (K:=K) (ver:=2) (R:=[iv 1]) (n:=1) (f:=.fn F_fq18 [.ptr H.length 0 1]) hk2 rfl (H:=H ++ [.cells [vB],.cells [iv 1],.cells [.slice true 0 []],.cells [iv 0],.cells [iv 0,iv 0],.cells [.sref (H.length + 4) 0 2 2 1]]) (L:=[m0,m1,x1,.cells [iv 0,iv 1],x2,X]) hK
  rw [show k - 1 + 1=k by omega] at h
  simp -implicitDefEqProofs only [sw0,sw1,sw2,sw3,sw4,sw5,reduceCtorEq,Nat.reduceEqDiff,Nat.reduceAdd,Nat.reduceDiv,Nat.reduceLeDiff,dw0,Int.reduceAdd,Int.reduceSub,Int.reduceMul,Int.reduceLT,Int.reduceLE,Int.reduceNeg,Int.reduceEq,Int.reduceToNat,Nat.reduceLT,Nat.reduceMul,Nat.reduceSub,Nat.reduceBEq,Nat.reduceLeDiff,xw0,eApp,rowOf,appRow,lkL,lkN,eMupd,vLook,mapSh,findE,putE,keqL,hasSh,fits,shb,Int.reduceBEq,eMksl,vSlc,boundsOf,boundOf,cleanL,Nat.reduceGT,Int.reduceGT,Int.reduceGE,Int.reduceDiv,Int.reduceTDiv,vAidx,rdc,Nat.add_assoc] at h
  refine h _ _ ?_
  clear h
  simp -implicitDefEqProofs only [sw0,sw1,sw2,sw3,sw4,sw5,reduceCtorEq,Nat.reduceEqDiff,Nat.reduceAdd,Nat.reduceDiv,Nat.reduceLeDiff,dw0,Int.reduceAdd,Int.reduceSub,Int.reduceMul,Int.reduceLT,Int.reduceLE,Int.reduceNeg,Int.reduceEq,Int.reduceToNat,Nat.reduceLT,Nat.reduceMul,Nat.reduceSub,Nat.reduceBEq,Nat.reduceLeDiff,xw0,eApp,rowOf,appRow,lkL,lkN,eMupd,vLook,mapSh,findE,putE,keqL,hasSh,fits,shb,Int.reduceBEq,eMksl,vSlc,boundsOf,boundOf,cleanL,Nat.reduceGT,Int.reduceGT,Int.reduceGE,Int.reduceDiv,Int.reduceTDiv,vAidx,rdc,fq17.n15_w,YK]
  exact hK
theorem runB (hk:1000≤k) {r0 r1 r6 r9 r10 r11 r12 r13 r14 r15 r16 r17 r18 r19 r20 r21 r22 r23 r24 r25 r26 r27 r28 r29 r30 r31 r32 r33 r34 r35 r36 r37 r38 r39 r40 r41 r42 r43 r44 r45 r46 r47 r48 r49 r50 r51 r52 r53 r54 r55 r56 r57 r58 r59 r60 r61 r62 r63 r64 r65 r66:AV} {x1 x2:AObj} (hK:K (.tup []) ⟨H ++ [.cells [vB],.cells [iv 1],.cells [.slice true 0 []],.cells [iv 7],.cells [iv 0,iv 0],.cells [.sref (H.length + 4) 0 2 2 1],.cells [.slice false 1 [],.fn F_fq18 [.ptr H.length 0 1]],.map shI 2 [(iv 0,.sref (H.length + 10) 0 2 2 1)],.cells [.map (H.length + 7)],x1,.cells [iv 0,iv 1],x2,.loop [r0,r1,.ptr H.length 0 1,.ptr (H.length + 1) 0 1,.ptr (H.length + 2) 0 1,.ptr (H.length + 3) 0 1,r6,.ptr (H.length + 5) 0 1,.ptr (H.length + 6) 0 2,r9,r10,r11,r12,r13,r14,r15,r16,r17,r18,r19,r20,r21,r22,r23,r24,r25,r26,r27,r28,r29,r30,r31,r32,r33,r34,r35,r36,r37,r38,r39,r40,r41,r42,r43,r44,r45,r46,r47,r48,r49,r50,r51,r52,r53,r54,r55,r56,r57,r58,r59,r60,r61,r62,r63,r64,r65,r66] [28,29] fq17.n4 fq17.n5 false (some .ret),.cells [iv 1,iv 1]],true⟩):VC ⟨prog,k + 2,b⟩ F_fq42 [.yield (H.length + 12),.ptr (H.length + 8) 0 1] ⟨H ++ [.cells [vB],.cells [iv 1],.cells [.slice true 0 []],.cells [iv 0],.cells [iv 0,iv 0],.cells [.sref (H.length + 4) 0 2 2 1],.cells [.slice true 0 [],.fn F_fq18 [.ptr H.length 0 1]],.map shI 2 [(iv 0,.sref (H.length + 10) 0 2 2 1)],.cells [.map (H.length + 7)],x1,.cells [iv 0,iv 1],x2,.loop [r0,r1,.ptr H.length 0 1,.ptr (H.length + 1) 0 1,.ptr (H.length + 2) 0 1,.ptr (H.length + 3) 0 1,r6,.ptr (H.length + 5) 0 1,.ptr (H.length + 6) 0 2,r9,r10,r11,r12,r13,r14,r15,r16,r17,r18,r19,r20,r21,r22,r23,r24,r25,r26,r27,r28,r29,r30,r31,r32,r33,r34,r35,r36,r37,r38,r39,r40,r41,r42,r43,r44,r45,r46,r47,r48,r49,r50,r51,r52,r53,r54,r55,r56,r57,r58,r59,r60,r61,r62,r63,r64,r65,r66] [28,29] fq17.n4 fq17.n5 true none],lk⟩ K:=by
  refine slots_1_s (k:=k + 1) (J:=fun t s=>(t=0∧∃ lk,s=⟨H ++ [.cells [vB],.cells [iv 1],.cells [.slice true 0 []],.cells [iv 0],.cells [iv 0,iv 0],.cells [.sref (H.length + 4) 0 2 2 1],.cells [.slice true 0 [],.fn F_fq18 [.ptr H.length 0 1]],.map shI 2 [(iv 0,.sref (H.length + 10) 0 2 2 1)],.cells [.map (H.length + 7)],x1,.cells [iv 0,iv 1],x2,.loop [r0,r1,.ptr H.length 0 1,.ptr (H.length + 1) 0 1,.ptr (H.length + 2) 0 1,.ptr (H.length + 3) 0 1,r6,.ptr (H.length + 5) 0 1,.ptr (H.length + 6) 0 2,r9,r10,r11,r12,r13,r14,r15,r16,r17,r18,r19,r20,r21,r22,r23,r24,r25,r26,r27,r28,r29,r30,r31,r32,r33,r34,r35,r36,r37,r38,r39,r40,r41,r42,r43,r44,r45,r46,r47,r48,r49,r50,r51,r52,r53,r54,r55,r56,r57,r58,r59,r60,r61,r62,r63,r64,r65,r66] [28,29] fq17.n4 fq17.n5 true none],lk⟩)∨(t=1∧s=⟨H ++ [.cells [vB],.cells [iv 1],.cells [.slice true 0 []],.cells [iv 0],.cells [iv 0,iv 0],.cells [.sref (H.length + 4) 0 2 2 1],.cells [.sref (H.length + 13) 0 1 2 1,.fn F_fq18 [.ptr H.length 0 1]],.map shI 2 [(iv 0,.sref (H.length + 10) 0 2 2 1)],.cells [.map (H.length + 7)],x1,.cells [iv 0,iv 1],x2,.loop [r0,r1,.ptr H.length 0 1,.ptr (H.length + 1) 0 1,.ptr (H.length + 2) 0 1,.ptr (H.length + 3) 0 1,r6,.ptr (H.length + 5) 0 1,.ptr (H.length + 6) 0 2,r9,r10,r11,r12,r13,r14,r15,r16,r17,r18,r19,r20,r21,r22,r23,r24,r25,r26,r27,r28,r29,r30,r31,r32,r33,r34,r35,r36,r37,r38,r39,r40,r41,r42,r43,r44,r45,r46,r47,r48,r49,r50,r51,r52,r53,r54,r55,r56,r57,r58,r59,r60,r61,r62,r63,r64,r65,r66] [28,29] fq17.n4 fq17.n5 true none,.cells [iv 1,iv 1]],true⟩)) (R:=fun s=>s=⟨H ++ [.cells [vB],.cells [iv 1],.cells [.slice true 0 []],.cells [iv 7],.cells [iv 0,iv 0],.cells [.sref (H.length + 4) 0 2 2 1],.cells [.slice false 1 [],.fn F_fq18 [.ptr H.length 0 1]],.map shI 2 [(iv 0,.sref (H.length + 10) 0 2 2 1)],.cells [.map (H.length + 7)],x1,.cells [iv 0,iv 1],x2,.loop [r0,r1,.ptr H.length 0 1,.ptr (H.length + 1) 0 1,.ptr (H.length + 2) 0 1,.ptr (H.length + 3) 0 1,r6,.ptr (H.length + 5) 0 1,.ptr (H.length + 6) 0 2,r9,r10,r11,r12,r13,r14,r15,r16,r17,r18,r19,r20,r21,r22,r23,r24,r25,r26,r27,r28,r29,r30,r31,r32,r33,r34,r35,r36,r37,r38,r39,r40,r41,r42,r43,r44,r45,r46,r47,r48,r49,r50,r51,r52,r53,r54,r55,r56,r57,r58,r59,r60,r61,r62,r63,r64,r65,r66] [28,29] fq17.n4 fq17.n5 false (some .ret),.cells [iv 1,iv 1]],true⟩) (by omega) ?_ (.inl ⟨rfl,_,rfl⟩) (fun s h=>by rcases h with ⟨h,_⟩ | ⟨h,_⟩ <;> omega) (fun s h=>by subst h; exact ⟨rfl,hK⟩)
  rintro t s ht (⟨rfl,lk',rfl⟩ | ⟨rfl,rfl⟩)
  · refine ⟨.map (H.length + 7),.sref (H.length + 10) 0 2 2 1,by simp -implicitDefEqProofs only [sw0,sw1,sw2,sw3,sw4,sw5,reduceCtorEq,Nat.reduceEqDiff,Nat.reduceAdd,Nat.reduceDiv,Nat.reduceLeDiff,dw0,Int.reduceAdd,Int.reduceSub,Int.reduceMul,Int.reduceLT,Int.reduceLE,Int.reduceNeg,Int.reduceEq,Int.reduceToNat,Nat.reduceLT,Nat.reduceMul,Nat.reduceSub,Nat.reduceBEq,Nat.reduceLeDiff,xw0,eApp,rowOf,appRow,lkL,lkN,eMupd,vLook,mapSh,findE,putE,keqL,hasSh,fits,shb,Int.reduceBEq,eMksl,vSlc,boundsOf,boundOf,cleanL,Nat.reduceGT,Int.reduceGT,Int.reduceGE,Int.reduceDiv,Int.reduceTDiv,vAidx,rdc],by simp -implicitDefEqProofs only [sw0,sw1,sw2,sw3,sw4,sw5,reduceCtorEq,Nat.reduceEqDiff,Nat.reduceAdd,Nat.reduceDiv,Nat.reduceLeDiff,dw0,Int.reduceAdd,Int.reduceSub,Int.reduceMul,Int.reduceLT,Int.reduceLE,Int.reduceNeg,Int.reduceEq,Int.reduceToNat,Nat.reduceLT,Nat.reduceMul,Nat.reduceSub,Nat.reduceBEq,Nat.reduceLeDiff,xw0,eApp,rowOf,appRow,lkL,lkN,eMupd,vLook,mapSh,findE,putE,keqL,hasSh,fits,shb,Int.reduceBEq,eMksl,vSlc,boundsOf,boundOf,cleanL,Nat.reduceGT,Int.reduceGT,Int.reduceGE,Int.reduceDiv,Int.reduceTDiv,vAidx,rdc],fun b=>yB0 hk ?_⟩
    exact .inl ⟨rfl,.inr ⟨rfl,rfl⟩⟩
  · refine ⟨.map (H.length + 7),.slice true 0 [],by simp -implicitDefEqProofs only [sw0,sw1,sw2,sw3,sw4,sw5,reduceCtorEq,Nat.reduceEqDiff,Nat.reduceAdd,Nat.reduceDiv,Nat.reduceLeDiff,dw0,Int.reduceAdd,Int.reduceSub,Int.reduceMul,Int.reduceLT,Int.reduceLE,Int.reduceNeg,Int.reduceEq,Int.reduceToNat,Nat.reduceLT,Nat.reduceMul,Nat.reduceSub,Nat.reduceBEq,Nat.reduceLeDiff,xw0,eApp,rowOf,appRow,lkL,lkN,eMupd,vLook,mapSh,findE,putE,keqL,hasSh,fits,shb,Int.reduceBEq,eMksl,vSlc,boundsOf,boundOf,cleanL,Nat.reduceGT,Int.reduceGT,Int.reduceGE,Int.reduceDiv,Int.reduceTDiv,vAidx,rdc],by simp -implicitDefEqProofs only [sw0,sw1,sw2,sw3,sw4,sw5,reduceCtorEq,Nat.reduceEqDiff,Nat.reduceAdd,Nat.reduceDiv,Nat.reduceLeDiff,dw0,Int.reduceAdd,Int.reduceSub,Int.reduceMul,Int.reduceLT,Int.reduceLE,Int.reduceNeg,Int.reduceEq,Int.reduceToNat,Nat.reduceLT,Nat.reduceMul,Nat.reduceSub,Nat.reduceBEq,Nat.reduceLeDiff,xw0,eApp,rowOf,appRow,lkL,lkN,eMupd,vLook,mapSh,findE,putE,keqL,hasSh,fits,shb,Int.reduceBEq,eMksl,vSlc,boundsOf,boundOf,cleanL,Nat.reduceGT,Int.reduceGT,Int.reduceGE,Int.reduceDiv,Int.reduceTDiv,vAidx,rdc],fun b=>yB1 hk ?_⟩
    exact .inr ⟨rfl,rfl⟩
theorem PlanB (hk:3000≤k) (hK:∀ L,K (.tup [.slice true 0 [],iv 7]) ⟨H ++ L,true⟩):VC ⟨prog,k,b⟩ F_fq17 [vB,iv 1] ⟨H,lk⟩ K:=by
  obtain ⟨k,rfl⟩:∃ j,k=j + 1:=⟨k - 1,by omega⟩
  apply fq17.enter
  have hjb:(decide (jB.length≤200) && jB.all jobOk)=true:=by decide
  have h11:((1:Int)≤1∧(1:Int)≤8)=True:=by simp
  have hask:=fun (H':List AObj) (K:AV→St→Prop)=>asked_s (K:=K) (k:=k) (b:=some H.length) (lk:=false) (by omega) (H:=H') vB_sl (c:=1) (by decide)
  simp -implicitDefEqProofs only [hjb,if_true,h11] at hask
  have hmk:∀ (H':List AObj),eMksl ⟨H',false⟩ 1 8 [iv 0] (iv 2) (iv 2)=some (.sref H'.length 0 2 (2 * 1) 1,⟨H' ++ [.cells [iv 0,iv 0]],false⟩):=fun H'=>by simp [eMksl,push]
  simp -implicitDefEqProofs only [fq17.n0_w,sw0,sw1,sw2,sw3,sw4,sw5,reduceCtorEq,Nat.reduceEqDiff,Nat.reduceAdd,Nat.reduceDiv,Nat.reduceLeDiff,dw0,Int.reduceAdd,Int.reduceSub,Int.reduceMul,Int.reduceLT,Int.reduceLE,Int.reduceNeg,Int.reduceEq,Int.reduceToNat,Nat.reduceLT,Nat.reduceMul,Nat.reduceSub,Nat.reduceBEq,Nat.reduceLeDiff,hask,fq17.n2_w,hmk]
  refine slotsB (by omega) ?_
  simp -implicitDefEqProofs only [sw0,sw1,sw2,sw3,sw4,sw5,reduceCtorEq,Nat.reduceEqDiff,Nat.reduceAdd,Nat.reduceDiv,Nat.reduceLeDiff,dw0,Int.reduceAdd,Int.reduceSub,Int.reduceMul,Int.reduceLT,Int.reduceLE,Int.reduceNeg,Int.reduceEq,Int.reduceToNat,Nat.reduceLT,Nat.reduceMul,Nat.reduceSub,Nat.reduceBEq,Nat.reduceLeDiff,xw0,eApp,rowOf,appRow,lkL,lkN,eMupd,vLook,mapSh,findE,putE,keqL,hasSh,fits,shb,Int.reduceBEq,eMksl,vSlc,boundsOf,boundOf,cleanL,Nat.reduceGT,Int.reduceGT,Int.reduceGE,Int.reduceDiv,Int.reduceTDiv,vAidx,rdc]
  refine WC_rf (f:=F_fq42) (caps:=[.ptr (H.length + 8) 0 1]) rfl ?_
  obtain ⟨k',hk'⟩:∃ j,k=j + 2:=⟨k - 2,by omega⟩
  simp -implicitDefEqProofs only [sw0,sw1,sw2,sw3,sw4,sw5,reduceCtorEq,Nat.reduceEqDiff,Nat.reduceAdd,Nat.reduceDiv,Nat.reduceLeDiff,dw0,Int.reduceAdd,Int.reduceSub,Int.reduceMul,Int.reduceLT,Int.reduceLE,Int.reduceNeg,Int.reduceEq,Int.reduceToNat,Nat.reduceLT,Nat.reduceMul,Nat.reduceSub,Nat.reduceBEq,Nat.reduceLeDiff,xw0,eApp,rowOf,appRow,lkL,lkN,eMupd,vLook,mapSh,findE,putE,keqL,hasSh,fits,shb,Int.reduceBEq,eMksl,vSlc,boundsOf,boundOf,cleanL,Nat.reduceGT,Int.reduceGT,Int.reduceGE,Int.reduceDiv,Int.reduceTDiv,vAidx,rdc]
  have hrun:=fun (K:AV→St→Prop) (b:Option Nat)=>@runB k' b H false K (by omega)
  rw [← hk'] at hrun
  refine hrun _ _ ?_
  simp -implicitDefEqProofs only [RF,sw0,sw1,sw2,sw3,sw4,sw5,reduceCtorEq,Nat.reduceEqDiff,Nat.reduceAdd,Nat.reduceDiv,Nat.reduceLeDiff,dw0,Int.reduceAdd,Int.reduceSub,Int.reduceMul,Int.reduceLT,Int.reduceLE,Int.reduceNeg,Int.reduceEq,Int.reduceToNat,Nat.reduceLT,Nat.reduceMul,Nat.reduceSub,Nat.reduceBEq,Nat.reduceLeDiff,xw0,eApp,rowOf,appRow,lkL,lkN,eMupd,vLook,mapSh,findE,putE,keqL,hasSh,fits,shb,Int.reduceBEq,eMksl,vSlc,boundsOf,boundOf,cleanL,Nat.reduceGT,Int.reduceGT,Int.reduceGE,Int.reduceDiv,Int.reduceTDiv,vAidx,rdc,fq17.res]
  simp -implicitDefEqProofs only [RK_r,resultsOf,resultOf,sw0,sw1,sw2,sw3,sw4,sw5,reduceCtorEq,Nat.reduceEqDiff,Nat.reduceAdd,Nat.reduceDiv,Nat.reduceLeDiff,dw0,Int.reduceAdd,Int.reduceSub,Int.reduceMul,Int.reduceLT,Int.reduceLE,Int.reduceNeg,Int.reduceEq,Int.reduceToNat,Nat.reduceLT,Nat.reduceMul,Nat.reduceSub,Nat.reduceBEq,Nat.reduceLeDiff,xw0,eApp,rowOf,appRow,lkL,lkN,eMupd,vLook,mapSh,findE,putE,keqL,hasSh,fits,shb,Int.reduceBEq,eMksl,vSlc,boundsOf,boundOf,cleanL,Nat.reduceGT,Int.reduceGT,Int.reduceGE,Int.reduceDiv,Int.reduceTDiv,vAidx,rdc]
  exact hK _
end Go.Proofs.YtcebebhaahpoiaaDoor
end
section
namespace Go.Proofs.YtcebebhaahpoiaaDoor
open Go Go.Ai Go.W
attribute [local irreducible] VC YC WC
set_option linter.unusedSimpArgs false
set_option linter.unusedVariables false
set_option maxRecDepth 10000
variable {k:Nat} {b:Option Nat} {H:List AObj} {lk:Bool} {K:AV→St→Prop}
def jA:List (Int × Int × Int):=[(0,0,3),(1,0,2),(2,1,2)]
abbrev vA:AV:=.slice true 3 [[iv 0,iv 0,iv 3],[iv 1,iv 0,iv 2],[iv 2,iv 1,iv 2]]
theorem vA_sl:Sl H 3 jc vA jA:=Sl.lit (by omega) jc_len rfl
theorem yA0 (hk:1000≤k) {r0 r1 r6 r9 r10 r11 r12 r13 r14 r15 r16 r17 r18 r19 r20 r21 r22 r23 r24 r25 r26 r27 r28 r29 r30 r31 r32 r33 r34 r35 r36 r37 r38 r39 r40 r41 r42 r43 r44 r45 r46 r47 r48 r49 r50 r51 r52 r53 r54 r55 r56 r57 r58 r59 r60 r61 r62 r63 r64 r65 r66:AV} {x1 x2 x3:AObj} (hK:K (.bool true) ⟨H ++ [.cells [vA],.cells [iv 1],.cells [.slice true 0 []],.cells [iv 0],.cells [iv 0,iv 0,iv 0],.cells [.sref (H.length + 4) 0 3 3 1],.cells [.sref (H.length + 15) 0 1 2 1,.fn F_fq18 [.ptr H.length 0 1]],.map shI 3 [(iv 0,.sref (H.length + 10) 0 2 2 1),(iv 1,.sref (H.length + 13) 0 1 1 1)],.cells [.map (H.length + 7)],x1,.cells [iv 0,iv 1],x2,x3,.cells [iv 2],.loop [r0,r1,.ptr H.length 0 1,.ptr (H.length + 1) 0 1,.ptr (H.length + 2) 0 1,.ptr (H.length + 3) 0 1,r6,.ptr (H.length + 5) 0 1,.ptr (H.length + 6) 0 2,r9,r10,r11,r12,r13,r14,r15,r16,r17,r18,r19,r20,r21,r22,r23,r24,r25,r26,r27,r28,r29,r30,r31,r32,r33,r34,r35,r36,r37,r38,r39,r40,r41,r42,r43,r44,r45,r46,r47,r48,r49,r50,r51,r52,r53,r54,r55,r56,r57,r58,r59,r60,r61,r62,r63,r64,r65,r66] [28,29] fq17.n4 fq17.n5 true none,.cells [iv 0,iv 0]],true⟩):YC ⟨prog,k + 1,b⟩ (H.length + 14) [iv 0,.sref (H.length + 10) 0 2 2 1] ⟨H ++ [.cells [vA],.cells [iv 1],.cells [.slice true 0 []],.cells [iv 0],.cells [iv 0,iv 0,iv 0],.cells [.sref (H.length + 4) 0 3 3 1],.cells [.slice true 0 [],.fn F_fq18 [.ptr H.length 0 1]],.map shI 3 [(iv 0,.sref (H.length + 10) 0 2 2 1),(iv 1,.sref (H.length + 13) 0 1 1 1)],.cells [.map (H.length + 7)],x1,.cells [iv 0,iv 1],x2,x3,.cells [iv 2],.loop [r0,r1,.ptr H.length 0 1,.ptr (H.length + 1) 0 1,.ptr (H.length + 2) 0 1,.ptr (H.length + 3) 0 1,r6,.ptr (H.length + 5) 0 1,.ptr (H.length + 6) 0 2,r9,r10,r11,r12,r13,r14,r15,r16,r17,r18,r19,r20,r21,r22,r23,r24,r25,r26,r27,r28,r29,r30,r31,r32,r33,r34,r35,r36,r37,r38,r39,r40,r41,r42,r43,r44,r45,r46,r47,r48,r49,r50,r51,r52,r53,r54,r55,r56,r57,r58,r59,r60,r61,r62,r63,r64,r65,r66] [28,29] fq17.n4 fq17.n5 true none],lk⟩ K:=by
  have hk1:100≤k:=by omega
  have hk2:100≤k - 1:=by omega
  refine YC_go (by simp -implicitDefEqProofs only [sw0,sw1,sw2,sw3,sw4,sw5,reduceCtorEq,Nat.reduceEqDiff,Nat.reduceAdd,Nat.reduceDiv,Nat.reduceLeDiff,dw0,Int.reduceAdd,Int.reduceSub,Int.reduceMul,Int.reduceLT,Int.reduceLE,Int.reduceNeg,Int.reduceEq,Int.reduceToNat,Nat.reduceLT,Nat.reduceMul,Nat.reduceSub,Nat.reduceBEq,Nat.reduceLeDiff,xw0,eApp,rowOf,appRow,lkL,lkN,eMupd,vLook,mapSh,findE,putE,keqL,hasSh,fits,shb,Int.reduceBEq,eMksl,vSlc,boundsOf,boundOf,cleanL,Nat.reduceGT,Int.reduceGT,Int.reduceGE,Int.reduceDiv,Int.reduceTDiv,vAidx,rdc]; rfl) rfl ?_
  simp -implicitDefEqProofs only [sw0,sw1,sw2,sw3,sw4,sw5,reduceCtorEq,Nat.reduceEqDiff,Nat.reduceAdd,Nat.reduceDiv,Nat.reduceLeDiff,dw0,Int.reduceAdd,Int.reduceSub,Int.reduceMul,Int.reduceLT,Int.reduceLE,Int.reduceNeg,Int.reduceEq,Int.reduceToNat,Nat.reduceLT,Nat.reduceMul,Nat.reduceSub,Nat.reduceBEq,Nat.reduceLeDiff,xw0,eApp,rowOf,appRow,lkL,lkN,eMupd,vLook,mapSh,findE,putE,keqL,hasSh,fits,shb,Int.reduceBEq,eMksl,vSlc,boundsOf,boundOf,cleanL,Nat.reduceGT,Int.reduceGT,Int.reduceGE,Int.reduceDiv,Int.reduceTDiv,vAidx,rdc,fq17.n4_w,fq17.n5_w,YK,Plan_u6]
  refine ⟨⟨_,_,_,_,rfl⟩,?_⟩
  rw [wl_1 (by omega)]
  simp -implicitDefEqProofs only [fq17.n7_w,sw0,sw1,sw2,sw3,sw4,sw5,reduceCtorEq,Nat.reduceEqDiff,Nat.reduceAdd,Nat.reduceDiv,Nat.reduceLeDiff,dw0,Int.reduceAdd,Int.reduceSub,Int.reduceMul,Int.reduceLT,Int.reduceLE,Int.reduceNeg,Int.reduceEq,Int.reduceToNat,Nat.reduceLT,Nat.reduceMul,Nat.reduceSub,Nat.reduceBEq,Nat.reduceLeDiff,xw0,eApp,rowOf,appRow,lkL,lkN,eMupd,vLook,mapSh,findE,putE,keqL,hasSh,fits,shb,Int.reduceBEq,eMksl,vSlc,boundsOf,boundOf,cleanL,Nat.reduceGT,Int.reduceGT,Int.reduceGE,Int.reduceDiv,Int.reduceTDiv,vAidx,rdc,fq17.n9_w]
  have h:=fun (K:AV→St→Prop) X (hK)=>put0' (k:=k) (b:=none) (lk:=lk) (K:=K) (n:=0) (f:=.fn F_fq18 [.ptr H.length 0 1]) hk1 (H:=H ++ [.cells [vA],.cells [iv 1],.cells [.slice true 0 []],.cells [iv 0],.cells [iv 0,iv 0,iv 0],.cells [.sref (H.length + 4) 0 3 3 1]]) (L:=[.map shI 3 [(iv 0,.sref (H.length + 10) 0 2 2 1),(iv 1,.sref (H.length + 13) 0 1 1 1)],.cells [.map (H.length + 7)],x1,.cells [iv 0,iv 1],x2,x3,.cells [iv 2],X]) hK
  simp -implicitDefEqProofs only [sw0,sw1,sw2,sw3,sw4,sw5,reduceCtorEq,Nat.reduceEqDiff,Nat.reduceAdd,Nat.reduceDiv,Nat.reduceLeDiff,Nat.add_assoc] at h
  refine h _ _ ?_
  clear h
  rw [wl_1 (by omega)]
  simp -implicitDefEqProofs only [fq17.n7_w,sw0,sw1,sw2,sw3,sw4,sw5,reduceCtorEq,Nat.reduceEqDiff,Nat.reduceAdd,Nat.reduceDiv,Nat.reduceLeDiff,dw0,Int.reduceAdd,Int.reduceSub,Int.reduceMul,Int.reduceLT,Int.reduceLE,Int.reduceNeg,Int.reduceEq,Int.reduceToNat,Nat.reduceLT,Nat.reduceMul,Nat.reduceSub,Nat.reduceBEq,Nat.reduceLeDiff,xw0,eApp,rowOf,appRow,lkL,lkN,eMupd,vLook,mapSh,findE,putE,keqL,hasSh,fits,shb,Int.reduceBEq,eMksl,vSlc,boundsOf,boundOf,cleanL,Nat.reduceGT,Int.reduceGT,Int.reduceGE,Int.reduceDiv,Int.reduceTDiv,vAidx,rdc,fq17.n9_w]
  have h:=fun (K:AV→St→Prop) X (hK)=>put1'_1 (k:=k) (b:=none) (lk:=true) (K:=K) (n:=1) (m:=0) (z:=.undef) (qs:=jA) (cl:=H.length) (v:=vA) hk1 (H:=H ++ [.cells [vA],.cells [iv 1],.cells [.slice true 0 []],.cells [iv 0],.cells [iv 0,iv 0,iv 0],.cells [.sref (H.length + 4) 0 3 3 1]]) (L:=[.map shI 3 [(iv 0,.sref (H.length + 10) 0 2 2 1),(iv 1,.sref (H.length + 13) 0 1 1 1)],.cells [.map (H.length + 7)],x1,.cells [iv 0,iv 1],x2,x3,.cells [iv 2],X]) vA_sl (by simp -implicitDefEqProofs only [sw0,sw1,sw2,sw3,sw4,sw5,reduceCtorEq,Nat.reduceEqDiff,Nat.reduceAdd,Nat.reduceDiv,Nat.reduceLeDiff,dw0,Int.reduceAdd,Int.reduceSub,Int.reduceMul,Int.reduceLT,Int.reduceLE,Int.reduceNeg,Int.reduceEq,Int.reduceToNat,Nat.reduceLT,Nat.reduceMul,Nat.reduceSub,Nat.reduceBEq,Nat.reduceLeDiff,xw0,eApp,rowOf,appRow,lkL,lkN,eMupd,vLook,mapSh,findE,putE,keqL,hasSh,fits,shb,Int.reduceBEq,eMksl,vSlc,boundsOf,boundOf,cleanL,Nat.reduceGT,Int.reduceGT,Int.reduceGE,Int.reduceDiv,Int.reduceTDiv,vAidx,rdc]) (by decide) (by decide) hK
  simp -implicitDefEqProofs only [sw0,sw1,sw2,sw3,sw4,sw5,reduceCtorEq,Nat.reduceEqDiff,Nat.reduceAdd,Nat.reduceDiv,Nat.reduceLeDiff,dw0,Int.reduceAdd,Int.reduceSub,Int.reduceMul,Int.reduceLT,Int.reduceLE,Int.reduceNeg,Int.reduceEq,Int.reduceToNat,Nat.reduceLT,Nat.reduceMul,Nat.reduceSub,Nat.reduceBEq,Nat.reduceLeDiff,xw0,eApp,rowOf,appRow,lkL,lkN,eMupd,vLook,mapSh,findE,putE,keqL,hasSh,fits,shb,Int.reduceBEq,eMksl,vSlc,boundsOf,boundOf,cleanL,Nat.reduceGT,Int.reduceGT,Int.reduceGE,Int.reduceDiv,Int.reduceTDiv,vAidx,rdc,jA,Nat.add_assoc] at h
  refine h _ _ ?_
  clear h
  rw [wl_1 (by omega)]
  simp -implicitDefEqProofs only [fq17.n7_w,sw0,sw1,sw2,sw3,sw4,sw5,reduceCtorEq,Nat.reduceEqDiff,Nat.reduceAdd,Nat.reduceDiv,Nat.reduceLeDiff,dw0,Int.reduceAdd,Int.reduceSub,Int.reduceMul,Int.reduceLT,Int.reduceLE,Int.reduceNeg,Int.reduceEq,Int.reduceToNat,Nat.reduceLT,Nat.reduceMul,Nat.reduceSub,Nat.reduceBEq,Nat.reduceLeDiff,xw0,eApp,rowOf,appRow,lkL,lkN,eMupd,vLook,mapSh,findE,putE,keqL,hasSh,fits,shb,Int.reduceBEq,eMksl,vSlc,boundsOf,boundOf,cleanL,Nat.reduceGT,Int.reduceGT,Int.reduceGE,Int.reduceDiv,Int.reduceTDiv,vAidx,rdc,fq17.n10_w,Plan_u11]
  rw [wl_1 (by omega)]
  simp -implicitDefEqProofs only [fq17.n12_w,sw0,sw1,sw2,sw3,sw4,sw5,reduceCtorEq,Nat.reduceEqDiff,Nat.reduceAdd,Nat.reduceDiv,Nat.reduceLeDiff,dw0,Int.reduceAdd,Int.reduceSub,Int.reduceMul,Int.reduceLT,Int.reduceLE,Int.reduceNeg,Int.reduceEq,Int.reduceToNat,Nat.reduceLT,Nat.reduceMul,Nat.reduceSub,Nat.reduceBEq,Nat.reduceLeDiff,xw0,eApp,rowOf,appRow,lkL,lkN,eMupd,vLook,mapSh,findE,putE,keqL,hasSh,fits,shb,Int.reduceBEq,eMksl,vSlc,boundsOf,boundOf,cleanL,Nat.reduceGT,Int.reduceGT,Int.reduceGE,Int.reduceDiv,Int.reduceTDiv,vAidx,rdc,fq17.n14_w]
  have h:=fun (K:AV→St→Prop) X (hK)=>take2 (k:=k - 1) (b:=none) (K:=K) (n:=1) (m:=0) (f:=.fn F_fq18 [.ptr H.length 0 1]) hk2 (H:=H ++ [.cells [vA],.cells [iv 1],.cells [.slice true 0 []],.cells [iv 0],.cells [iv 0,iv 0,iv 0],.cells [.sref (H.length + 4) 0 3 3 1]]) (L:=[.map shI 3 [(iv 0,.sref (H.length + 10) 0 2 2 1),(iv 1,.sref (H.length + 13) 0 1 1 1)],.cells [.map (H.length + 7)],x1,.cells [iv 0,iv 1],x2,x3,.cells [iv 2],X]) hK
  rw [show k - 1 + 1=k by omega] at h
  simp -implicitDefEqProofs only [sw0,sw1,sw2,sw3,sw4,sw5,reduceCtorEq,Nat.reduceEqDiff,Nat.reduceAdd,Nat.reduceDiv,Nat.reduceLeDiff,dw0,Int.reduceAdd,Int.reduceSub,Int.reduceMul,Int.reduceLT,Int.reduceLE,Int.reduceNeg,Int.reduceEq,Int.reduceToNat,Nat.reduceLT,Nat.reduceMul,Nat.reduceSub,Nat.reduceBEq,Nat.reduceLeDiff,xw0,eApp,rowOf,appRow,lkL,lkN,eMupd,vLook,mapSh,findE,putE,keqL,hasSh,fits,shb,Int.reduceBEq,eMksl,vSlc,boundsOf,boundOf,cleanL,Nat.reduceGT,Int.reduceGT,Int.reduceGE,Int.reduceDiv,Int.reduceTDiv,vAidx,rdc,Nat.add_assoc] at h
  refine h _ _ ?_
  clear h
  simp -implicitDefEqProofs only [sw0,sw1,sw2,sw3,sw4,sw5,reduceCtorEq,Nat.reduceEqDiff,Nat.reduceAdd,Nat.reduceDiv,Nat.reduceLeDiff,dw0,Int.reduceAdd,Int.reduceSub,Int.reduceMul,Int.reduceLT,Int.reduceLE,Int.reduceNeg,Int.reduceEq,Int.reduceToNat,Nat.reduceLT,Nat.reduceMul,Nat.reduceSub,Nat.reduceBEq,Nat.reduceLeDiff,xw0,eApp,rowOf,appRow,lkL,lkN,eMupd,vLook,mapSh,findE,putE,keqL,hasSh,fits,shb,Int.reduceBEq,eMksl,vSlc,boundsOf,boundOf,cleanL,Nat.reduceGT,Int.reduceGT,Int.reduceGE,Int.reduceDiv,Int.reduceTDiv,vAidx,rdc,fq17.n16_w,fq17.n17_w]
  rw [wl_1 (by omega)]
  simp -implicitDefEqProofs only [fq17.n12_w,sw0,sw1,sw2,sw3,sw4,sw5,reduceCtorEq,Nat.reduceEqDiff,Nat.reduceAdd,Nat.reduceDiv,Nat.reduceLeDiff,dw0,Int.reduceAdd,Int.reduceSub,Int.reduceMul,Int.reduceLT,Int.reduceLE,Int.reduceNeg,Int.reduceEq,Int.reduceToNat,Nat.reduceLT,Nat.reduceMul,Nat.reduceSub,Nat.reduceBEq,Nat.reduceLeDiff,xw0,eApp,rowOf,appRow,lkL,lkN,eMupd,vLook,mapSh,findE,putE,keqL,hasSh,fits,shb,Int.reduceBEq,eMksl,vSlc,boundsOf,boundOf,cleanL,Nat.reduceGT,Int.reduceGT,Int.reduceGE,Int.reduceDiv,Int.reduceTDiv,vAidx,rdc,YK]
  exact hK
theorem yA1 (hk:1000≤k) {r0 r1 r6 r9 r10 r11 r12 r13 r14 r15 r16 r17 r18 r19 r20 r21 r22 r23 r24 r25 r26 r27 r28 r29 r30 r31 r32 r33 r34 r35 r36 r37 r38 r39 r40 r41 r42 r43 r44 r45 r46 r47 r48 r49 r50 r51 r52 r53 r54 r55 r56 r57 r58 r59 r60 r61 r62 r63 r64 r65 r66:AV} {x1 x2 x3:AObj} (hK:K (.bool true) ⟨H ++ [.cells [vA],.cells [iv 1],.cells [.slice true 0 []],.cells [iv 0],.cells [iv 0,iv 0,iv 1],.cells [.sref (H.length + 4) 0 3 3 1],.cells [.sref (H.length + 15) 0 1 2 1,.fn F_fq18 [.ptr H.length 0 1]],.map shI 3 [(iv 0,.sref (H.length + 10) 0 2 2 1),(iv 1,.sref (H.length + 13) 0 1 1 1)],.cells [.map (H.length + 7)],x1,.cells [iv 0,iv 1],x2,x3,.cells [iv 2],.loop [r0,r1,.ptr H.length 0 1,.ptr (H.length + 1) 0 1,.ptr (H.length + 2) 0 1,.ptr (H.length + 3) 0 1,r6,.ptr (H.length + 5) 0 1,.ptr (H.length + 6) 0 2,r9,r10,r11,r12,r13,r14,r15,r16,r17,r18,r19,r20,r21,r22,r23,r24,r25,r26,r27,r28,r29,r30,r31,r32,r33,r34,r35,r36,r37,r38,r39,r40,r41,r42,r43,r44,r45,r46,r47,r48,r49,r50,r51,r52,r53,r54,r55,r56,r57,r58,r59,r60,r61,r62,r63,r64,r65,r66] [28,29] fq17.n4 fq17.n5 true none,.cells [iv 0,iv 0]],true⟩):YC ⟨prog,k + 1,b⟩ (H.length + 14) [iv 1,.sref (H.length + 13) 0 1 1 1] ⟨H ++ [.cells [vA],.cells [iv 1],.cells [.slice true 0 []],.cells [iv 0],.cells [iv 0,iv 0,iv 0],.cells [.sref (H.length + 4) 0 3 3 1],.cells [.sref (H.length + 15) 0 1 2 1,.fn F_fq18 [.ptr H.length 0 1]],.map shI 3 [(iv 0,.sref (H.length + 10) 0 2 2 1),(iv 1,.sref (H.length + 13) 0 1 1 1)],.cells [.map (H.length + 7)],x1,.cells [iv 0,iv 1],x2,x3,.cells [iv 2],.loop [r0,r1,.ptr H.length 0 1,.ptr (H.length + 1) 0 1,.ptr (H.length + 2) 0 1,.ptr (H.length + 3) 0 1,r6,.ptr (H.length + 5) 0 1,.ptr (H.length + 6) 0 2,r9,r10,r11,r12,r13,r14,r15,r16,r17,r18,r19,r20,r21,r22,r23,r24,r25,r26,r27,r28,r29,r30,r31,r32,r33,r34,r35,r36,r37,r38,r39,r40,r41,r42,r43,r44,r45,r46,r47,r48,r49,r50,r51,r52,r53,r54,r55,r56,r57,r58,r59,r60,r61,r62,r63,r64,r65,r66] [28,29] fq17.n4 fq17.n5 true none,.cells [iv 0,iv 0]],true⟩ K:=by
  have hk1:100≤k:=by omega
  have hk2:100≤k - 1:=by omega
  refine YC_go (by simp -implicitDefEqProofs only [sw0,sw1,sw2,sw3,sw4,sw5,reduceCtorEq,Nat.reduceEqDiff,Nat.reduceAdd,Nat.reduceDiv,Nat.reduceLeDiff,dw0,Int.reduceAdd,Int.reduceSub,Int.reduceMul,Int.reduceLT,Int.reduceLE,Int.reduceNeg,Int.reduceEq,Int.reduceToNat,Nat.reduceLT,Nat.reduceMul,Nat.reduceSub,Nat.reduceBEq,Nat.reduceLeDiff,xw0,eApp,rowOf,appRow,lkL,lkN,eMupd,vLook,mapSh,findE,putE,keqL,hasSh,fits,shb,Int.reduceBEq,eMksl,vSlc,boundsOf,boundOf,cleanL,Nat.reduceGT,Int.reduceGT,Int.reduceGE,Int.reduceDiv,Int.reduceTDiv,vAidx,rdc]; rfl) rfl ?_
  simp -implicitDefEqProofs only [sw0,sw1,sw2,sw3,sw4,sw5,reduceCtorEq,Nat.reduceEqDiff,Nat.reduceAdd,Nat.reduceDiv,Nat.reduceLeDiff,dw0,Int.reduceAdd,Int.reduceSub,Int.reduceMul,Int.reduceLT,Int.reduceLE,Int.reduceNeg,Int.reduceEq,Int.reduceToNat,Nat.reduceLT,Nat.reduceMul,Nat.reduceSub,Nat.reduceBEq,Nat.reduceLeDiff,xw0,eApp,rowOf,appRow,lkL,lkN,eMupd,vLook,mapSh,findE,putE,keqL,hasSh,fits,shb,Int.reduceBEq,eMksl,vSlc,boundsOf,boundOf,cleanL,Nat.reduceGT,Int.reduceGT,Int.reduceGE,Int.reduceDiv,Int.reduceTDiv,vAidx,rdc,fq17.n4_w,fq17.n5_w,YK,Plan_u6]
  refine ⟨⟨_,_,_,_,rfl⟩,?_⟩
  rw [wl_1 (by omega)]
  simp -implicitDefEqProofs only [fq17.n7_w,sw0,sw1,sw2,sw3,sw4,sw5,reduceCtorEq,Nat.reduceEqDiff,Nat.reduceAdd,Nat.reduceDiv,Nat.reduceLeDiff,dw0,Int.reduceAdd,Int.reduceSub,Int.reduceMul,Int.reduceLT,Int.reduceLE,Int.reduceNeg,Int.reduceEq,Int.reduceToNat,Nat.reduceLT,Nat.reduceMul,Nat.reduceSub,Nat.reduceBEq,Nat.reduceLeDiff,xw0,eApp,rowOf,appRow,lkL,lkN,eMupd,vLook,mapSh,findE,putE,keqL,hasSh,fits,shb,Int.reduceBEq,eMksl,vSlc,boundsOf,boundOf,cleanL,Nat.reduceGT,Int.reduceGT,Int.reduceGE,Int.reduceDiv,Int.reduceTDiv,vAidx,rdc,fq17.n9_w]
  have h:=fun (K:AV→St→Prop) X (hK)=>put1'_2 (k:=k) (b:=none) (lk:=true) (K:=K) (n:=2) (m:=0) (z:=iv 0) (qs:=jA) (cl:=H.length) (v:=vA) hk1 (H:=H ++ [.cells [vA],.cells [iv 1],.cells [.slice true 0 []],.cells [iv 0],.cells [iv 0,iv 0,iv 0],.cells [.sref (H.length + 4) 0 3 3 1]]) (L:=[.map shI 3 [(iv 0,.sref (H.length + 10) 0 2 2 1),(iv 1,.sref (H.length + 13) 0 1 1 1)],.cells [.map (H.length + 7)],x1,.cells [iv 0,iv 1],x2,x3,.cells [iv 2],X]) vA_sl (by simp -implicitDefEqProofs only [sw0,sw1,sw2,sw3,sw4,sw5,reduceCtorEq,Nat.reduceEqDiff,Nat.reduceAdd,Nat.reduceDiv,Nat.reduceLeDiff,dw0,Int.reduceAdd,Int.reduceSub,Int.reduceMul,Int.reduceLT,Int.reduceLE,Int.reduceNeg,Int.reduceEq,Int.reduceToNat,Nat.reduceLT,Nat.reduceMul,Nat.reduceSub,Nat.reduceBEq,Nat.reduceLeDiff,xw0,eApp,rowOf,appRow,lkL,lkN,eMupd,vLook,mapSh,findE,putE,keqL,hasSh,fits,shb,Int.reduceBEq,eMksl,vSlc,boundsOf,boundOf,cleanL,Nat.reduceGT,Int.reduceGT,Int.reduceGE,Int.reduceDiv,Int.reduceTDiv,vAidx,rdc]) (by decide) (by decide) hK
  simp -implicitDefEqProofs only [sw0,sw1,sw2,sw3,sw4,sw5,reduceCtorEq,Nat.reduceEqDiff,Nat.reduceAdd,Nat.reduceDiv,Nat.reduceLeDiff,dw0,Int.reduceAdd,Int.reduceSub,Int.reduceMul,Int.reduceLT,Int.reduceLE,Int.reduceNeg,Int.reduceEq,Int.reduceToNat,Nat.reduceLT,Nat.reduceMul,Nat.reduceSub,Nat.reduceBEq,Nat.reduceLeDiff,xw0,eApp,rowOf,appRow,lkL,lkN,eMupd,vLook,mapSh,findE,putE,keqL,hasSh,fits,shb,Int.reduceBEq,eMksl,vSlc,boundsOf,boundOf,cleanL,Nat.reduceGT,Int.reduceGT,Int.reduceGE,Int.reduceDiv,Int.reduceTDiv,vAidx,rdc,jA,Nat.add_assoc] at h
  refine h _ _ ?_
  clear h
  rw [wl_1 (by omega)]
  simp -implicitDefEqProofs only [fq17.n7_w,sw0,sw1,sw2,sw3,sw4,sw5,reduceCtorEq,Nat.reduceEqDiff,Nat.reduceAdd,Nat.reduceDiv,Nat.reduceLeDiff,dw0,Int.reduceAdd,Int.reduceSub,Int.reduceMul,Int.reduceLT,Int.reduceLE,Int.reduceNeg,Int.reduceEq,Int.reduceToNat,Nat.reduceLT,Nat.reduceMul,Nat.reduceSub,Nat.reduceBEq,Nat.reduceLeDiff,xw0,eApp,rowOf,appRow,lkL,lkN,eMupd,vLook,mapSh,findE,putE,keqL,hasSh,fits,shb,Int.reduceBEq,eMksl,vSlc,boundsOf,boundOf,cleanL,Nat.reduceGT,Int.reduceGT,Int.reduceGE,Int.reduceDiv,Int.reduceTDiv,vAidx,rdc,fq17.n10_w,Plan_u11]
  rw [wl_1 (by omega)]
  simp -implicitDefEqProofs only [fq17.n12_w,sw0,sw1,sw2,sw3,sw4,sw5,reduceCtorEq,Nat.reduceEqDiff,Nat.reduceAdd,Nat.reduceDiv,Nat.reduceLeDiff,dw0,Int.reduceAdd,Int.reduceSub,Int.reduceMul,Int.reduceLT,Int.reduceLE,Int.reduceNeg,Int.reduceEq,Int.reduceToNat,Nat.reduceLT,Nat.reduceMul,Nat.reduceSub,Nat.reduceBEq,Nat.reduceLeDiff,xw0,eApp,rowOf,appRow,lkL,lkN,eMupd,vLook,mapSh,findE,putE,keqL,hasSh,fits,shb,Int.reduceBEq,eMksl,vSlc,boundsOf,boundOf,cleanL,Nat.reduceGT,Int.reduceGT,Int.reduceGE,Int.reduceDiv,Int.reduceTDiv,vAidx,rdc,fq17.n14_w]
  have h:=fun (K:AV→St→Prop) X (hK)=>take2 (k:=k - 1) (b:=none) (K:=K) (n:=2) (m:=0) (f:=.fn F_fq18 [.ptr H.length 0 1]) hk2 (H:=H ++ [.cells [vA],.cells [iv 1],.cells [.slice true 0 []],.cells [iv 0],.cells [iv 0,iv 0,iv 0],.cells [.sref (H.length + 4) 0 3 3 1]]) (L:=[.map shI 3 [(iv 0,.sref (H.length + 10) 0 2 2 1),(iv 1,.sref (H.length + 13) 0 1 1 1)],.cells [.map (H.length + 7)],x1,.cells [iv 0,iv 1],x2,x3,.cells [iv 2],X]) hK
  rw [show k - 1 + 1=k by omega] at h
  simp -implicitDefEqProofs only [sw0,sw1,sw2,sw3,sw4,sw5,reduceCtorEq,Nat.reduceEqDiff,Nat.reduceAdd,Nat.reduceDiv,Nat.reduceLeDiff,dw0,Int.reduceAdd,Int.reduceSub,Int.reduceMul,Int.reduceLT,Int.reduceLE,Int.reduceNeg,Int.reduceEq,Int.reduceToNat,Nat.reduceLT,Nat.reduceMul,Nat.reduceSub,Nat.reduceBEq,Nat.reduceLeDiff,xw0,eApp,rowOf,appRow,lkL,lkN,eMupd,vLook,mapSh,findE,putE,keqL,hasSh,fits,shb,Int.reduceBEq,eMksl,vSlc,boundsOf,boundOf,cleanL,Nat.reduceGT,Int.reduceGT,Int.reduceGE,Int.reduceDiv,Int.reduceTDiv,vAidx,rdc,Nat.add_assoc] at h
  refine h _ _ ?_
  clear h
  simp -implicitDefEqProofs only [sw0,sw1,sw2,sw3,sw4,sw5,reduceCtorEq,Nat.reduceEqDiff,Nat.reduceAdd,Nat.reduceDiv,Nat.reduceLeDiff,dw0,Int.reduceAdd,Int.reduceSub,Int.reduceMul,Int.reduceLT,Int.reduceLE,Int.reduceNeg,Int.reduceEq,Int.reduceToNat,Nat.reduceLT,Nat.reduceMul,Nat.reduceSub,Nat.reduceBEq,Nat.reduceLeDiff,xw0,eApp,rowOf,appRow,lkL,lkN,eMupd,vLook,mapSh,findE,putE,keqL,hasSh,fits,shb,Int.reduceBEq,eMksl,vSlc,boundsOf,boundOf,cleanL,Nat.reduceGT,Int.reduceGT,Int.reduceGE,Int.reduceDiv,Int.reduceTDiv,vAidx,rdc,fq17.n16_w,fq17.n17_w]
  rw [wl_1 (by omega)]
  simp -implicitDefEqProofs only [fq17.n12_w,sw0,sw1,sw2,sw3,sw4,sw5,reduceCtorEq,Nat.reduceEqDiff,Nat.reduceAdd,Nat.reduceDiv,Nat.reduceLeDiff,dw0,Int.reduceAdd,Int.reduceSub,Int.reduceMul,Int.reduceLT,Int.reduceLE,Int.reduceNeg,Int.reduceEq,Int.reduceToNat,Nat.reduceLT,Nat.reduceMul,Nat.reduceSub,Nat.reduceBEq,Nat.reduceLeDiff,xw0,eApp,rowOf,appRow,lkL,lkN,eMupd,vLook,mapSh,findE,putE,keqL,hasSh,fits,shb,Int.reduceBEq,eMksl,vSlc,boundsOf,boundOf,cleanL,Nat.reduceGT,Int.reduceGT,Int.reduceGE,Int.reduceDiv,Int.reduceTDiv,vAidx,rdc,YK]
  exact hK
theorem yA2 (hk:1000≤k) {r0 r1 r6 r9 r10 r11 r12 r13 r14 r15 r16 r17 r18 r19 r20 r21 r22 r23 r24 r25 r26 r27 r28 r29 r30 r31 r32 r33 r34 r35 r36 r37 r38 r39 r40 r41 r42 r43 r44 r45 r46 r47 r48 r49 r50 r51 r52 r53 r54 r55 r56 r57 r58 r59 r60 r61 r62 r63 r64 r65 r66:AV} {x1 x2 x3:AObj} (hK:K (.bool true) ⟨H ++ [.cells [vA],.cells [iv 1],.cells [.slice true 0 []],.cells [iv 0],.cells [iv 2,iv 0,iv 1],.cells [.sref (H.length + 4) 0 3 3 1],.cells [.slice false 1 [],.fn F_fq18 [.ptr H.length 0 1]],.map shI 3 [(iv 0,.sref (H.length + 10) 0 2 2 1),(iv 1,.sref (H.length + 13) 0 1 1 1)],.cells [.map (H.length + 7)],x1,.cells [iv 0,iv 1],x2,x3,.cells [iv 2],.loop [r0,r1,.ptr H.length 0 1,.ptr (H.length + 1) 0 1,.ptr (H.length + 2) 0 1,.ptr (H.length + 3) 0 1,r6,.ptr (H.length + 5) 0 1,.ptr (H.length + 6) 0 2,r9,r10,r11,r12,r13,r14,r15,r16,r17,r18,r19,r20,r21,r22,r23,r24,r25,r26,r27,r28,r29,r30,r31,r32,r33,r34,r35,r36,r37,r38,r39,r40,r41,r42,r43,r44,r45,r46,r47,r48,r49,r50,r51,r52,r53,r54,r55,r56,r57,r58,r59,r60,r61,r62,r63,r64,r65,r66] [28,29] fq17.n4 fq17.n5 true none,.cells [iv 0,iv 0]],true⟩):YC ⟨prog,k + 1,b⟩ (H.length + 14) [iv 2,.slice true 0 []] ⟨H ++ [.cells [vA],.cells [iv 1],.cells [.slice true 0 []],.cells [iv 0],.cells [iv 0,iv 0,iv 1],.cells [.sref (H.length + 4) 0 3 3 1],.cells [.sref (H.length + 15) 0 1 2 1,.fn F_fq18 [.ptr H.length 0 1]],.map shI 3 [(iv 0,.sref (H.length + 10) 0 2 2 1),(iv 1,.sref (H.length + 13) 0 1 1 1)],.cells [.map (H.length + 7)],x1,.cells [iv 0,iv 1],x2,x3,.cells [iv 2],.loop [r0,r1,.ptr H.length 0 1,.ptr (H.length + 1) 0 1,.ptr (H.length + 2) 0 1,.ptr (H.length + 3) 0 1,r6,.ptr (H.length + 5) 0 1,.ptr (H.length + 6) 0 2,r9,r10,r11,r12,r13,r14,r15,r16,r17,r18,r19,r20,r21,r22,r23,r24,r25,r26,r27,r28,r29,r30,r31,r32,r33,r34,r35,r36,r37,r38,r39,r40,r41,r42,r43,r44,r45,r46,r47,r48,r49,r50,r51,r52,r53,r54,r55,r56,r57,r58,r59,r60,r61,r62,r63,r64,r65,r66] [28,29] fq17.n4 fq17.n5 true none,.cells [iv 0,iv 0]],true⟩ K:=by
  have hk1:100≤k:=by omega
  have hk2:100≤k - 1:=by omega
  refine YC_go (by simp -implicitDefEqProofs only [sw0,sw1,sw2,sw3,sw4,sw5,reduceCtorEq,Nat.reduceEqDiff,Nat.reduceAdd,Nat.reduceDiv,Nat.reduceLeDiff,dw0,Int.reduceAdd,Int.reduceSub,Int.reduceMul,Int.reduceLT,Int.reduceLE,Int.reduceNeg,Int.reduceEq,Int.reduceToNat,Nat.reduceLT,Nat.reduceMul,Nat.reduceSub,Nat.reduceBEq,Nat.reduceLeDiff,xw0,eApp,rowOf,appRow,lkL,lkN,eMupd,vLook,mapSh,findE,putE,keqL,hasSh,fits,shb,Int.reduceBEq,eMksl,vSlc,boundsOf,boundOf,cleanL,Nat.reduceGT,Int.reduceGT,Int.reduceGE,Int.reduceDiv,Int.reduceTDiv,vAidx,rdc]; rfl) rfl ?_
  simp -implicitDefEqProofs only [sw0,sw1,sw2,sw3,sw4,sw5,reduceCtorEq,Nat.reduceEqDiff,Nat.reduceAdd,Nat.reduceDiv,Nat.reduceLeDiff,dw0,Int.reduceAdd,Int.reduceSub,Int.reduceMul,Int.reduceLT,Int.reduceLE,Int.reduceNeg,Int.reduceEq,Int.reduceToNat,Nat.reduceLT,Nat.reduceMul,Nat.reduceSub,Nat.reduceBEq,Nat.reduceLeDiff,xw0,eApp,rowOf,appRow,lkL,lkN,eMupd,vLook,mapSh,findE,putE,keqL,hasSh,fits,shb,Int.reduceBEq,eMksl,vSlc,boundsOf,boundOf,cleanL,Nat.reduceGT,Int.reduceGT,Int.reduceGE,Int.reduceDiv,Int.reduceTDiv,vAidx,rdc,fq17.n4_w,fq17.n5_w,YK,Plan_u6]
  refine ⟨⟨_,_,_,_,rfl⟩,?_⟩
  rw [wl_1 (by omega)]
  simp -implicitDefEqProofs only [fq17.n7_w,sw0,sw1,sw2,sw3,sw4,sw5,reduceCtorEq,Nat.reduceEqDiff,Nat.reduceAdd,Nat.reduceDiv,Nat.reduceLeDiff,dw0,Int.reduceAdd,Int.reduceSub,Int.reduceMul,Int.reduceLT,Int.reduceLE,Int.reduceNeg,Int.reduceEq,Int.reduceToNat,Nat.reduceLT,Nat.reduceMul,Nat.reduceSub,Nat.reduceBEq,Nat.reduceLeDiff,xw0,eApp,rowOf,appRow,lkL,lkN,eMupd,vLook,mapSh,findE,putE,keqL,hasSh,fits,shb,Int.reduceBEq,eMksl,vSlc,boundsOf,boundOf,cleanL,Nat.reduceGT,Int.reduceGT,Int.reduceGE,Int.reduceDiv,Int.reduceTDiv,vAidx,rdc,fq17.n10_w,Plan_u11]
  rw [wl_1 (by omega)]
  simp -implicitDefEqProofs only [fq17.n12_w,sw0,sw1,sw2,sw3,sw4,sw5,reduceCtorEq,Nat.reduceEqDiff,Nat.reduceAdd,Nat.reduceDiv,Nat.reduceLeDiff,dw0,Int.reduceAdd,Int.reduceSub,Int.reduceMul,Int.reduceLT,Int.reduceLE,Int.reduceNeg,Int.reduceEq,Int.reduceToNat,Nat.reduceLT,Nat.reduceMul,Nat.reduceSub,Nat.reduceBEq,Nat.reduceLeDiff,xw0,eApp,rowOf,appRow,lkL,lkN,eMupd,vLook,mapSh,findE,putE,keqL,hasSh,fits,shb,Int.reduceBEq,eMksl,vSlc,boundsOf,boundOf,cleanL,Nat.reduceGT,Int.reduceGT,Int.reduceGE,Int.reduceDiv,Int.reduceTDiv,vAidx,rdc,fq17.n14_w]
  have h:=fun (K:AV→St→Prop) X (hK)=>take1 (k:=k - 1) (b:=none) (K:=K) (ver:=2) (R:=[iv 0]) (n:=0) (f:=.fn F_fq18 [.ptr H.length 0 1]) hk2 rfl (H:=H ++ [.cells [vA],.cells [iv 1],.cells [.slice true 0 []],.cells [iv 0],.cells [iv 0,iv 0,iv 1],.cells [.sref (H.length + 4) 0 3 3 1]]) (L:=[.map shI 3 [(iv 0,.sref (H.length + 10) 0 2 2 1),(iv 1,.sref (H.length + 13) 0 1 1 1)],.cells [.map (H.length + 7)],x1,.cells [iv 0,iv 1],x2,x3,.cells [iv 2],X]) hK
  rw [show k - 1 + 1=k by omega] at h
  simp -implicitDefEqProofs only [sw0,sw1,sw2,sw3,sw4,sw5,reduceCtorEq,Nat.reduceEqDiff,Nat.reduceAdd,Nat.reduceDiv,Nat.reduceLeDiff,dw0,Int.reduceAdd,Int.reduceSub,Int.reduceMul,Int.reduceLT,Int.reduceLE,Int.reduceNeg,Int.reduceEq,Int.reduceToNat,Nat.reduceLT,Nat.reduceMul,Nat.reduceSub,Nat.reduceBEq,Nat.reduceLeDiff,xw0,eApp,rowOf,appRow,lkL,lkN,eMupd,vLook,mapSh,findE,putE,keqL,hasSh,fits,shb,Int.reduceBEq,eMksl,vSlc,boundsOf,boundOf,cleanL,Nat.reduceGT,Int.reduceGT,Int.reduceGE,Int.reduceDiv,Int.reduceTDiv,vAidx,rdc,Nat.add_assoc] at h
  refine h _ _ ?_
  clear h
  simp -implicitDefEqProofs only [sw0,sw1,sw2,sw3,sw4,sw5,reduceCtorEq,Nat.reduceEqDiff,Nat.reduceAdd,Nat.reduceDiv,Nat.reduceLeDiff,dw0,Int.reduceAdd,Int.reduceSub,Int.reduceMul,Int.reduceLT,Int.reduceLE,Int.reduceNeg,Int.reduceEq,Int.reduceToNat,Nat.reduceLT,Nat.reduceMul,Nat.reduceSub,Nat.reduceBEq,Nat.reduceLeDiff,xw0,eApp,rowOf,appRow,lkL,lkN,eMupd,vLook,mapSh,findE,putE,keqL,hasSh,fits,shb,Int.reduceBEq,eMksl,vSlc,boundsOf,boundOf,cleanL,Nat.reduceGT,Int.reduceGT,Int.reduceGE,Int.reduceDiv,Int.reduceTDiv,vAidx,rdc,fq17.n16_w,fq17.n17_w]
  rw [wl_1 (by omega)]
  simp -implicitDefEqProofs only [fq17.n12_w,sw0,sw1,sw2,sw3,sw4,sw5,reduceCtorEq,Nat.reduceEqDiff,Nat.reduceAdd,Nat.reduceDiv,Nat.reduceLeDiff,dw0,Int.reduceAdd,Int.reduceSub,Int.reduceMul,Int.reduceLT,Int.reduceLE,Int.reduceNeg,Int.reduceEq,Int.reduceToNat,Nat.reduceLT,Nat.reduceMul,Nat.reduceSub,Nat.reduceBEq,Nat.reduceLeDiff,xw0,eApp,rowOf,appRow,lkL,lkN,eMupd,vLook,mapSh,findE,putE,keqL,hasSh,fits,shb,Int.reduceBEq,eMksl,vSlc,boundsOf,boundOf,cleanL,Nat.reduceGT,Int.reduceGT,Int.reduceGE,Int.reduceDiv,Int.reduceTDiv,vAidx,rdc,YK]
  exact hK
theorem yA3 (hk:1000≤k) {r0 r1 r6 r9 r10 r11 r12 r13 r14 r15 r16 r17 r18 r19 r20 r21 r22 r23 r24 r25 r26 r27 r28 r29 r30 r31 r32 r33 r34 r35 r36 r37 r38 r39 r40 r41 r42 r43 r44 r45 r46 r47 r48 r49 r50 r51 r52 r53 r54 r55 r56 r57 r58 r59 r60 r61 r62 r63 r64 r65 r66:AV} {x1 x2 x3:AObj} {t:Nat} (hK:K (.bool true) ⟨H ++ [.cells [vA],.cells [iv 1],.cells [.slice true 0 []],.cells [iv 0],.cells [iv 2,iv 0,iv 1],.cells [.sref (H.length + 4) 0 3 3 1],.cells [.slice false 1 [],.fn F_fq18 [.ptr H.length 0 1]],.map shI 3 [(iv 0,.sref (H.length + 10) 0 2 2 1),(iv 1,.sref (H.length + 13) 0 1 1 1)],.cells [.map (H.length + 7)],x1,.cells [iv 0,iv 1],x2,x3,.cells [iv 2],.loop [r0,r1,.ptr H.length 0 1,.ptr (H.length + 1) 0 1,.ptr (H.length + 2) 0 1,.ptr (H.length + 3) 0 1,r6,.ptr (H.length + 5) 0 1,.ptr (H.length + 6) 0 2,r9,r10,r11,r12,r13,r14,r15,r16,r17,r18,r19,r20,r21,r22,r23,r24,r25,r26,r27,r28,r29,r30,r31,r32,r33,r34,r35,r36,r37,r38,r39,r40,r41,r42,r43,r44,r45,r46,r47,r48,r49,r50,r51,r52,r53,r54,r55,r56,r57,r58,r59,r60,r61,r62,r63,r64,r65,r66] [28,29] fq17.n4 fq17.n5 true none,.cells [iv 0,iv 0]],true⟩):YC ⟨prog,k + 1,b⟩ (H.length + 14) [iv t,.slice true 0 []] ⟨H ++ [.cells [vA],.cells [iv 1],.cells [.slice true 0 []],.cells [iv 0],.cells [iv 2,iv 0,iv 1],.cells [.sref (H.length + 4) 0 3 3 1],.cells [.slice false 1 [],.fn F_fq18 [.ptr H.length 0 1]],.map shI 3 [(iv 0,.sref (H.length + 10) 0 2 2 1),(iv 1,.sref (H.length + 13) 0 1 1 1)],.cells [.map (H.length + 7)],x1,.cells [iv 0,iv 1],x2,x3,.cells [iv 2],.loop [r0,r1,.ptr H.length 0 1,.ptr (H.length + 1) 0 1,.ptr (H.length + 2) 0 1,.ptr (H.length + 3) 0 1,r6,.ptr (H.length + 5) 0 1,.ptr (H.length + 6) 0 2,r9,r10,r11,r12,r13,r14,r15,r16,r17,r18,r19,r20,r21,r22,r23,r24,r25,r26,r27,r28,r29,r30,r31,r32,r33,r34,r35,r36,r37,r38,r39,r40,r41,r42,r43,r44,r45,r46,r47,r48,r49,r50,r51,r52,r53,r54,r55,r56,r57,r58,r59,r60,r61,r62,r63,r64,r65,r66] [28,29] fq17.n4 fq17.n5 true none,.cells [iv 0,iv 0]],true⟩ K:=by
  have hk1:100≤k:=by omega
  have hk2:100≤k - 1:=by omega
  refine YC_go (by simp -implicitDefEqProofs only [sw0,sw1,sw2,sw3,sw4,sw5,reduceCtorEq,Nat.reduceEqDiff,Nat.reduceAdd,Nat.reduceDiv,Nat.reduceLeDiff,dw0,Int.reduceAdd,Int.reduceSub,Int.reduceMul,Int.reduceLT,Int.reduceLE,Int.reduceNeg,Int.reduceEq,Int.reduceToNat,Nat.reduceLT,Nat.reduceMul,Nat.reduceSub,Nat.reduceBEq,Nat.reduceLeDiff,xw0,eApp,rowOf,appRow,lkL,lkN,eMupd,vLook,mapSh,findE,putE,keqL,hasSh,fits,shb,Int.reduceBEq,eMksl,vSlc,boundsOf,boundOf,cleanL,Nat.reduceGT,Int.reduceGT,Int.reduceGE,Int.reduceDiv,Int.reduceTDiv,vAidx,rdc]; rfl) rfl ?_
  simp -implicitDefEqProofs only [sw0,sw1,sw2,sw3,sw4,sw5,reduceCtorEq,Nat.reduceEqDiff,Nat.reduceAdd,Nat.reduceDiv,Nat.reduceLeDiff,dw0,Int.reduceAdd,Int.reduceSub,Int.reduceMul,Int.reduceLT,Int.reduceLE,Int.reduceNeg,Int.reduceEq,Int.reduceToNat,Nat.reduceLT,Nat.reduceMul,Nat.reduceSub,Nat.reduceBEq,Nat.reduceLeDiff,xw0,eApp,rowOf,appRow,lkL,lkN,eMupd,vLook,mapSh,findE,putE,keqL,hasSh,fits,shb,Int.reduceBEq,eMksl,vSlc,boundsOf,boundOf,cleanL,Nat.reduceGT,Int.reduceGT,Int.reduceGE,Int.reduceDiv,Int.reduceTDiv,vAidx,rdc,fq17.n4_w,fq17.n5_w,YK,Plan_u6]
  refine ⟨⟨_,_,_,_,rfl⟩,?_⟩
  rw [wl_1 (by omega)]
  simp -implicitDefEqProofs only [fq17.n7_w,sw0,sw1,sw2,sw3,sw4,sw5,reduceCtorEq,Nat.reduceEqDiff,Nat.reduceAdd,Nat.reduceDiv,Nat.reduceLeDiff,dw0,Int.reduceAdd,Int.reduceSub,Int.reduceMul,Int.reduceLT,Int.reduceLE,Int.reduceNeg,Int.reduceEq,Int.reduceToNat,Nat.reduceLT,Nat.reduceMul,Nat.reduceSub,Nat.reduceBEq,Nat.reduceLeDiff,xw0,eApp,rowOf,appRow,lkL,lkN,eMupd,vLook,mapSh,findE,putE,keqL,hasSh,fits,shb,Int.reduceBEq,eMksl,vSlc,boundsOf,boundOf,cleanL,Nat.reduceGT,Int.reduceGT,Int.reduceGE,Int.reduceDiv,Int.reduceTDiv,vAidx,rdc,fq17.n10_w,Plan_u11]
  rw [wl_1 (by omega)]
  simp -implicitDefEqProofs only [fq17.n12_w,sw0,sw1,sw2,sw3,sw4,sw5,reduceCtorEq,Nat.reduceEqDiff,Nat.reduceAdd,Nat.reduceDiv,Nat.reduceLeDiff,dw0,Int.reduceAdd,Int.reduceSub,Int.reduceMul,Int.reduceLT,Int.reduceLE,Int.reduceNeg,Int.reduceEq,Int.reduceToNat,Nat.reduceLT,Nat.reduceMul,Nat.reduceSub,Nat.reduceBEq,Nat.reduceLeDiff,xw0,eApp,rowOf,appRow,lkL,lkN,eMupd,vLook,mapSh,findE,putE,keqL,hasSh,fits,shb,Int.reduceBEq,eMksl,vSlc,boundsOf,boundOf,cleanL,Nat.reduceGT,Int.reduceGT,Int.reduceGE,Int.reduceDiv,Int.reduceTDiv,vAidx,rdc,YK]
  exact hK
theorem runA (hk:1000≤k) {r0 r1 r6 r9 r10 r11 r12 r13 r14 r15 r16 r17 r18 r19 r20 r21 r22 r23 r24 r25 r26 r27 r28 r29 r30 r31 r32 r33 r34 r35 r36 r37 r38 r39 r40 r41 r42 r43 r44 r45 r46 r47 r48 r49 r50 r51 r52 r53 r54 r55 r56 r57 r58 r59 r60 r61 r62 r63 r64 r65 r66:AV} {x1 x2 x3:AObj} (hK:K (.tup []) ⟨H ++ [.cells [vA],.cells [iv 1],.cells [.slice true 0 []],.cells [iv 0],.cells [iv 2,iv 0,iv 1],.cells [.sref (H.length + 4) 0 3 3 1],.cells [.slice false 1 [],.fn F_fq18 [.ptr H.length 0 1]],.map shI 3 [(iv 0,.sref (H.length + 10) 0 2 2 1),(iv 1,.sref (H.length + 13) 0 1 1 1)],.cells [.map (H.length + 7)],x1,.cells [iv 0,iv 1],x2,x3,.cells [iv 2],.loop [r0,r1,.ptr H.length 0 1,.ptr (H.length + 1) 0 1,.ptr (H.length + 2) 0 1,.ptr (H.length + 3) 0 1,r6,.ptr (H.length + 5) 0 1,.ptr (H.length + 6) 0 2,r9,r10,r11,r12,r13,r14,r15,r16,r17,r18,r19,r20,r21,r22,r23,r24,r25,r26,r27,r28,r29,r30,r31,r32,r33,r34,r35,r36,r37,r38,r39,r40,r41,r42,r43,r44,r45,r46,r47,r48,r49,r50,r51,r52,r53,r54,r55,r56,r57,r58,r59,r60,r61,r62,r63,r64,r65,r66] [28,29] fq17.n4 fq17.n5 true none,.cells [iv 0,iv 0]],true⟩):VC ⟨prog,k + 2,b⟩ F_fq42 [.yield (H.length + 14),.ptr (H.length + 8) 0 1] ⟨H ++ [.cells [vA],.cells [iv 1],.cells [.slice true 0 []],.cells [iv 0],.cells [iv 0,iv 0,iv 0],.cells [.sref (H.length + 4) 0 3 3 1],.cells [.slice true 0 [],.fn F_fq18 [.ptr H.length 0 1]],.map shI 3 [(iv 0,.sref (H.length + 10) 0 2 2 1),(iv 1,.sref (H.length + 13) 0 1 1 1)],.cells [.map (H.length + 7)],x1,.cells [iv 0,iv 1],x2,x3,.cells [iv 2],.loop [r0,r1,.ptr H.length 0 1,.ptr (H.length + 1) 0 1,.ptr (H.length + 2) 0 1,.ptr (H.length + 3) 0 1,r6,.ptr (H.length + 5) 0 1,.ptr (H.length + 6) 0 2,r9,r10,r11,r12,r13,r14,r15,r16,r17,r18,r19,r20,r21,r22,r23,r24,r25,r26,r27,r28,r29,r30,r31,r32,r33,r34,r35,r36,r37,r38,r39,r40,r41,r42,r43,r44,r45,r46,r47,r48,r49,r50,r51,r52,r53,r54,r55,r56,r57,r58,r59,r60,r61,r62,r63,r64,r65,r66] [28,29] fq17.n4 fq17.n5 true none],lk⟩ K:=by
  refine slots_1_s (k:=k + 1) (J:=fun t s=>(t=0∧∃ lk,s=⟨H ++ [.cells [vA],.cells [iv 1],.cells [.slice true 0 []],.cells [iv 0],.cells [iv 0,iv 0,iv 0],.cells [.sref (H.length + 4) 0 3 3 1],.cells [.slice true 0 [],.fn F_fq18 [.ptr H.length 0 1]],.map shI 3 [(iv 0,.sref (H.length + 10) 0 2 2 1),(iv 1,.sref (H.length + 13) 0 1 1 1)],.cells [.map (H.length + 7)],x1,.cells [iv 0,iv 1],x2,x3,.cells [iv 2],.loop [r0,r1,.ptr H.length 0 1,.ptr (H.length + 1) 0 1,.ptr (H.length + 2) 0 1,.ptr (H.length + 3) 0 1,r6,.ptr (H.length + 5) 0 1,.ptr (H.length + 6) 0 2,r9,r10,r11,r12,r13,r14,r15,r16,r17,r18,r19,r20,r21,r22,r23,r24,r25,r26,r27,r28,r29,r30,r31,r32,r33,r34,r35,r36,r37,r38,r39,r40,r41,r42,r43,r44,r45,r46,r47,r48,r49,r50,r51,r52,r53,r54,r55,r56,r57,r58,r59,r60,r61,r62,r63,r64,r65,r66] [28,29] fq17.n4 fq17.n5 true none],lk⟩)∨(t=1∧s=⟨H ++ [.cells [vA],.cells [iv 1],.cells [.slice true 0 []],.cells [iv 0],.cells [iv 0,iv 0,iv 0],.cells [.sref (H.length + 4) 0 3 3 1],.cells [.sref (H.length + 15) 0 1 2 1,.fn F_fq18 [.ptr H.length 0 1]],.map shI 3 [(iv 0,.sref (H.length + 10) 0 2 2 1),(iv 1,.sref (H.length + 13) 0 1 1 1)],.cells [.map (H.length + 7)],x1,.cells [iv 0,iv 1],x2,x3,.cells [iv 2],.loop [r0,r1,.ptr H.length 0 1,.ptr (H.length + 1) 0 1,.ptr (H.length + 2) 0 1,.ptr (H.length + 3) 0 1,r6,.ptr (H.length + 5) 0 1,.ptr (H.length + 6) 0 2,r9,r10,r11,r12,r13,r14,r15,r16,r17,r18,r19,r20,r21,r22,r23,r24,r25,r26,r27,r28,r29,r30,r31,r32,r33,r34,r35,r36,r37,r38,r39,r40,r41,r42,r43,r44,r45,r46,r47,r48,r49,r50,r51,r52,r53,r54,r55,r56,r57,r58,r59,r60,r61,r62,r63,r64,r65,r66] [28,29] fq17.n4 fq17.n5 true none,.cells [iv 0,iv 0]],true⟩)∨(t=2∧s=⟨H ++ [.cells [vA],.cells [iv 1],.cells [.slice true 0 []],.cells [iv 0],.cells [iv 0,iv 0,iv 1],.cells [.sref (H.length + 4) 0 3 3 1],.cells [.sref (H.length + 15) 0 1 2 1,.fn F_fq18 [.ptr H.length 0 1]],.map shI 3 [(iv 0,.sref (H.length + 10) 0 2 2 1),(iv 1,.sref (H.length + 13) 0 1 1 1)],.cells [.map (H.length + 7)],x1,.cells [iv 0,iv 1],x2,x3,.cells [iv 2],.loop [r0,r1,.ptr H.length 0 1,.ptr (H.length + 1) 0 1,.ptr (H.length + 2) 0 1,.ptr (H.length + 3) 0 1,r6,.ptr (H.length + 5) 0 1,.ptr (H.length + 6) 0 2,r9,r10,r11,r12,r13,r14,r15,r16,r17,r18,r19,r20,r21,r22,r23,r24,r25,r26,r27,r28,r29,r30,r31,r32,r33,r34,r35,r36,r37,r38,r39,r40,r41,r42,r43,r44,r45,r46,r47,r48,r49,r50,r51,r52,r53,r54,r55,r56,r57,r58,r59,r60,r61,r62,r63,r64,r65,r66] [28,29] fq17.n4 fq17.n5 true none,.cells [iv 0,iv 0]],true⟩)∨(3≤t∧s=⟨H ++ [.cells [vA],.cells [iv 1],.cells [.slice true 0 []],.cells [iv 0],.cells [iv 2,iv 0,iv 1],.cells [.sref (H.length + 4) 0 3 3 1],.cells [.slice false 1 [],.fn F_fq18 [.ptr H.length 0 1]],.map shI 3 [(iv 0,.sref (H.length + 10) 0 2 2 1),(iv 1,.sref (H.length + 13) 0 1 1 1)],.cells [.map (H.length + 7)],x1,.cells [iv 0,iv 1],x2,x3,.cells [iv 2],.loop [r0,r1,.ptr H.length 0 1,.ptr (H.length + 1) 0 1,.ptr (H.length + 2) 0 1,.ptr (H.length + 3) 0 1,r6,.ptr (H.length + 5) 0 1,.ptr (H.length + 6) 0 2,r9,r10,r11,r12,r13,r14,r15,r16,r17,r18,r19,r20,r21,r22,r23,r24,r25,r26,r27,r28,r29,r30,r31,r32,r33,r34,r35,r36,r37,r38,r39,r40,r41,r42,r43,r44,r45,r46,r47,r48,r49,r50,r51,r52,r53,r54,r55,r56,r57,r58,r59,r60,r61,r62,r63,r64,r65,r66] [28,29] fq17.n4 fq17.n5 true none,.cells [iv 0,iv 0]],true⟩)) (R:=fun s=>s=⟨H ++ [.cells [vA],.cells [iv 1],.cells [.slice true 0 []],.cells [iv 0],.cells [iv 2,iv 0,iv 1],.cells [.sref (H.length + 4) 0 3 3 1],.cells [.slice false 1 [],.fn F_fq18 [.ptr H.length 0 1]],.map shI 3 [(iv 0,.sref (H.length + 10) 0 2 2 1),(iv 1,.sref (H.length + 13) 0 1 1 1)],.cells [.map (H.length + 7)],x1,.cells [iv 0,iv 1],x2,x3,.cells [iv 2],.loop [r0,r1,.ptr H.length 0 1,.ptr (H.length + 1) 0 1,.ptr (H.length + 2) 0 1,.ptr (H.length + 3) 0 1,r6,.ptr (H.length + 5) 0 1,.ptr (H.length + 6) 0 2,r9,r10,r11,r12,r13,r14,r15,r16,r17,r18,r19,r20,r21,r22,r23,r24,r25,r26,r27,r28,r29,r30,r31,r32,r33,r34,r35,r36,r37,r38,r39,r40,r41,r42,r43,r44,r45,r46,r47,r48,r49,r50,r51,r52,r53,r54,r55,r56,r57,r58,r59,r60,r61,r62,r63,r64,r65,r66] [28,29] fq17.n4 fq17.n5 true none,.cells [iv 0,iv 0]],true⟩) (by omega) ?_ (.inl ⟨rfl,_,rfl⟩) (fun s h=>by rcases h with ⟨h,_⟩ | ⟨h,_⟩ | ⟨h,_⟩ | ⟨_,h⟩ <;> first | omega | exact h) (fun s h=>by subst h; exact ⟨rfl,hK⟩)
  rintro t s ht (⟨rfl,lk',rfl⟩ | ⟨rfl,rfl⟩ | ⟨rfl,rfl⟩ | ⟨h3,rfl⟩)
  · refine ⟨.map (H.length + 7),.sref (H.length + 10) 0 2 2 1,by simp -implicitDefEqProofs only [sw0,sw1,sw2,sw3,sw4,sw5,reduceCtorEq,Nat.reduceEqDiff,Nat.reduceAdd,Nat.reduceDiv,Nat.reduceLeDiff,dw0,Int.reduceAdd,Int.reduceSub,Int.reduceMul,Int.reduceLT,Int.reduceLE,Int.reduceNeg,Int.reduceEq,Int.reduceToNat,Nat.reduceLT,Nat.reduceMul,Nat.reduceSub,Nat.reduceBEq,Nat.reduceLeDiff,xw0,eApp,rowOf,appRow,lkL,lkN,eMupd,vLook,mapSh,findE,putE,keqL,hasSh,fits,shb,Int.reduceBEq,eMksl,vSlc,boundsOf,boundOf,cleanL,Nat.reduceGT,Int.reduceGT,Int.reduceGE,Int.reduceDiv,Int.reduceTDiv,vAidx,rdc],by simp -implicitDefEqProofs only [sw0,sw1,sw2,sw3,sw4,sw5,reduceCtorEq,Nat.reduceEqDiff,Nat.reduceAdd,Nat.reduceDiv,Nat.reduceLeDiff,dw0,Int.reduceAdd,Int.reduceSub,Int.reduceMul,Int.reduceLT,Int.reduceLE,Int.reduceNeg,Int.reduceEq,Int.reduceToNat,Nat.reduceLT,Nat.reduceMul,Nat.reduceSub,Nat.reduceBEq,Nat.reduceLeDiff,xw0,eApp,rowOf,appRow,lkL,lkN,eMupd,vLook,mapSh,findE,putE,keqL,hasSh,fits,shb,Int.reduceBEq,eMksl,vSlc,boundsOf,boundOf,cleanL,Nat.reduceGT,Int.reduceGT,Int.reduceGE,Int.reduceDiv,Int.reduceTDiv,vAidx,rdc],fun b=>yA0 hk ?_⟩
    exact .inl ⟨rfl,.inr (.inl ⟨rfl,rfl⟩)⟩
  · refine ⟨.map (H.length + 7),.sref (H.length + 13) 0 1 1 1,by simp -implicitDefEqProofs only [sw0,sw1,sw2,sw3,sw4,sw5,reduceCtorEq,Nat.reduceEqDiff,Nat.reduceAdd,Nat.reduceDiv,Nat.reduceLeDiff,dw0,Int.reduceAdd,Int.reduceSub,Int.reduceMul,Int.reduceLT,Int.reduceLE,Int.reduceNeg,Int.reduceEq,Int.reduceToNat,Nat.reduceLT,Nat.reduceMul,Nat.reduceSub,Nat.reduceBEq,Nat.reduceLeDiff,xw0,eApp,rowOf,appRow,lkL,lkN,eMupd,vLook,mapSh,findE,putE,keqL,hasSh,fits,shb,Int.reduceBEq,eMksl,vSlc,boundsOf,boundOf,cleanL,Nat.reduceGT,Int.reduceGT,Int.reduceGE,Int.reduceDiv,Int.reduceTDiv,vAidx,rdc],by simp -implicitDefEqProofs only [sw0,sw1,sw2,sw3,sw4,sw5,reduceCtorEq,Nat.reduceEqDiff,Nat.reduceAdd,Nat.reduceDiv,Nat.reduceLeDiff,dw0,Int.reduceAdd,Int.reduceSub,Int.reduceMul,Int.reduceLT,Int.reduceLE,Int.reduceNeg,Int.reduceEq,Int.reduceToNat,Nat.reduceLT,Nat.reduceMul,Nat.reduceSub,Nat.reduceBEq,Nat.reduceLeDiff,xw0,eApp,rowOf,appRow,lkL,lkN,eMupd,vLook,mapSh,findE,putE,keqL,hasSh,fits,shb,Int.reduceBEq,eMksl,vSlc,boundsOf,boundOf,cleanL,Nat.reduceGT,Int.reduceGT,Int.reduceGE,Int.reduceDiv,Int.reduceTDiv,vAidx,rdc],fun b=>yA1 hk ?_⟩
    exact .inl ⟨rfl,.inr (.inr (.inl ⟨rfl,rfl⟩))⟩
  · refine ⟨.map (H.length + 7),.slice true 0 [],by simp -implicitDefEqProofs only [sw0,sw1,sw2,sw3,sw4,sw5,reduceCtorEq,Nat.reduceEqDiff,Nat.reduceAdd,Nat.reduceDiv,Nat.reduceLeDiff,dw0,Int.reduceAdd,Int.reduceSub,Int.reduceMul,Int.reduceLT,Int.reduceLE,Int.reduceNeg,Int.reduceEq,Int.reduceToNat,Nat.reduceLT,Nat.reduceMul,Nat.reduceSub,Nat.reduceBEq,Nat.reduceLeDiff,xw0,eApp,rowOf,appRow,lkL,lkN,eMupd,vLook,mapSh,findE,putE,keqL,hasSh,fits,shb,Int.reduceBEq,eMksl,vSlc,boundsOf,boundOf,cleanL,Nat.reduceGT,Int.reduceGT,Int.reduceGE,Int.reduceDiv,Int.reduceTDiv,vAidx,rdc],by simp -implicitDefEqProofs only [sw0,sw1,sw2,sw3,sw4,sw5,reduceCtorEq,Nat.reduceEqDiff,Nat.reduceAdd,Nat.reduceDiv,Nat.reduceLeDiff,dw0,Int.reduceAdd,Int.reduceSub,Int.reduceMul,Int.reduceLT,Int.reduceLE,Int.reduceNeg,Int.reduceEq,Int.reduceToNat,Nat.reduceLT,Nat.reduceMul,Nat.reduceSub,Nat.reduceBEq,Nat.reduceLeDiff,xw0,eApp,rowOf,appRow,lkL,lkN,eMupd,vLook,mapSh,findE,putE,keqL,hasSh,fits,shb,Int.reduceBEq,eMksl,vSlc,boundsOf,boundOf,cleanL,Nat.reduceGT,Int.reduceGT,Int.reduceGE,Int.reduceDiv,Int.reduceTDiv,vAidx,rdc],fun b=>yA2 hk ?_⟩
    exact .inl ⟨rfl,.inr (.inr (.inr ⟨by omega,rfl⟩))⟩
  · have e0:((t:Int) == 0)=false:=by simp; omega
    have e1:((t:Int) == 1)=false:=by simp; omega
    refine ⟨.map (H.length + 7),.slice true 0 [],by simp -implicitDefEqProofs only [sw0,sw1,sw2,sw3,sw4,sw5,reduceCtorEq,Nat.reduceEqDiff,Nat.reduceAdd,Nat.reduceDiv,Nat.reduceLeDiff,dw0,Int.reduceAdd,Int.reduceSub,Int.reduceMul,Int.reduceLT,Int.reduceLE,Int.reduceNeg,Int.reduceEq,Int.reduceToNat,Nat.reduceLT,Nat.reduceMul,Nat.reduceSub,Nat.reduceBEq,Nat.reduceLeDiff,xw0,eApp,rowOf,appRow,lkL,lkN,eMupd,vLook,mapSh,findE,putE,keqL,hasSh,fits,shb,Int.reduceBEq,eMksl,vSlc,boundsOf,boundOf,cleanL,Nat.reduceGT,Int.reduceGT,Int.reduceGE,Int.reduceDiv,Int.reduceTDiv,vAidx,rdc],by simp -implicitDefEqProofs only [sw0,sw1,sw2,sw3,sw4,sw5,reduceCtorEq,Nat.reduceEqDiff,Nat.reduceAdd,Nat.reduceDiv,Nat.reduceLeDiff,dw0,Int.reduceAdd,Int.reduceSub,Int.reduceMul,Int.reduceLT,Int.reduceLE,Int.reduceNeg,Int.reduceEq,Int.reduceToNat,Nat.reduceLT,Nat.reduceMul,Nat.reduceSub,Nat.reduceBEq,Nat.reduceLeDiff,xw0,eApp,rowOf,appRow,lkL,lkN,eMupd,vLook,mapSh,findE,putE,keqL,hasSh,fits,shb,Int.reduceBEq,eMksl,vSlc,boundsOf,boundOf,cleanL,Nat.reduceGT,Int.reduceGT,Int.reduceGE,Int.reduceDiv,Int.reduceTDiv,vAidx,rdc,e0,e1],fun b=>yA3 hk ?_⟩
    exact .inl ⟨rfl,.inr (.inr (.inr ⟨by omega,rfl⟩))⟩
theorem slotsA (hk:200≤k) (hK:K (.fn F_fq42 [.ptr (H.length + 1) 0 1]) ⟨H ++ [.map shI 3 [(iv 0,.sref (H.length + 3) 0 2 2 1),(iv 1,.sref (H.length + 6) 0 1 1 1)],.cells [.map H.length],.cells [iv 0,iv 0,iv 3],.cells [iv 0,iv 1],.cells [iv 1,iv 0,iv 2],.cells [iv 2,iv 1,iv 2],.cells [iv 2]],false⟩):VC ⟨prog,k + 1,b⟩ F_fq41 [vA] ⟨H,false⟩ K:=by
  apply fq41.enter
  have hu:AV.under H.length (AV.fn F_fq42 [AV.ptr (H.length + 1) 0 1])=false:=by simp [AV.under,underL]
  simp -implicitDefEqProofs only [fq41.n0_w,sw0,sw1,sw2,sw3,sw4,sw5,reduceCtorEq,Nat.reduceEqDiff,Nat.reduceAdd,Nat.reduceDiv,Nat.reduceLeDiff,dw0,Int.reduceAdd,Int.reduceSub,Int.reduceMul,Int.reduceLT,Int.reduceLE,Int.reduceNeg,Int.reduceEq,Int.reduceToNat,Nat.reduceLT,Nat.reduceMul,Nat.reduceSub,Nat.reduceBEq,Nat.reduceLeDiff,xw0,eApp,rowOf,appRow,lkL,lkN,eMupd,vLook,mapSh,findE,putE,keqL,hasSh,fits,shb,Int.reduceBEq,eMksl,vSlc,boundsOf,boundOf,cleanL,Nat.reduceGT,Int.reduceGT,Int.reduceGE,Int.reduceDiv,Int.reduceTDiv,vAidx,rdc,slots_u1]
  rw [wl_1 (by omega)]
  simp -implicitDefEqProofs only [fq41.n2_w,sw0,sw1,sw2,sw3,sw4,sw5,reduceCtorEq,Nat.reduceEqDiff,Nat.reduceAdd,Nat.reduceDiv,Nat.reduceLeDiff,dw0,Int.reduceAdd,Int.reduceSub,Int.reduceMul,Int.reduceLT,Int.reduceLE,Int.reduceNeg,Int.reduceEq,Int.reduceToNat,Nat.reduceLT,Nat.reduceMul,Nat.reduceSub,Nat.reduceBEq,Nat.reduceLeDiff,xw0,eApp,rowOf,appRow,lkL,lkN,eMupd,vLook,mapSh,findE,putE,keqL,hasSh,fits,shb,Int.reduceBEq,eMksl,vSlc,boundsOf,boundOf,cleanL,Nat.reduceGT,Int.reduceGT,Int.reduceGE,Int.reduceDiv,Int.reduceTDiv,vAidx,rdc,fq41.n4_w]
  rw [wl_1 (by omega)]
  simp -implicitDefEqProofs only [fq41.n2_w,sw0,sw1,sw2,sw3,sw4,sw5,reduceCtorEq,Nat.reduceEqDiff,Nat.reduceAdd,Nat.reduceDiv,Nat.reduceLeDiff,dw0,Int.reduceAdd,Int.reduceSub,Int.reduceMul,Int.reduceLT,Int.reduceLE,Int.reduceNeg,Int.reduceEq,Int.reduceToNat,Nat.reduceLT,Nat.reduceMul,Nat.reduceSub,Nat.reduceBEq,Nat.reduceLeDiff,xw0,eApp,rowOf,appRow,lkL,lkN,eMupd,vLook,mapSh,findE,putE,keqL,hasSh,fits,shb,Int.reduceBEq,eMksl,vSlc,boundsOf,boundOf,cleanL,Nat.reduceGT,Int.reduceGT,Int.reduceGE,Int.reduceDiv,Int.reduceTDiv,vAidx,rdc,fq41.n4_w]
  rw [wl_1 (by omega)]
  simp -implicitDefEqProofs only [fq41.n2_w,sw0,sw1,sw2,sw3,sw4,sw5,reduceCtorEq,Nat.reduceEqDiff,Nat.reduceAdd,Nat.reduceDiv,Nat.reduceLeDiff,dw0,Int.reduceAdd,Int.reduceSub,Int.reduceMul,Int.reduceLT,Int.reduceLE,Int.reduceNeg,Int.reduceEq,Int.reduceToNat,Nat.reduceLT,Nat.reduceMul,Nat.reduceSub,Nat.reduceBEq,Nat.reduceLeDiff,xw0,eApp,rowOf,appRow,lkL,lkN,eMupd,vLook,mapSh,findE,putE,keqL,hasSh,fits,shb,Int.reduceBEq,eMksl,vSlc,boundsOf,boundOf,cleanL,Nat.reduceGT,Int.reduceGT,Int.reduceGE,Int.reduceDiv,Int.reduceTDiv,vAidx,rdc,fq41.n4_w]
  rw [wl_1 (by omega)]
  simp -implicitDefEqProofs only [fq41.n2_w,sw0,sw1,sw2,sw3,sw4,sw5,reduceCtorEq,Nat.reduceEqDiff,Nat.reduceAdd,Nat.reduceDiv,Nat.reduceLeDiff,dw0,Int.reduceAdd,Int.reduceSub,Int.reduceMul,Int.reduceLT,Int.reduceLE,Int.reduceNeg,Int.reduceEq,Int.reduceToNat,Nat.reduceLT,Nat.reduceMul,Nat.reduceSub,Nat.reduceBEq,Nat.reduceLeDiff,xw0,eApp,rowOf,appRow,lkL,lkN,eMupd,vLook,mapSh,findE,putE,keqL,hasSh,fits,shb,Int.reduceBEq,eMksl,vSlc,boundsOf,boundOf,cleanL,Nat.reduceGT,Int.reduceGT,Int.reduceGE,Int.reduceDiv,Int.reduceTDiv,vAidx,rdc,fq41.n5_w,fq41.ret,hu]
  exact hK
theorem PlanA (hk:3000≤k) (hK:∀ L n,SI (H ++ L) n [2,0,1]→K (.tup [n,iv 0]) ⟨H ++ L,true⟩):VC ⟨prog,k,b⟩ F_fq17 [vA,iv 1] ⟨H,lk⟩ K:=by
  obtain ⟨k,rfl⟩:∃ j,k=j + 1:=⟨k - 1,by omega⟩
  apply fq17.enter
  have hjb:(decide (jA.length≤200) && jA.all jobOk)=true:=by decide
  have h11:((1:Int)≤1∧(1:Int)≤8)=True:=by simp
  have hask:=fun (H':List AObj) (K:AV→St→Prop)=>asked_s (K:=K) (k:=k) (b:=some H.length) (lk:=false) (by omega) (H:=H') vA_sl (c:=1) (by decide)
  simp -implicitDefEqProofs only [hjb,if_true,h11] at hask
  have hmk:∀ (H':List AObj),eMksl ⟨H',false⟩ 1 8 [iv 0] (iv 3) (iv 3)=some (.sref H'.length 0 3 (3 * 1) 1,⟨H' ++ [.cells [iv 0,iv 0,iv 0]],false⟩):=fun H'=>by simp [eMksl,push]
  simp -implicitDefEqProofs only [fq17.n0_w,sw0,sw1,sw2,sw3,sw4,sw5,reduceCtorEq,Nat.reduceEqDiff,Nat.reduceAdd,Nat.reduceDiv,Nat.reduceLeDiff,dw0,Int.reduceAdd,Int.reduceSub,Int.reduceMul,Int.reduceLT,Int.reduceLE,Int.reduceNeg,Int.reduceEq,Int.reduceToNat,Nat.reduceLT,Nat.reduceMul,Nat.reduceSub,Nat.reduceBEq,Nat.reduceLeDiff,hask,fq17.n2_w,hmk]
  obtain ⟨k1,hk1⟩:∃ j,k=j + 1:=⟨k - 1,by omega⟩
  have hsl:=fun (H':List AObj) (K:AV→St→Prop) (b:Option Nat) (hK)=>@slotsA k1 b H' K (by omega) hK
  rw [← hk1] at hsl
  refine hsl _ _ _ ?_
  simp -implicitDefEqProofs only [sw0,sw1,sw2,sw3,sw4,sw5,reduceCtorEq,Nat.reduceEqDiff,Nat.reduceAdd,Nat.reduceDiv,Nat.reduceLeDiff,dw0,Int.reduceAdd,Int.reduceSub,Int.reduceMul,Int.reduceLT,Int.reduceLE,Int.reduceNeg,Int.reduceEq,Int.reduceToNat,Nat.reduceLT,Nat.reduceMul,Nat.reduceSub,Nat.reduceBEq,Nat.reduceLeDiff,xw0,eApp,rowOf,appRow,lkL,lkN,eMupd,vLook,mapSh,findE,putE,keqL,hasSh,fits,shb,Int.reduceBEq,eMksl,vSlc,boundsOf,boundOf,cleanL,Nat.reduceGT,Int.reduceGT,Int.reduceGE,Int.reduceDiv,Int.reduceTDiv,vAidx,rdc]
  refine WC_rf (f:=F_fq42) (caps:=[.ptr (H.length + 8) 0 1]) rfl ?_
  obtain ⟨k',hk'⟩:∃ j,k=j + 2:=⟨k - 2,by omega⟩
  simp -implicitDefEqProofs only [sw0,sw1,sw2,sw3,sw4,sw5,reduceCtorEq,Nat.reduceEqDiff,Nat.reduceAdd,Nat.reduceDiv,Nat.reduceLeDiff,dw0,Int.reduceAdd,Int.reduceSub,Int.reduceMul,Int.reduceLT,Int.reduceLE,Int.reduceNeg,Int.reduceEq,Int.reduceToNat,Nat.reduceLT,Nat.reduceMul,Nat.reduceSub,Nat.reduceBEq,Nat.reduceLeDiff,xw0,eApp,rowOf,appRow,lkL,lkN,eMupd,vLook,mapSh,findE,putE,keqL,hasSh,fits,shb,Int.reduceBEq,eMksl,vSlc,boundsOf,boundOf,cleanL,Nat.reduceGT,Int.reduceGT,Int.reduceGE,Int.reduceDiv,Int.reduceTDiv,vAidx,rdc]
  have hrun:=fun (K:AV→St→Prop) (b:Option Nat)=>@runA k' b H false K (by omega)
  rw [← hk'] at hrun
  refine hrun _ _ ?_
  simp -implicitDefEqProofs only [RF,sw0,sw1,sw2,sw3,sw4,sw5,reduceCtorEq,Nat.reduceEqDiff,Nat.reduceAdd,Nat.reduceDiv,Nat.reduceLeDiff,dw0,Int.reduceAdd,Int.reduceSub,Int.reduceMul,Int.reduceLT,Int.reduceLE,Int.reduceNeg,Int.reduceEq,Int.reduceToNat,Nat.reduceLT,Nat.reduceMul,Nat.reduceSub,Nat.reduceBEq,Nat.reduceLeDiff,xw0,eApp,rowOf,appRow,lkL,lkN,eMupd,vLook,mapSh,findE,putE,keqL,hasSh,fits,shb,Int.reduceBEq,eMksl,vSlc,boundsOf,boundOf,cleanL,Nat.reduceGT,Int.reduceGT,Int.reduceGE,Int.reduceDiv,Int.reduceTDiv,vAidx,rdc,fq17.n18_w,fq17.n20_w]
  simp -implicitDefEqProofs only [RK_r,fq17.res,resultsOf,resultOf,sw0,sw1,sw2,sw3,sw4,sw5,reduceCtorEq,Nat.reduceEqDiff,Nat.reduceAdd,Nat.reduceDiv,Nat.reduceLeDiff,dw0,Int.reduceAdd,Int.reduceSub,Int.reduceMul,Int.reduceLT,Int.reduceLE,Int.reduceNeg,Int.reduceEq,Int.reduceToNat,Nat.reduceLT,Nat.reduceMul,Nat.reduceSub,Nat.reduceBEq,Nat.reduceLeDiff,xw0,eApp,rowOf,appRow,lkL,lkN,eMupd,vLook,mapSh,findE,putE,keqL,hasSh,fits,shb,Int.reduceBEq,eMksl,vSlc,boundsOf,boundOf,cleanL,Nat.reduceGT,Int.reduceGT,Int.reduceGE,Int.reduceDiv,Int.reduceTDiv,vAidx,rdc]
  refine hK _ _ ⟨Nat.one_pos,ic_len,.inr ⟨H.length + 4,0,3,[iv 2,iv 0,iv 1],rfl,by simp -implicitDefEqProofs only [sw0,sw1,sw2,sw3,sw4,sw5,reduceCtorEq,Nat.reduceEqDiff,Nat.reduceAdd,Nat.reduceDiv,Nat.reduceLeDiff,dw0,Int.reduceAdd,Int.reduceSub,Int.reduceMul,Int.reduceLT,Int.reduceLE,Int.reduceNeg,Int.reduceEq,Int.reduceToNat,Nat.reduceLT,Nat.reduceMul,Nat.reduceSub,Nat.reduceBEq,Nat.reduceLeDiff,xw0,eApp,rowOf,appRow,lkL,lkN,eMupd,vLook,mapSh,findE,putE,keqL,hasSh,fits,shb,Int.reduceBEq,eMksl,vSlc,boundsOf,boundOf,cleanL,Nat.reduceGT,Int.reduceGT,Int.reduceGE,Int.reduceDiv,Int.reduceTDiv,vAidx,rdc],rfl⟩⟩
end Go.Proofs.YtcebebhaahpoiaaDoor
end
section
namespace Go.Proofs.YtcebebhaahpoiaaDoor
open Go Go.Ai Go.W
attribute [local irreducible] VC YC WC
set_option linter.unusedSimpArgs false
set_option linter.unusedVariables false
set_option maxRecDepth 10000
variable {k:Nat} {b:Option Nat} {H:List AObj} {lk:Bool} {K:AV→St→Prop}
theorem eqs_kc {p q:Int × Int}:vEqs true (.sh (.mk true [.int .i64,.int .i64])) (.agg (kc p)) (.agg (kc q))=some (.bool (!decide (p=q))):=by
  show vEqs true (.sh (.mk true [.int .i64,.int .i64])) (ev2 p) (ev2 q)=_
  simp -implicitDefEqProofs only [vEqs,evEq,key_iv2.sh,key_iv2.keq,Bool.and_self,if_true,Option.bind_some]
theorem SamePairs_s (hk:1005≤k) {v w:AV} {xs ys:List (Int × Int)} (hs:Sl H 2 kc v xs) (ht:Sl H 2 kc w ys) (hl:xs.length≤1000):VC ⟨prog,k,b⟩ F_fq50 [v,w] ⟨H,lk⟩ K=K (.bool (decide (xs=ys))) ⟨H,lk⟩:=by
  obtain ⟨k,rfl⟩:∃ j,k=j + 1:=⟨k - 1,by omega⟩
  apply VC_iff
  apply fq50.enter
  simp -implicitDefEqProofs only [fq50.n0_w,sw0,sw1,sw2,sw3,sw4,sw5,reduceCtorEq,Nat.reduceEqDiff,Nat.reduceAdd,Nat.reduceDiv,Nat.reduceLeDiff,hs.len,ht.len]
  split
  · rename_i hne
    have:xs ≠ ys:=fun e=>hne (by rw [e])
    simp -implicitDefEqProofs only [fq50.n1_w,sw0,sw1,sw2,sw3,sw4,sw5,reduceCtorEq,Nat.reduceEqDiff,Nat.reduceAdd,Nat.reduceDiv,Nat.reduceLeDiff,fq50.ret,decide_eq_false this]
  · rename_i heq
    have hlen:xs.length=ys.length:=by omega
    simp -implicitDefEqProofs only [fq50.n2_w,sw0,sw1,sw2,sw3,sw4,sw5,reduceCtorEq,Nat.reduceEqDiff,Nat.reduceAdd,Nat.reduceDiv,Nat.reduceLeDiff]
    refine fq50.n3_l (fun m r3 s=>∃ i:Nat,r3=iv i∧s=⟨H,false⟩∧m=xs.length - i∧i≤xs.length∧∀ j (h:j < xs.length) (h':j < ys.length),j < i→xs[j]=ys[j]) xs.length (by simp -implicitDefEqProofs only []; omega) ⟨0,rfl,rfl,by omega,by omega,fun j _ _ h=>by omega⟩ ?_
    rintro m r2 r3 r4 r5 s ⟨i,rfl,rfl,rfl,hi,hno⟩
    simp -implicitDefEqProofs only [fq50.n4_w,sw0,sw1,sw2,sw3,sw4,sw5,reduceCtorEq,Nat.reduceEqDiff,Nat.reduceAdd,Nat.reduceDiv,Nat.reduceLeDiff,hs.len]
    split
    · rename_i hlt
      have hlt:i < xs.length:=by omega
      have hlt':i < ys.length:=by omega
      simp -implicitDefEqProofs only [fq50.n6_w,sw0,sw1,sw2,sw3,sw4,sw5,reduceCtorEq,Nat.reduceEqDiff,Nat.reduceAdd,Nat.reduceDiv,Nat.reduceLeDiff,hs.at,ht.at,hlt,hlt',hs.lda hlt,ht.lda hlt',eqs_kc]
      split
      · rename_i hne
        have:xs ≠ ys:=fun e=>hne (by subst e; rfl)
        simp -implicitDefEqProofs only [fq50.n7_w,sw0,sw1,sw2,sw3,sw4,sw5,reduceCtorEq,Nat.reduceEqDiff,Nat.reduceAdd,Nat.reduceDiv,Nat.reduceLeDiff,fq50.ret,decide_eq_false this]
      · rename_i he
        simp -implicitDefEqProofs only [fq50.n8_w,sw0,sw1,sw2,sw3,sw4,sw5,reduceCtorEq,Nat.reduceEqDiff,Nat.reduceAdd,Nat.reduceDiv,Nat.reduceLeDiff]
        refine fq50.n3_go (m':=xs.length - (i + 1)) (by omega) ⟨i + 1,by rw [wrap64 (by omega)]; rfl,rfl,rfl,by omega,?_⟩
        intro j h h' hj
        by_cases hji:j=i
        · subst hji; simpa using he
        · exact hno j h h' (by omega)
    · rename_i hge
      have:xs=ys:=List.ext_getElem hlen fun j h h'=>hno j h h' (by omega)
      simp -implicitDefEqProofs only [fq50.n9_w,sw0,sw1,sw2,sw3,sw4,sw5,reduceCtorEq,Nat.reduceEqDiff,Nat.reduceAdd,Nat.reduceDiv,Nat.reduceLeDiff,fq50.ret,decide_eq_true this]
def plA:Plt:={ heat:=5,low:=0,high:=10,loads:=[4,4,4],prices:=[1,3,1],machs:=[⟨6,2,1⟩] }
abbrev csA:List AV:=[iv 5,iv 0,iv 10,.slice true 1 [[iv 4],[iv 4],[iv 4]],.slice true 1 [[iv 1],[iv 3],[iv 1]],.slice true 3 [[iv 6,iv 2,iv 1]]]
theorem plA_pv:PV H csA plA:=⟨_,_,_,rfl,Sl.lit Nat.one_pos ic_len rfl,Sl.lit Nat.one_pos ic_len rfl,Sl.lit (by omega) (fun _=>rfl) rfl⟩
theorem plA_cool:plA.cool=[.slice false 1 [[iv 1],[iv 0],[iv 1]],iv 6,iv 0]:=by rfl
theorem plA_sched:plA.sched [1,0,1]=true:=by rfl
def msA:List (Int × Int):=[(0,0),(10,0),(11,0),(1,0)]
theorem msA_ans:matchAns msA=[.slice false 2 [[iv 0,iv 3],[iv 1,iv 2]],iv 2,iv 0]:=by rfl
theorem nxA:nextAns 2 [(.slice true 1 [[iv 0],[iv 1]],[0,1])]=[.slice false 1 [[iv 1],[iv 0]],iv 0]:=by rfl
theorem awake_s (hk:16 ^ 53≤k) (hK:∀ s,K (.bool true) s):VC ⟨prog,k,b⟩ F_fq2 [] ⟨H,lk⟩ K:=by
  have e53:(16:Nat) ^ 53=6582018229284824168619876730229402019930943462534319453394436096:=by decide
  have e52:(16:Nat) ^ 52=411376139330301510538742295639337626245683966408394965837152256:=by decide
  obtain ⟨k,rfl⟩:∃ j,k=j + 1:=⟨k - 1,by omega⟩
  apply fq2.enter
  have hp:PV (H ++ [.cells csA]) csA plA:=plA_pv
  have hcool:=fun (K:AV→St→Prop)=>Cool_s (K:=K) (k:=k) (b:=some H.length) (lk:=false) (by omega) hp (by decide)
  rw [plA_cool] at hcool
  have hS:SI (H ++ [.cells csA]) (.slice true 1 [[iv 1],[iv 0],[iv 1]]) [1,0,1]:=Sl.lit Nat.one_pos ic_len rfl
  have hheats:=fun (K:AV→St→Prop)=>Heats_s (K:=K) (k:=k) (b:=some H.length) (lk:=false) (by omega) hp hS (by decide) (by decide)
  have e1:heatsFrom plA 0 plA.heat [1,0,1]=[3,7,5]:=by rfl
  rw [if_pos plA_sched,e1] at hheats
  simp -implicitDefEqProofs only [List.map_cons,List.map_nil,ic] at hheats
  simp -implicitDefEqProofs only [fq2.n0_w,sw0,sw1,sw2,sw3,sw4,sw5,reduceCtorEq,Nat.reduceEqDiff,Nat.reduceAdd,Nat.reduceDiv,Nat.reduceLeDiff,hcool,hheats]
  refine PlanA (by omega) ?_
  intro L n hn
  simp -implicitDefEqProofs only [sw0,sw1,sw2,sw3,sw4,sw5,reduceCtorEq,Nat.reduceEqDiff,Nat.reduceAdd,Nat.reduceDiv,Nat.reduceLeDiff]
  refine PlanB (by omega) ?_
  intro L2
  simp -implicitDefEqProofs only [sw0,sw1,sw2,sw3,sw4,sw5,reduceCtorEq,Nat.reduceEqDiff,Nat.reduceAdd,Nat.reduceDiv,Nat.reduceLeDiff,CrowdB (k:=k) (by omega)]
  obtain ⟨G,hG⟩:∃ G,G=H ++ AObj.cells csA :: (L ++ L2):=⟨_,rfl⟩
  have hn':SI G n [2,0,1]:=by
    have:=hn.app (L:=L2)
    rw [hG]
    simpa using this
  rw [← hG]
  have hm:=fun (K:AV→St→Prop)=>Match_s (K:=K) (k:=k) (b:=some H.length) (lk:=true) (H:=G) (by omega) (show Sl G 2 kc (.slice true 2 [[iv 0,iv 0],[iv 10,iv 0],[iv 11,iv 0],[iv 1,iv 0]]) msA from Sl.lit (by omega) kc_len rfl) (by decide)
  rw [msA_ans] at hm
  have hx:=fun (K:AV→St→Prop)=>Next_s (K:=K) (k:=k) (b:=some H.length) (lk:=true) (H:=G) (n:=2) (by omega) (show RD G (.slice true 1 [[.slice true 1 [[iv 0],[iv 1]]]]) [(.slice true 1 [[iv 0],[iv 1]],[0,1])] from ⟨Sl.lit Nat.one_pos rc_len rfl,fun q hq=>by simp -implicitDefEqProofs only [List.mem_singleton] at hq; subst hq; exact Sl.lit Nat.one_pos ic_len rfl⟩) (by decide) (by decide)
  rw [nxA] at hx
  have hI:∀ {v w:AV} {xs:List Int},SI G v xs→SI G w xs→xs.length≤1000→∀ (K:AV→St→Prop),VC ⟨prog,k,some H.length⟩ F_fq45 [v,w] ⟨G,true⟩ K=K (.bool true) ⟨G,true⟩:=fun h1 h2 h3 K=>by
    rw [r02_Ints_s (k:=k) (by omega) h1 h2 h3,decide_eq_true rfl]
  have hV:∀ (f:Bool) (xs:List Int),SI G (.slice f 1 (xs.map ic)) xs:=fun f xs=>Sl.val Nat.one_pos ic_len
  have i1:=hI (hV false [1,0,1]) (hV true [1,0,1]) (by decide)
  have i2:=hI (hV false [3,7,5]) (hV true [3,7,5]) (by decide)
  have i3:=hI hn' (hV true [2,0,1]) (by decide)
  have i4:=hI (hV false [1,0]) (hV true [1,0]) (by decide)
  have hsp:=fun (K:AV→St→Prop)=>SamePairs_s (K:=K) (k:=k) (b:=some H.length) (lk:=true) (H:=G) (v:=.slice false 2 [[iv 0,iv 3],[iv 1,iv 2]]) (w:=.slice true 2 [[iv 0,iv 3],[iv 1,iv 2]]) (xs:=[(0,3),(1,2)]) (ys:=[(0,3),(1,2)]) (by omega) (Sl.lit (by omega) kc_len rfl) (Sl.lit (by omega) kc_len rfl) (by decide)
  rw [decide_eq_true rfl] at hsp
  simp -implicitDefEqProofs only [List.map_cons,List.map_nil,ic] at i1 i2 i3 i4
  simp -implicitDefEqProofs only [sw0,sw1,sw2,sw3,sw4,sw5,reduceCtorEq,Nat.reduceEqDiff,Nat.reduceAdd,Nat.reduceDiv,Nat.reduceLeDiff,hm,hx,i1,i2,i3,i4,hsp,fq2.ret,lv_t]
  exact hK _
end Go.Proofs.YtcebebhaahpoiaaDoor
end
section
namespace Go.Proofs.YtcebebhaahpoiaaDoor
open Go Go.Ai Go.W
attribute [local irreducible] VC YC WC
set_option linter.unusedSimpArgs false
set_option linter.unusedVariables false
set_option maxRecDepth 10000
variable {k:Nat} {b:Option Nat} {H:List AObj} {lk:Bool} {K:AV→St→Prop}
end Go.Proofs.YtcebebhaahpoiaaDoor
end
section
namespace Go.Proofs.YtcebebhaahpoiaaDoor
open Go Go.Ai Go.W
attribute [local irreducible] VC YC WC
set_option linter.unusedVariables false
set_option maxRecDepth 100000
theorem c3:Tryd.prog.cellsOf 3=1:=by kernel_rfl
theorem wt_ints {d:Nat} {es:List (List AV)} (h:∀ l,l ∈ es→l.length=Tryd.prog.cellsOf 3∧Wt Tryd.prog (d + 1) 3 l):∃ xs:List Int,es=xs.map ic:=by
  induction es with
  | nil=>exact ⟨[],rfl⟩
  | cons e es ih =>
    obtain ⟨xs,rfl⟩:=ih fun l hl=>h l (by simp [hl])
    have h1:=(h e (by simp)).2
    unfold Wt at h1
    rw [Tryd.underlying3] at h1
    obtain ⟨n,rfl,_⟩:=h1
    exact ⟨n :: xs,rfl⟩
theorem wt_int {d:Nat} {xs:List AV} (h:Wt Tryd.prog (d + 1) 3 xs):∃ n,xs=[iv n]:=by
  unfold Wt at h
  rw [Tryd.underlying3] at h
  obtain ⟨n,rfl,_⟩:=h
  exact ⟨n,rfl⟩
theorem wt_22 {d:Nat} {xs:List AV} (h:Wt Tryd.prog (d + 2) 22 xs):∃ l:List Int,xs=[.slice false 1 (l.map ic)]:=by
  unfold Wt at h
  rw [Tryd.underlying22] at h
  obtain ⟨es,rfl,_,h2⟩:=h
  obtain ⟨l,rfl⟩:=wt_ints h2
  exact ⟨l,by rw [c3]⟩
theorem c35:Tryd.prog.cellsOf 35=3:=by kernel_rfl
theorem len3 {xs:List AV} (h:xs.length=3):∃ a b c,xs=[a,b,c]:=by
  match xs,h with
  | [a,b,c],_=>exact ⟨a,b,c,rfl⟩
theorem len6 {xs:List AV} (h:xs.length=6):∃ a b c d e f,xs=[a,b,c,d,e,f]:=by
  match xs,h with
  | [a,b,c,d,e,f],_=>exact ⟨a,b,c,d,e,f,rfl⟩
theorem wt_35 {d:Nat} {xs:List AV} (hl:xs.length=3) (h:Wt Tryd.prog (d + 2) 35 xs):∃ m:Mach,xs=mc m:=by
  unfold Wt at h
  rw [Tryd.underlying35] at h
  obtain ⟨a,b,c,rfl⟩:=len3 hl
  obtain ⟨_,hf⟩:=h
  have f0:=hf _ (.head _)
  have f1:=hf _ (.tail _ (.head _))
  have f2:=hf _ (.tail _ (.tail _ (.head _)))
  simp -implicitDefEqProofs only [c3,List.drop_zero,List.drop_succ_cons,List.take_succ_cons,List.take_zero] at f0 f1 f2
  obtain ⟨x,hx⟩:=wt_int f0
  obtain ⟨y,hy⟩:=wt_int f1
  obtain ⟨z,hz⟩:=wt_int f2
  simp -implicitDefEqProofs only [List.cons.injEq,and_true] at hx hy hz
  exact ⟨⟨x,y,z⟩,by rw [hx,hy,hz]⟩
theorem wt_machs {d:Nat} {es:List (List AV)} (h:∀ l,l ∈ es→l.length=Tryd.prog.cellsOf 35∧Wt Tryd.prog (d + 2) 35 l):∃ ms:List Mach,es=ms.map mc:=by
  induction es with
  | nil=>exact ⟨[],rfl⟩
  | cons e es ih =>
    obtain ⟨ms,rfl⟩:=ih fun l hl=>h l (by simp [hl])
    obtain ⟨h1,h2⟩:=h e (by simp)
    rw [c35] at h1
    obtain ⟨m,rfl⟩:=wt_35 h1 h2
    exact ⟨m :: ms,rfl⟩
theorem wt_23 {d:Nat} {xs:List AV} (h:Wt Tryd.prog (d + 3) 23 xs):∃ l:List Mach,xs=[.slice false 3 (l.map mc)]:=by
  unfold Wt at h
  rw [Tryd.underlying23] at h
  obtain ⟨es,rfl,_,h2⟩:=h
  obtain ⟨l,rfl⟩:=wt_machs h2
  exact ⟨l,by rw [c35]⟩
theorem c22:Tryd.prog.cellsOf 22=1:=by kernel_rfl
theorem c23:Tryd.prog.cellsOf 23=1:=by kernel_rfl
theorem c25:Tryd.prog.cellsOf 25=6:=by kernel_rfl
theorem wt_plant {d:Nat} {xs:List AV} (h:Wt Tryd.prog (d + 4) 25 xs):∃ p:Plt,∀ H,PV H xs p:=by
  unfold Wt at h
  rw [Tryd.underlying25] at h
  obtain ⟨hlen,hf⟩:=h
  rw [c25] at hlen
  obtain ⟨a,b,c,d,e,f,rfl⟩:=len6 hlen
  have f0:=hf _ (.head _)
  have f1:=hf _ (.tail _ (.head _))
  have f2:=hf _ (.tail _ (.tail _ (.head _)))
  have f3:=hf _ (.tail _ (.tail _ (.tail _ (.head _))))
  have f4:=hf _ (.tail _ (.tail _ (.tail _ (.tail _ (.head _)))))
  have f5:=hf _ (.tail _ (.tail _ (.tail _ (.tail _ (.tail _ (.head _))))))
  simp -implicitDefEqProofs only [c3,c22,c23,List.drop_zero,List.drop_succ_cons,List.take_succ_cons,List.take_zero] at f0 f1 f2 f3 f4 f5
  obtain ⟨x,hx⟩:=wt_int f0
  obtain ⟨y,hy⟩:=wt_int f1
  obtain ⟨z,hz⟩:=wt_int f2
  obtain ⟨l,hl⟩:=wt_22 f3
  obtain ⟨m,hm⟩:=wt_22 f4
  obtain ⟨n,hn⟩:=wt_23 f5
  simp -implicitDefEqProofs only [List.cons.injEq,and_true] at hx hy hz hl hm hn
  subst hx; subst hy; subst hz; subst hl; subst hm; subst hn
  exact ⟨⟨x,y,z,l,m,n⟩,fun H=>⟨_,_,_,rfl,Sl.val Nat.one_pos ic_len,Sl.val Nat.one_pos ic_len,Sl.val (by omega) (fun _=>rfl)⟩⟩
theorem agg25:isAggT Tryd.prog 25=some true:=by kernel_rfl
theorem arg_plant {x:AV} (h:Arg Tryd.prog 8 25 x):∃ cs,∃ p:Plt,x=.agg cs∧∀ H,PV H cs p:=by
  obtain ⟨h1,h2,_⟩:=h
  obtain ⟨cs,rfl⟩:=h2 agg25
  obtain ⟨p,hp⟩:=wt_plant (d:=4) h1
  exact ⟨cs,p,rfl,hp⟩
end Go.Proofs.YtcebebhaahpoiaaDoor
end
section
namespace Go.Proofs.YtcebebhaahpoiaaDoor
open Go Go.Ai Go.W
attribute [local irreducible] VC YC WC
set_option linter.unusedSimpArgs false
set_option linter.unusedVariables false
set_option maxRecDepth 10000
variable {k:Nat} {b:Option Nat} {H:List AObj} {lk:Bool} {K:AV→St→Prop}
theorem PV.set {H:List AObj} {cs:List AV} {p:Plt} (h:PV H cs p) {c:Nat} {o:AObj} (hc:∀ cs,H[c]? ≠ some (AObj.cells cs)):PV (H.set c o) cs p:=by
  obtain ⟨vl,vp,vm,e,h1,h2,h3⟩:=h.how
  exact ⟨vl,vp,vm,e,slset h1 hc,slset h2 hc,slset h3 hc⟩
end Go.Proofs.YtcebebhaahpoiaaDoor
end
section
namespace Go.Proofs.YtcebebhaahpoiaaDoor
open Go Go.Ai Go.W
attribute [local irreducible] VC YC WC
set_option linter.unusedSimpArgs false
set_option linter.unusedVariables false
set_option maxRecDepth 10000
variable {k:Nat} {b:Option Nat} {H:List AObj} {lk:Bool} {K:AV→St→Prop}
end Go.Proofs.YtcebebhaahpoiaaDoor
end
section
namespace Go.Proofs.YtcebebhaahpoiaaDoor
open Go Go.Ai Go.W
attribute [local irreducible] VC YC WC
set_option linter.unusedSimpArgs false
set_option linter.unusedVariables false
set_option maxRecDepth 10000
variable {k:Nat} {b:Option Nat} {H:List AObj} {lk:Bool} {K:AV→St→Prop}
end Go.Proofs.YtcebebhaahpoiaaDoor
end
section
namespace Go.Proofs.YtcebebhaahpoiaaDoor
open Go Go.Ai Go.W
attribute [local irreducible] VC YC WC
set_option linter.unusedSimpArgs false
set_option linter.unusedVariables false
set_option maxRecDepth 10000
variable {k:Nat} {b:Option Nat} {H:List AObj} {lk:Bool} {K:AV→St→Prop}
end Go.Proofs.YtcebebhaahpoiaaDoor
end
section
namespace Go.Proofs.YtcebebhaahpoiaaDoor
open Go Go.Ai Go.W
attribute [local irreducible] VC YC WC
set_option linter.unusedSimpArgs false
set_option linter.unusedVariables false
set_option maxRecDepth 10000
variable {k:Nat} {b:Option Nat} {H:List AObj} {lk:Bool} {K:AV→St→Prop}
end Go.Proofs.YtcebebhaahpoiaaDoor
end
section
namespace Go.Proofs.YtcebebhaahpoiaaDoor
open Go Go.Ai Go.W
attribute [local irreducible] VC YC WC
set_option linter.unusedVariables false
set_option linter.unusedSimpArgs false
set_option maxRecDepth 100000
def i64 (n:Int):Prop:=-9223372036854775808≤n∧n≤9223372036854775807
theorem wt_intr {d:Nat} {xs:List AV} (h:Wt Tryd.prog (d + 1) 3 xs):∃ n,xs=[iv n]∧i64 n:=by
  unfold Wt at h
  rw [Tryd.underlying3] at h
  obtain ⟨n,rfl,h1,h2⟩:=h
  exact ⟨n,rfl,h1,h2⟩
theorem arg_int {x:AV} (h:Arg Tryd.prog 8 3 x):∃ n,x=iv n∧i64 n:=by
  obtain ⟨h1,_,h3⟩:=h
  obtain ⟨n,hn,hr⟩:=wt_intr (d:=7) h1
  refine ⟨n,?_,hr⟩
  have a3:isAggT Tryd.prog 3=some false:=by kernel_rfl
  cases x <;> first | exact absurd rfl (h3 a3 _) | exact (List.cons.inj hn).1
theorem wt_u8 {d:Nat} {xs:List AV} (h:Wt Tryd.prog (d + 1) 5 xs):∃ n:Nat,xs=[.int .u8 n]∧n < 256:=by
  unfold Wt at h
  rw [Tryd.underlying5] at h
  obtain ⟨n,rfl,h1,h2⟩:=h
  have h1:(0:Int)≤n:=h1
  have h2:n≤(255:Int):=h2
  exact ⟨n.toNat,by rw [show ((n.toNat:Nat):Int)=n by omega],by omega⟩
theorem len2 {xs:List AV} (h:xs.length=2):∃ a b,xs=[a,b]:=by
  match xs,h with
  | [a,b],_=>exact ⟨a,b,rfl⟩
theorem wt_list {α:Type} {d:Nat} {t:TypeId} {n:Nat} {f:α→List AV} {P:α→Prop} (hc:Tryd.prog.cellsOf t=n) (h1:∀ xs,xs.length=n→Wt Tryd.prog d t xs→∃ a,xs=f a∧P a):∀ {es:List (List AV)},(∀ l,l ∈ es→l.length=Tryd.prog.cellsOf t∧Wt Tryd.prog d t l)→∃ ys:List α,es=ys.map f∧∀ a,a ∈ ys→P a
  | [],_=>⟨[],rfl,fun a h=>by cases h⟩
  | e :: es,h=>by
    obtain ⟨ys,rfl,ha⟩:=wt_list hc h1 (es:=es) fun l hl=>h l (by simp [hl])
    obtain ⟨h2,h3⟩:=h e (by simp)
    rw [hc] at h2
    obtain ⟨a,rfl,hp⟩:=h1 e h2 h3
    exact ⟨a :: ys,rfl,fun x hx=>by rcases List.mem_cons.1 hx with rfl | h; exact hp; exact ha _ h⟩
theorem arg_of_slice {x:AV} {t:TypeId} {d:Nat} {z:Nat} {es:List (List AV)} (ha:isAggT Tryd.prog t=some false) (h:Arg Tryd.prog d t x) (he:x.cells=[.slice false z es]):x=.slice false z es:=by
  obtain ⟨_,_,h3⟩:=h
  cases x <;> first | exact absurd rfl (h3 ha _) | exact (List.cons.inj he).1
theorem arg_u8s {x:AV} (h:Arg Tryd.prog 8 32 x):∃ l:List Nat,(∀ n,n ∈ l→n < 256)∧∀ H,Sl H 1 (fun n:Nat=>[.int .u8 n]) x l:=by
  have h1:=h.1
  unfold Wt at h1
  rw [Tryd.underlying32] at h1
  obtain ⟨es,he,_,h2⟩:=h1
  obtain ⟨l,rfl,hl⟩:=wt_list (n:=1) (f:=fun n:Nat=>[.int .u8 n]) (by kernel_rfl) (fun xs hl hw=>wt_u8 (d:=6) hw) h2
  rw [show Tryd.prog.cellsOf 5=1 by kernel_rfl] at he
  rw [arg_of_slice (by kernel_rfl) h he]
  exact ⟨l,hl,fun H=>Sl.val (by omega) (fun _=>rfl)⟩
variable {k:Nat} {b:Option Nat} {H:List AObj} {lk:Bool} {K:AV→St→Prop}
end Go.Proofs.YtcebebhaahpoiaaDoor
end
section
namespace Go.Proofs.YtcebebhaahpoiaaDoor
open Go Go.Ai Go.W
attribute [local irreducible] VC YC WC
set_option linter.unusedSimpArgs false
set_option linter.unusedVariables false
set_option maxRecDepth 10000
variable {k:Nat} {b:Option Nat} {H:List AObj} {lk:Bool} {K:AV→St→Prop}
end Go.Proofs.YtcebebhaahpoiaaDoor
end
section
namespace Go.Proofs.YtcebebhaahpoiaaDoor
open Go Go.Ai Go.W
attribute [local irreducible] VC YC WC
set_option linter.unusedSimpArgs false
set_option linter.unusedVariables false
set_option maxRecDepth 10000
variable {k:Nat} {b:Option Nat} {H:List AObj} {lk:Bool} {K:AV→St→Prop}
def rem (n:Nat) (R:List Int):List Nat:=(List.range n).filter fun i=>decide ((i:Int) ∉ R)
def OV (H X:List AObj) (v:AV) (l:List Int):Prop:=VS 1 ic v l∨Own H X 1 ic v l
theorem OV.ext {X Y:List AObj} {v:AV} {l:List Int} (h:OV H X v l):OV H (X ++ Y) v l:=h.imp id fun h=>h.ext
theorem OV.fz {X:List AObj} {v:AV} {l:List Int} (h:OV H X v l):VS 1 ic (frz H.length (H ++ X) 1 v) l:=by
  rcases h with h | h
  · rw [h.fz]; exact h
  · exact h.fz (Nat.le_refl _) ic_clean
end Go.Proofs.YtcebebhaahpoiaaDoor
end
section
namespace Go.Proofs.YtcebebhaahpoiaaDoor
open Go Go.Ai Go.W
attribute [local irreducible] VC YC WC
set_option linter.unusedSimpArgs false
set_option linter.unusedVariables false
set_option maxRecDepth 10000
variable {k:Nat} {b:Option Nat} {H:List AObj} {lk:Bool} {K:AV→St→Prop}
end Go.Proofs.YtcebebhaahpoiaaDoor
end
section
namespace Go.Proofs.YtcebebhaahpoiaaDoor
open Go Go.Ai Go.W
attribute [local irreducible] VC YC WC
set_option linter.unusedVariables false
set_option maxRecDepth 100000
end Go.Proofs.YtcebebhaahpoiaaDoor
end
section
namespace Go.Proofs.YtcebebhaahpoiaaDoor
open Go Go.Ai Go.W
attribute [local irreducible] VC YC WC
set_option linter.unusedSimpArgs false
set_option linter.unusedVariables false
set_option maxRecDepth 100000
def pm2 (free:Nat→Nat→Bool):Nat→Nat→List Nat→Bool
  | 0,_,_=>true
  | r + 1,s,S=>S.any fun c=>free s c && pm2 free r (s + 1) (wo c S)
def grow (free:Nat→Nat→Bool):Nat→Nat→List Nat→List Nat
  | 0,_,_=>[]
  | r + 1,s,S=>match S.find? (fun c=>free s c && pm2 free r (s + 1) (wo c S)) with
    | none=>[]
    | some c=>c :: grow free r (s + 1) (wo c S)
end Go.Proofs.YtcebebhaahpoiaaDoor
end
section
namespace Go.Proofs.YtcebebhaahpoiaaDoor
open Go Go.Ai Go.W
attribute [local irreducible] VC YC WC
set_option linter.unusedSimpArgs false
set_option linter.unusedVariables false
set_option maxRecDepth 10000
variable {k:Nat} {b:Option Nat} {H:List AObj} {lk:Bool} {K:AV→St→Prop}
end Go.Proofs.YtcebebhaahpoiaaDoor
end
section
namespace Go.Proofs.YtcebebhaahpoiaaDoor
open Go Go.Ai Go.W
attribute [local irreducible] VC YC WC
set_option linter.unusedSimpArgs false
set_option linter.unusedVariables false
def flatP (P:List (Nat × Nat)):List Nat:=P.flatMap fun p=>[p.1,p.2]
def psumN (D:Nat→Nat→Int):List (Nat × Nat)→Int
  | []=>0
  | p :: P=>D p.1 p.2 + psumN D P
structure PrOk (D:Nat→Nat→Int) (S:List Nat) (P:List (Nat × Nat)):Prop where
  perm:(flatP P).Perm S
  sum:psumN D P=(pv D S).1
end Go.Proofs.YtcebebhaahpoiaaDoor
end
section
namespace Go.Proofs.YtcebebhaahpoiaaDoor
open Go Go.Ai Go.W
attribute [local irreducible] VC YC WC
set_option linter.unusedSimpArgs false
set_option linter.unusedVariables false
set_option maxRecDepth 10000
variable {k:Nat} {b:Option Nat} {H:List AObj} {lk:Bool} {K:AV→St→Prop}
abbrev uc (n:Nat):List AV:=[.int .u8 n]
end Go.Proofs.YtcebebhaahpoiaaDoor
end
section
namespace Go.Proofs.YtcebebhaahpoiaaDoor
open Go Go.Ai Go.W
attribute [local irreducible] VC YC WC
set_option linter.unusedSimpArgs false
set_option linter.unusedVariables false
theorem num_lt {p:Plt} {x:Int} (h:p.num x=true):0≤x∧x.toNat < 2 ^ p.machs.length:=by
  unfold Plt.num at h
  rw [decide_eq_true_eq] at h
  have:0 < 2 ^ p.machs.length:=Nat.two_pow_pos _
  omega
theorem best_lower {p:Plt}:∀ (l:List Int) (r h:Nat) (t:Int) (o:Nat),l.length=r→(∀ x,x ∈ l→p.num x=true)→(∀ x,x ∈ heatsFrom p h t l→x≤p.high)→∃ c m,best p r h t o=some (c,m)∧c≤costFrom p h o l
  | [],0,h,t,o,_,_,_=>⟨0,0,rfl,Int.le_refl _⟩
  | n :: l,r + 1,h,t,o,hl,hn,hh=>by
    simp -implicitDefEqProofs only [List.length_cons,Nat.add_right_cancel_iff] at hl
    obtain ⟨h1,h2⟩:=num_lt (hn n (by simp))
    have hle:=hh (p.heatBy h t n.toNat) (by simp [heatsFrom])
    obtain ⟨c,m,e,hc⟩:=best_lower l r (h + 1) (p.heatBy h t n.toNat) n.toNat hl (fun x hx=>hn x (by simp [hx])) (fun x hx=>hh x (by simp [heatsFrom,hx]))
    have hv:bval p r h t o n.toNat=some (c + p.costBy h o n.toNat):=by
      unfold bval
      rw [if_pos hle,e]
      rfl
    obtain ⟨c2,m2,e2⟩:=minF_ex h2 hv
    obtain ⟨_,_,g3,_⟩:=minF_some e2
    refine ⟨c2,m2,by rw [best_succ]; exact e2,?_⟩
    have:=g3 _ h2 _ hv
    rw [costFrom]
    omega
  | [],r + 1,_,_,_,h,_,_=>by simp at h
  | _ :: _,0,_,_,_,h,_,_=>by simp at h
theorem best_plan {p:Plt}:∀ (r h:Nat) (t:Int) (o:Nat) (c:Int) (m:Nat),best p r h t o=some (c,m)→(plan p r h t o).length=r∧(∀ x,x ∈ plan p r h t o→p.num x=true)∧(∀ x,x ∈ heatsFrom p h t (plan p r h t o)→x≤p.high)∧costFrom p h o (plan p r h t o)=c
  | 0,h,t,o,c,m,hb=>by
    simp -implicitDefEqProofs only [best,Option.some.injEq,Prod.mk.injEq] at hb
    exact ⟨rfl,fun x hx=>(by cases hx),fun x hx=>(by cases hx),hb.1⟩
  | r + 1,h,t,o,c,m,hb=>by
    have hb':=hb
    rw [best_succ] at hb'
    obtain ⟨g1,g2,_,_⟩:=minF_some hb'
    unfold bval at g2
    split at g2
    · rename_i hle
      obtain ⟨q,hq,hc⟩:=Option.map_eq_some_iff.1 g2
      obtain ⟨i1,i2,i3,i4⟩:=best_plan r (h + 1) (p.heatBy h t m) m q.1 q.2 hq
      have hnum:p.num (m:Int)=true:=by
        unfold Plt.num
        rw [decide_eq_true_eq]
        have:((m:Nat):Int) < (2 ^ p.machs.length:Nat):=by omega
        omega
      rw [plan,hb]
      refine ⟨by simp [i1],fun x hx=>?_,fun x hx=>?_,?_⟩
      · rcases List.mem_cons.1 hx with rfl | h
        · exact hnum
        · exact i2 x h
      · simp -implicitDefEqProofs only [heatsFrom,Int.toNat_natCast] at hx
        rcases List.mem_cons.1 hx with rfl | h
        · exact hle
        · exact i3 x h
      · simp -implicitDefEqProofs only [costFrom,Int.toNat_natCast,i4]
        omega
    · cases g2
theorem coldOf_app {m:Mach}:∀ {ms:List Mach} {n:Nat},n < 2 ^ ms.length→coldOf (ms ++ [m]) n=coldOf ms n
  | [],n,h=>by
    have:n=0:=by simp at h; omega
    subst this
    simp [coldOf]
  | a :: ms,n,h=>by
    rw [List.length_cons,Nat.pow_succ] at h
    simp -implicitDefEqProofs only [List.cons_append,coldOf,coldOf_app (ms:=ms) (n:=n / 2) (by omega)]
theorem powerOf_app {m:Mach}:∀ {ms:List Mach} {n:Nat},n < 2 ^ ms.length→powerOf (ms ++ [m]) n=powerOf ms n
  | [],n,h=>by
    have:n=0:=by simp at h; omega
    subst this
    simp [powerOf]
  | a :: ms,n,h=>by
    rw [List.length_cons,Nat.pow_succ] at h
    simp -implicitDefEqProofs only [List.cons_append,powerOf,powerOf_app (ms:=ms) (n:=n / 2) (by omega)]
theorem startOf_app {m:Mach}:∀ {ms:List Mach} {n o:Nat},n < 2 ^ ms.length→startOf (ms ++ [m]) n o=startOf ms n o
  | [],n,o,h=>by
    have:n=0:=by simp at h; omega
    subst this
    simp [startOf]
  | a :: ms,n,o,h=>by
    rw [List.length_cons,Nat.pow_succ] at h
    simp -implicitDefEqProofs only [List.cons_append,startOf,startOf_app (ms:=ms) (n:=n / 2) (o:=o / 2) (by omega)]
structure Better (q p:Plt):Prop where
  low:q.low=p.low
  heat:q.heat=p.heat
  high:p.high≤q.high
  len:q.loads.length=p.loads.length
  loads:∀ i:Nat,q.loads.getD i 0≤p.loads.getD i 0
  prices:∀ i:Nat,q.prices.getD i 0≤p.prices.getD i 0
  machs:q.machs=p.machs∨∃ m,q.machs=p.machs ++ [m]
theorem Better.cold {q p:Plt} (h:Better q p) {n:Nat} (hn:n < 2 ^ p.machs.length):coldOf q.machs n=coldOf p.machs n:=by
  rcases h.machs with e | ⟨m,e⟩ <;> rw [e]
  exact coldOf_app hn
theorem Better.power {q p:Plt} (h:Better q p) {n:Nat} (hn:n < 2 ^ p.machs.length):powerOf q.machs n=powerOf p.machs n:=by
  rcases h.machs with e | ⟨m,e⟩ <;> rw [e]
  exact powerOf_app hn
theorem Better.start {q p:Plt} (h:Better q p) {n o:Nat} (hn:n < 2 ^ p.machs.length):startOf q.machs n o=startOf p.machs n o:=by
  rcases h.machs with e | ⟨m,e⟩ <;> rw [e]
  exact startOf_app hn
theorem Better.num {q p:Plt} (h:Better q p) {x:Int} (hx:p.num x=true):q.num x=true:=by
  obtain ⟨h1,h2⟩:=num_lt hx
  have:2 ^ p.machs.length≤2 ^ q.machs.length:=by
    refine Nat.pow_le_pow_right (by omega) ?_
    rcases h.machs with e | ⟨m,e⟩ <;> rw [e] <;> simp
  unfold Plt.num
  rw [decide_eq_true_eq]
  have:(x.toNat:Int) < (2 ^ q.machs.length:Nat):=by omega
  omega
theorem better_heats {q p:Plt} (hb:Better q p) {B:Int}:∀ (l:List Int) (h:Nat) (tq tp:Int),tq≤tp→(∀ x,x ∈ l→p.num x=true)→(∀ x,x ∈ heatsFrom p h tp l→x≤B)→∀ x,x ∈ heatsFrom q h tq l→x≤B
  | [],_,_,_,_,_,_=>fun x hx=>by cases hx
  | n :: l,h,tq,tp,ht,hn,hh=>by
    obtain ⟨h1,h2⟩:=num_lt (hn n (by simp))
    have hle:q.heatBy h tq n.toNat≤p.heatBy h tp n.toNat:=by
      unfold Plt.heatBy
      rw [hb.low,hb.cold h2]
      have:=hb.loads h
      omega
    have h0:=hh (p.heatBy h tp n.toNat) (by simp [heatsFrom])
    have ih:=better_heats hb l (h + 1) _ _ hle (fun x hx=>hn x (by simp [hx])) (fun x hx=>hh x (by simp [heatsFrom,hx]))
    intro x hx
    simp -implicitDefEqProofs only [heatsFrom] at hx
    rcases List.mem_cons.1 hx with rfl | h
    · omega
    · exact ih x h
theorem better_cost {q p:Plt} (hp:p.Ok) (hb:Better q p):∀ (l:List Int) (h o:Nat),(∀ x,x ∈ l→p.num x=true)→costFrom q h o l≤costFrom p h o l
  | [],_,_,_=>Int.le_refl _
  | n :: l,h,o,hn=>by
    obtain ⟨h1,h2⟩:=num_lt (hn n (by simp))
    have ih:=better_cost hp hb l (h + 1) n.toNat (fun x hx=>hn x (by simp [hx]))
    have hpw:=(powerOf_le (fun i hi=>(hp.machs i hi).2.1) n.toNat).1
    have hmul:q.prices.getD h 0 * powerOf p.machs n.toNat≤p.prices.getD h 0 * powerOf p.machs n.toNat:=Int.mul_le_mul_of_nonneg_right (hb.prices h) hpw
    rw [costFrom,costFrom]
    unfold Plt.costBy
    rw [hb.power h2,hb.start h2]
    omega
theorem better_best {q p:Plt} (hp:p.Ok) (hb:Better q p) {c:Int} {m:Nat} (h:best p p.loads.length 0 p.heat 0=some (c,m)):∃ c2 m2,best q q.loads.length 0 q.heat 0=some (c2,m2)∧c2≤c:=by
  obtain ⟨g1,g2,g3,g4⟩:=best_plan _ _ _ _ _ _ h
  have hh:=better_heats hb _ 0 q.heat p.heat (by rw [hb.heat]; exact Int.le_refl _) g2 g3
  obtain ⟨c2,m2,e,hc⟩:=best_lower (p:=q) (plan p p.loads.length 0 p.heat 0) q.loads.length 0 q.heat 0 (by rw [g1,hb.len]) (fun x hx=>hb.num (g2 x hx)) (fun x hx=>by have:=hh x hx; have:=hb.high; omega)
  have:=better_cost hp hb (plan p p.loads.length 0 p.heat 0) 0 0 g2
  exact ⟨c2,m2,e,by omega⟩
end Go.Proofs.YtcebebhaahpoiaaDoor
end
section
namespace Go.Proofs.YtcebebhaahpoiaaDoor
open Go Go.Ai Go.W
attribute [local irreducible] VC YC WC
set_option linter.unusedSimpArgs false
set_option linter.unusedVariables false
set_option maxRecDepth 10000
variable {k:Nat} {b:Option Nat} {H:List AObj} {lk:Bool} {K:AV→St→Prop}
def less1 (d x:Int):Int:=max 0 (x - max 0 (min 1000000 d))
theorem lesser_s (hk:100≤k) {v:AV} {l:List Int} {d:Int} (hs:SI H v l) (hl:l.length≤50) (hr:∀ x,x ∈ l→0≤x∧x≤1000000) (hK:∀ u,VS 1 ic u (l.map (less1 d))→K u ⟨H,lk⟩):VC ⟨prog,k,b⟩ F_fq3 [v,iv d] ⟨H,lk⟩ K:=by
  obtain ⟨k,rfl⟩:∃ j,k=j + 1:=⟨k - 1,by omega⟩
  apply fq3.enter
  simp -implicitDefEqProofs only [fq3.n0_w,sw0,sw1,sw2,sw3,sw4,sw5,reduceCtorEq,Nat.reduceEqDiff,Nat.reduceAdd,Nat.reduceDiv,Nat.reduceLeDiff]
  refine fq3.n1_l (fun m r3 r4 s=>∃ i:Nat,r4=iv i∧r3=.sref H.length 0 i (i * 1) 1∧s=⟨H ++ [.cells (((l.take i).map (less1 d)).map ic).flatten],false⟩∧m=l.length - i∧i≤l.length) l.length (by simp -implicitDefEqProofs only []; omega) ⟨0,rfl,rfl,rfl,by omega,by omega⟩ ?_
  rintro m r3 r4 r5 r6 s ⟨i,rfl,rfl,rfl,rfl,hi⟩
  have hsX:=hs.app (L:=[.cells (((l.take i).map (less1 d)).map ic).flatten])
  have hTk:((l.take i).map (less1 d)).length=i:=by rw [List.length_map,List.length_take]; omega
  simp -implicitDefEqProofs only [fq3.n2_w,sw0,sw1,sw2,sw3,sw4,sw5,reduceCtorEq,Nat.reduceEqDiff,Nat.reduceAdd,Nat.reduceDiv,Nat.reduceLeDiff,hsX.len]
  split
  · rename_i hlt
    have hlt:i < l.length:=by omega
    have hx:=hr _ (List.getElem_mem hlt)
    have happ:=app_own (base:=some H.length) (lk:=false) (fl:=true) (bytes:=8) (xs:=(l.take i).map (less1 d)) (x:=less1 d l[i]) (c:=H.length) (H:=H ++ [.cells (((l.take i).map (less1 d)).map ic).flatten]) Nat.one_pos ic_len (ic_one _) (ic_clean _) rfl (by simp -implicitDefEqProofs only [sw0,sw1,sw2,sw3,sw4,sw5,reduceCtorEq,Nat.reduceEqDiff,Nat.reduceAdd,Nat.reduceDiv,Nat.reduceLeDiff,row_hd,ic_flat,Nat.mul_one]) (by omega)
    have e:(l.take i).map (less1 d) ++ [less1 d l[i]]=(l.take (i + 1)).map (less1 d):=by rw [← List.take_append_getElem hlt,List.map_append]; rfl
    rw [hTk,e] at happ
    have hw1:=wrap64 (n:=l[i] - max 0 (min 1000000 d)) (by omega)
    have hw2:=wrap64 (n:=(i:Int) + 1) (by omega)
    simp -implicitDefEqProofs only [ic,less1] at happ
    simp -implicitDefEqProofs only [fq3.n4_w,sw0,sw1,sw2,sw3,sw4,sw5,reduceCtorEq,Nat.reduceEqDiff,Nat.reduceAdd,Nat.reduceDiv,Nat.reduceLeDiff,hsX.at',hlt,hsX.ld hlt (show 0 < 1 by omega),ic,hw1,happ,hw2]
    exact fq3.n1_go (m':=l.length - (i + 1)) (by omega) ⟨i + 1,rfl,rfl,rfl,rfl,by omega⟩
  · have hie:i=l.length:=by omega
    subst hie
    rw [List.take_length] at hTk ⊢
    have hfz:=fz_own (m:=H.length) (f:=ic) (xs:=l.map (less1 d)) (c:=H.length) (H:=H ++ [.cells ((l.map (less1 d)).map ic).flatten]) Nat.one_pos ic_len ic_clean rfl (by simp -implicitDefEqProofs only [sw0,sw1,sw2,sw3,sw4,sw5,reduceCtorEq,Nat.reduceEqDiff,Nat.reduceAdd,Nat.reduceDiv,Nat.reduceLeDiff,row_hd,ic_flat,Nat.mul_one]) (by omega)
    rw [hTk] at hfz
    have:=hK _ (VS.mk (fl:=false) (n:=1) (f:=ic) (xs:=l.map (less1 d)))
    simp -implicitDefEqProofs only [fq3.n5_w,sw0,sw1,sw2,sw3,sw4,sw5,reduceCtorEq,Nat.reduceEqDiff,Nat.reduceAdd,Nat.reduceDiv,Nat.reduceLeDiff,fq3.ret,hfz]
    exact this
theorem own_len {α:Type} {H H' X:List AObj} {n:Nat} {f:α→List AV} {v:AV} {xs:List α} (h:Own H X n f v xs) (e:H'.length=H.length):Own H' X n f v xs:=by
  refine ⟨h.pos,h.size,?_⟩
  rcases h.how with h | ⟨c,rfl,hc⟩
  · exact .inl h
  · exact .inr ⟨c,by rw [e],hc⟩
theorem less1_le {d x:Int} (hx:0≤x):less1 d x≤x:=by unfold less1; omega
theorem less_getD {d:Int}:∀ {l:List Int},(∀ x,x ∈ l→0≤x)→∀ i:Nat,(l.map (less1 d)).getD i 0≤l.getD i 0
  | [],_,i=>by simp
  | x :: l,h,0=>by simpa using less1_le (h x (by simp))
  | x :: l,h,i + 1=>by simpa using less_getD (l:=l) (fun y hy=>h y (by simp [hy])) i
theorem heats_len {p:Plt}:∀ {l:List Int} {i:Nat} {t:Int},(heatsFrom p i t l).length=l.length
  | [],_,_=>rfl
  | a :: l,i,t=>by simp [heatsFrom,heats_len (l:=l)]
theorem PlantCheapest_s (hk:16 ^ 54≤k) {cs:List AV} {p:Plt} {w:AV} {bys:List Nat} {d1 d2 hg:Int} {mo:Mach} (hp:∀ H,PV H cs p) (hb:∀ H,Sl H 1 uc w bys) (hb8:∀ n,n ∈ bys→n < 256) (hK:∀ s,K (.bool true) s) :
    VC ⟨prog,k,b⟩ F_fq1 [.agg cs,w,.agg [iv d1,iv d2],.agg (mc mo),iv hg] ⟨H,lk⟩ K:=by
  have e54:(16:Nat) ^ 54=105312291668557186697918027683670432318895095400549111254310977536:=by decide
  have e53:(16:Nat) ^ 53=6582018229284824168619876730229402019930943462534319453394436096:=by decide
  have e52:(16:Nat) ^ 52=411376139330301510538742295639337626245683966408394965837152256:=by decide
  obtain ⟨k,rfl⟩:∃ j,k=j + 1:=⟨k - 1,by omega⟩
  obtain ⟨vl,vp,vm,rfl,h1,h2,h3⟩:=(hp H).how
  apply fq1.enter
  by_cases c1:(24:Int) < p.loads.length
  · simp -implicitDefEqProofs only [fq1.n0_w,sw0,sw1,sw2,sw3,sw4,sw5,reduceCtorEq,Nat.reduceEqDiff,Nat.reduceAdd,Nat.reduceDiv,Nat.reduceLeDiff,h1.one,h2.one,h3.one,h1.len,c1,gO_u,mc]
    simp -implicitDefEqProofs only [fq1.n1_w,sw0,sw1,sw2,sw3,sw4,sw5,reduceCtorEq,Nat.reduceEqDiff,Nat.reduceAdd,Nat.reduceDiv,Nat.reduceLeDiff]
    refine awake_s (by omega) fun s=>?_
    obtain ⟨G,g⟩:=s
    cases g <;> simp -implicitDefEqProofs only [sw0,sw1,sw2,sw3,sw4,sw5,reduceCtorEq,Nat.reduceEqDiff,Nat.reduceAdd,Nat.reduceDiv,Nat.reduceLeDiff,fq1.ret,lv_t,hK]
  by_cases c2:(24:Int) < p.prices.length
  · simp -implicitDefEqProofs only [fq1.n0_w,sw0,sw1,sw2,sw3,sw4,sw5,reduceCtorEq,Nat.reduceEqDiff,Nat.reduceAdd,Nat.reduceDiv,Nat.reduceLeDiff,h1.one,h2.one,h3.one,h1.len,h2.len,c1,c2,gO_u,mc]
    simp -implicitDefEqProofs only [fq1.n1_w,sw0,sw1,sw2,sw3,sw4,sw5,reduceCtorEq,Nat.reduceEqDiff,Nat.reduceAdd,Nat.reduceDiv,Nat.reduceLeDiff]
    refine awake_s (by omega) fun s=>?_
    obtain ⟨G,g⟩:=s
    cases g <;> simp -implicitDefEqProofs only [sw0,sw1,sw2,sw3,sw4,sw5,reduceCtorEq,Nat.reduceEqDiff,Nat.reduceAdd,Nat.reduceDiv,Nat.reduceLeDiff,fq1.ret,lv_t,hK]
  by_cases c3:(3:Int) < p.machs.length
  · simp -implicitDefEqProofs only [fq1.n0_w,sw0,sw1,sw2,sw3,sw4,sw5,reduceCtorEq,Nat.reduceEqDiff,Nat.reduceAdd,Nat.reduceDiv,Nat.reduceLeDiff,h1.one,h2.one,h3.one,h1.len,h2.len,h3.len,c1,c2,c3,gO_u,mc]
    simp -implicitDefEqProofs only [fq1.n1_w,sw0,sw1,sw2,sw3,sw4,sw5,reduceCtorEq,Nat.reduceEqDiff,Nat.reduceAdd,Nat.reduceDiv,Nat.reduceLeDiff]
    refine awake_s (by omega) fun s=>?_
    obtain ⟨G,g⟩:=s
    cases g <;> simp -implicitDefEqProofs only [sw0,sw1,sw2,sw3,sw4,sw5,reduceCtorEq,Nat.reduceEqDiff,Nat.reduceAdd,Nat.reduceDiv,Nat.reduceLeDiff,fq1.ret,lv_t,hK]
  by_cases c4:(300:Int) < IntKind.i64.wrap (p.high - p.low)
  · simp -implicitDefEqProofs only [fq1.n0_w,sw0,sw1,sw2,sw3,sw4,sw5,reduceCtorEq,Nat.reduceEqDiff,Nat.reduceAdd,Nat.reduceDiv,Nat.reduceLeDiff,h1.one,h2.one,h3.one,h1.len,h2.len,h3.len,c1,c2,c3,c4,gO_u,mc]
    simp -implicitDefEqProofs only [fq1.n1_w,sw0,sw1,sw2,sw3,sw4,sw5,reduceCtorEq,Nat.reduceEqDiff,Nat.reduceAdd,Nat.reduceDiv,Nat.reduceLeDiff]
    refine awake_s (by omega) fun s=>?_
    obtain ⟨G,g⟩:=s
    cases g <;> simp -implicitDefEqProofs only [sw0,sw1,sw2,sw3,sw4,sw5,reduceCtorEq,Nat.reduceEqDiff,Nat.reduceAdd,Nat.reduceDiv,Nat.reduceLeDiff,fq1.ret,lv_t,hK]
  have hl:p.loads.length≤1000∧p.prices.length≤1000∧p.machs.length≤60:=by omega
  obtain ⟨A,hA⟩:∃ A:List AV,A=[iv p.heat,iv p.low,iv p.high,vl,vp,vm]:=⟨_,rfl⟩
  have hPV:∀ G,PV G [iv p.heat,iv p.low,iv p.high,vl,vp,vm] p:=fun G=>hp G
  have a1:=fun (G:List AObj) (K:AV→St→Prop)=>Cool_s (K:=K) (k:=k) (b:=some H.length) (lk:=false) (by omega) (hPV G) hl
  have a2:=fun (G:List AObj) (K:AV→St→Prop)=>r12_CheckPlant_s (K:=K) (k:=k) (b:=some H.length) (lk:=false) (by omega) (hPV G) (by omega)
  simp -implicitDefEqProofs only [fq1.n0_w,sw0,sw1,sw2,sw3,sw4,sw5,reduceCtorEq,Nat.reduceEqDiff,Nat.reduceAdd,Nat.reduceDiv,Nat.reduceLeDiff,h1.one,h2.one,h3.one,h1.len,h2.len,h3.len,c1,c2,c3,c4,gO_u,mc,fq1.n2_w,a1]
  cases hok:p.ok with
  | false =>
    have hc:p.cool=[.slice false 1 [],iv 0,iv 2]:=by unfold Plt.cool; rw [hok]; rfl
    simp -implicitDefEqProofs only [hc,sw0,sw1,sw2,sw3,sw4,sw5,reduceCtorEq,Nat.reduceEqDiff,Nat.reduceAdd,Nat.reduceDiv,Nat.reduceLeDiff,fq1.n3_w,a2,hok]
    refine awake_s (by omega) fun s=>?_
    obtain ⟨G,g⟩:=s
    cases g <;> simp -implicitDefEqProofs only [sw0,sw1,sw2,sw3,sw4,sw5,reduceCtorEq,Nat.reduceEqDiff,Nat.reduceAdd,Nat.reduceDiv,Nat.reduceLeDiff,fq1.ret,lv_t,hK]
  | true =>
  have ho:=Plt.ok_Ok hok
  have hlow:=ho.low
  have hheat:=ho.heat
  have hhigh:=ho.high
  rw [wrap64 (by omega)] at c4
  have hM3:p.machs.length≤3:=by omega
  have h2M:2 ^ p.machs.length≤8:=(Nat.pow_le_pow_right (by omega) hM3:2 ^ p.machs.length≤2 ^ 3)
  have h2M0:0 < 2 ^ p.machs.length:=Nat.two_pow_pos _
  have hres:∃ (u:AV) (c e:Int),p.cool=[u,iv c,iv e] ∧
      ((e=7∧best p p.loads.length 0 p.heat 0=none)∨(e=0∧(∃ m,best p p.loads.length 0 p.heat 0=some (c,m))∧u=.slice false 1 ((plan p p.loads.length 0 p.heat 0).map ic))):=by
    unfold Plt.cool
    rw [hok,if_pos rfl]
    cases hb2:best p p.loads.length 0 p.heat 0 with
    | none=>exact ⟨_,_,_,rfl,.inl ⟨rfl,rfl⟩⟩
    | some q=>obtain ⟨c,m⟩:=q; exact ⟨_,_,_,rfl,.inr ⟨rfl,⟨m,rfl⟩,rfl⟩⟩
  obtain ⟨u,cst,er,hr1,hr2⟩:=hres
  have he2:¬ er=2:=by omega
  simp -implicitDefEqProofs only [hr1,sw0,sw1,sw2,sw3,sw4,sw5,reduceCtorEq,Nat.reduceEqDiff,Nat.reduceAdd,Nat.reduceDiv,Nat.reduceLeDiff,eq_false he2,fq1.n4_w]
  have hshl:IntKind.i64.wrap (1 * 2 ^ min ((p.machs.length:Int)).toNat IntKind.i64.bits)=((2 ^ p.machs.length:Nat):Int):=by
    rw [Int.toNat_natCast,show IntKind.i64.bits=64 from rfl,Nat.min_eq_left (by omega),Int.one_mul]
    have:(2:Int) ^ p.machs.length=((2 ^ p.machs.length:Nat):Int):=(Int.natCast_pow 2 _).symm
    rw [this,wrap64 (by omega)]
  refine fq1.n5_l (fun j r6 r7 s=>∃ (i:Nat) (xs:List Int),r7=iv i∧r6=.sref (H.length + 3) 0 i (i * 1) 1∧s=⟨H ++ [.cells [iv p.heat,iv p.low,iv p.high,vl,vp,vm],.cells [iv d1,iv d2],.cells [iv mo.cold,iv mo.power,iv mo.start],.cells (xs.map ic).flatten],false⟩ ∧
      j=p.loads.length - i∧i≤p.loads.length∧xs.length=i∧∀ x,x ∈ xs→p.num x=true) p.loads.length (by first | omega | (simp -implicitDefEqProofs only []; omega)) ⟨0,[],rfl,rfl,rfl,by omega,by omega,rfl,fun x hx=>by cases hx⟩ ?_
  rintro j r6 r7 r8 r15 s ⟨i,xs,rfl,rfl,rfl,rfl,hi,hxl,hnum⟩
  simp -implicitDefEqProofs only [fq1.n6_w,sw0,sw1,sw2,sw3,sw4,sw5,reduceCtorEq,Nat.reduceEqDiff,Nat.reduceAdd,Nat.reduceDiv,Nat.reduceLeDiff,h1.len]
  split
  · rename_i hlt
    have hlt:i < p.loads.length:=by omega
    have hwi:=wrap64 (n:=(i:Int) + 1) (by omega)
    have hm0:¬ (p.machs.length:Int) < 0:=by omega
    have hz2:¬ ((2 ^ p.machs.length:Nat):Int)=0:=by omega
    obtain ⟨HX,hHX⟩:∃ HX,HX=H ++ [AObj.cells [iv p.heat,iv p.low,iv p.high,vl,vp,vm],.cells [iv d1,iv d2],.cells [iv mo.cold,iv mo.power,iv mo.start],.cells (xs.map ic).flatten]:=⟨_,rfl⟩
    have happ0:=fun x:Int=>app_own (base:=some H.length) (lk:=false) (fl:=true) (bytes:=8) (xs:=xs) (x:=x) (c:=H.length + 3) (H:=H ++ [AObj.cells [iv p.heat,iv p.low,iv p.high,vl,vp,vm],.cells [iv d1,iv d2],.cells [iv mo.cold,iv mo.power,iv mo.start],.cells (xs.map ic).flatten]) Nat.one_pos ic_len (ic_one _) (ic_clean _) rfl (by simp -implicitDefEqProofs only [sw0,sw1,sw2,sw3,sw4,sw5,reduceCtorEq,Nat.reduceEqDiff,Nat.reduceAdd,Nat.reduceDiv,Nat.reduceLeDiff,row_hd,ic_flat,Nat.mul_one]) (by omega)
    rw [hxl] at happ0
    simp -implicitDefEqProofs only [ic] at happ0
    by_cases e1:(0:Int) < bys.length
    · have e1':¬ (bys.length:Int)=0:=by omega
      have hix:i % bys.length < bys.length:=Nat.mod_lt _ (by omega)
      have ht:(i:Int).tmod (bys.length:Int)=((i % bys.length:Nat):Int):=(Int.ofNat_tmod _ _).symm
      have hb256:=hb8 _ (List.getElem_mem hix)
      obtain ⟨z,hz⟩:∃ z,z=bys[i % bys.length]:=⟨_,rfl⟩
      have hcv:=wrap64 (n:=(z:Int)) (by omega)
      have htz:(z:Int).tmod ((2 ^ p.machs.length:Nat):Int)=((z % 2 ^ p.machs.length:Nat):Int):=(Int.ofNat_tmod _ _).symm
      have happ:=happ0 ((z % 2 ^ p.machs.length:Nat):Int)
      simp -implicitDefEqProofs only [fq1.n8_w,sw0,sw1,sw2,sw3,sw4,sw5,reduceCtorEq,Nat.reduceEqDiff,Nat.reduceAdd,Nat.reduceDiv,Nat.reduceLeDiff,(hb H).len,eq_true e1,fq1.n9_w,eq_false e1',ht,← hHX,(hb HX).at',hix,(hb HX).ld hix (show 0 < 1 by omega),uc,hcv,← hz]
      rw [hHX]
      simp -implicitDefEqProofs only [fq1.n10_w,sw0,sw1,sw2,sw3,sw4,sw5,reduceCtorEq,Nat.reduceEqDiff,Nat.reduceAdd,Nat.reduceDiv,Nat.reduceLeDiff,h3.len,hm0,hshl,hz2,htz,happ,fq1.n11_w,hwi]
      refine fq1.n5_go (m':=p.loads.length - (i + 1)) (by omega) ⟨i + 1,xs ++ [((z % 2 ^ p.machs.length:Nat):Int)],rfl,rfl,rfl,rfl,by omega,by simp [hxl],fun x hx=>?_⟩
      rcases List.mem_append.1 hx with h | h
      · exact hnum x h
      · simp -implicitDefEqProofs only [List.mem_singleton] at h
        rw [h]
        have:=Nat.mod_lt z h2M0
        unfold Plt.num
        rw [decide_eq_true_eq]
        omega
    · obtain ⟨z,hz⟩:∃ z:Nat,z=0:=⟨_,rfl⟩
      have htz:Int.tmod 0 ((2 ^ p.machs.length:Nat):Int)=((z % 2 ^ p.machs.length:Nat):Int):=by rw [hz]; simp
      have happ:=happ0 ((z % 2 ^ p.machs.length:Nat):Int)
      simp -implicitDefEqProofs only [fq1.n8_w,sw0,sw1,sw2,sw3,sw4,sw5,reduceCtorEq,Nat.reduceEqDiff,Nat.reduceAdd,Nat.reduceDiv,Nat.reduceLeDiff,(hb H).len,eq_false e1]
      simp -implicitDefEqProofs only [fq1.n10_w,sw0,sw1,sw2,sw3,sw4,sw5,reduceCtorEq,Nat.reduceEqDiff,Nat.reduceAdd,Nat.reduceDiv,Nat.reduceLeDiff,h3.len,hm0,hshl,hz2,htz,happ,fq1.n11_w,hwi]
      refine fq1.n5_go (m':=p.loads.length - (i + 1)) (by omega) ⟨i + 1,xs ++ [((z % 2 ^ p.machs.length:Nat):Int)],rfl,rfl,rfl,rfl,by omega,by simp [hxl],fun x hx=>?_⟩
      rcases List.mem_append.1 hx with h | h
      · exact hnum x h
      · simp -implicitDefEqProofs only [List.mem_singleton] at h
        rw [h]
        have:=Nat.mod_lt z h2M0
        unfold Plt.num
        rw [decide_eq_true_eq]
        omega
  · have hie : i = p.loads.length:=by omega
    subst hie
    have hsch:p.sched xs=true:=by
      unfold Plt.sched
      rw [hok,decide_eq_true hxl,Bool.true_and,Bool.true_and,List.all_eq_true]
      exact hnum
    have hS:SI (H ++ [AObj.cells [iv p.heat,iv p.low,iv p.high,vl,vp,vm],.cells [iv d1,iv d2],.cells [iv mo.cold,iv mo.power,iv mo.start],.cells (xs.map ic).flatten]) (.sref (H.length + 3) 0 p.loads.length (p.loads.length * 1) 1) xs:=by
      refine ⟨Nat.one_pos,ic_len,.inr ⟨_,0,_,(xs.map ic).flatten,by rw [hxl],?_,?_⟩⟩
      · simp -implicitDefEqProofs only [sw0,sw1,sw2,sw3,sw4,sw5,reduceCtorEq,Nat.reduceEqDiff,Nat.reduceAdd,Nat.reduceDiv,Nat.reduceLeDiff,row_hd,ic_flat,Nat.mul_one,hxl]
      · rw [List.drop_zero,← flat_len ic_len xs,List.take_length]
    have b1:=fun (K:AV→St→Prop)=>r12_Heats_s (K:=K) (k:=k) (b:=some H.length) (lk:=false) (by omega) (hPV _) hS hl (by omega)
    have b2:=fun (K:AV→St→Prop)=>r12_Cost_s (K:=K) (k:=k) (b:=some H.length) (lk:=false) (by omega) (hPV _) hS hl (by omega)
    rw [hsch] at b1 b2
    simp -implicitDefEqProofs only [if_true] at b1 b2
    obtain ⟨hs,hhs⟩:∃ hs,hs=heatsFrom p 0 p.heat xs:=⟨_,rfl⟩
    rw [← hhs] at b1
    obtain ⟨hv,hhv⟩:∃ hv,hv=AV.slice false 1 (hs.map ic):=⟨_,rfl⟩
    have hHS:∀ G,SI G hv hs:=fun G=>by rw [hhv]; exact Sl.val Nat.one_pos ic_len
    rw [← hhv] at b1
    simp -implicitDefEqProofs only [fq1.n12_w,sw0,sw1,sw2,sw3,sw4,sw5,reduceCtorEq,Nat.reduceEqDiff,Nat.reduceAdd,Nat.reduceDiv,Nat.reduceLeDiff,b1,b2]
    have hhl:hs.length=p.loads.length:=by rw [hhs,heats_len,hxl]
    refine fq1.n13_l (fun j r9 r10 s=>∃ i:Nat,r10=iv i∧r9=.bool ((hs.take i).all fun x=>decide (x≤p.high))∧s=⟨H ++ [.cells [iv p.heat,iv p.low,iv p.high,vl,vp,vm],.cells [iv d1,iv d2],.cells [iv mo.cold,iv mo.power,iv mo.start],.cells (xs.map ic).flatten],false⟩∧j=p.loads.length - i∧i≤p.loads.length) p.loads.length (by first | omega | (simp -implicitDefEqProofs only []; omega)) ⟨0,rfl,rfl,rfl,by omega,by omega⟩ ?_
    clear hi
    rintro j r1 r9 r10 r16 s ⟨i,rfl,rfl,rfl,rfl,hi⟩
    simp -implicitDefEqProofs only [fq1.n14_w,sw0,sw1,sw2,sw3,sw4,sw5,reduceCtorEq,Nat.reduceEqDiff,Nat.reduceAdd,Nat.reduceDiv,Nat.reduceLeDiff,(hHS H).len,hhl]
    split
    · rename_i hlt2
      have hlt2:i < hs.length:=by omega
      have hst:((hs.take (i + 1)).all fun x=>decide (x≤p.high))=(((hs.take i).all fun x=>decide (x≤p.high)) && decide (hs[i]≤p.high)):=by
        rw [← List.take_append_getElem hlt2,List.all_append]; simp
      have hwi:=wrap64 (n:=(i:Int) + 1) (by omega)
      obtain ⟨HX,hHX⟩:∃ HX,HX=H ++ [AObj.cells [iv p.heat,iv p.low,iv p.high,vl,vp,vm],.cells [iv d1,iv d2],.cells [iv mo.cold,iv mo.power,iv mo.start],.cells (xs.map ic).flatten]:=⟨_,rfl⟩
      have hrow:row HX H.length 6=some [iv p.heat,iv p.low,iv p.high,vl,vp,vm]:=by rw [hHX]; simp -implicitDefEqProofs only [sw0,sw1,sw2,sw3,sw4,sw5,reduceCtorEq,Nat.reduceEqDiff,Nat.reduceAdd,Nat.reduceDiv,Nat.reduceLeDiff,row_hd]
      cases hall:((hs.take i).all fun x=>decide (x≤p.high)) with
      | false =>
        rw [hall,Bool.false_and] at hst
        simp -implicitDefEqProofs only [fq1.n16_w,sw0,sw1,sw2,sw3,sw4,sw5,reduceCtorEq,Nat.reduceEqDiff,Nat.reduceAdd,Nat.reduceDiv,Nat.reduceLeDiff,gO_u,hwi]
        exact fq1.n13_go (m':=p.loads.length - (i + 1)) (by omega) ⟨i + 1,rfl,by rw [hst],rfl,rfl,by omega⟩
      | true =>
        rw [hall,Bool.true_and] at hst
        rw [← hHX]
        simp -implicitDefEqProofs only [fq1.n16_w,sw0,sw1,sw2,sw3,sw4,sw5,reduceCtorEq,Nat.reduceEqDiff,Nat.reduceAdd,Nat.reduceDiv,Nat.reduceLeDiff,(hHS HX).at',hlt2,(hHS HX).ld hlt2 (show 0 < 1 by omega),ic,hrow,hwi]
        rw [hHX]
        exact fq1.n13_go (m':=p.loads.length - (i + 1)) (by omega) ⟨i + 1,rfl,by rw [hst],rfl,rfl,by omega⟩
    · have hie2 : i=p.loads.length:=by omega
      rw [hie2,← hhl,List.take_length]
      rcases hr2 with ⟨rfl,hbn⟩ | ⟨rfl,⟨m,hbs⟩,rfl⟩
      · have hno:(hs.all fun x=>decide (x≤p.high))=false:=by
          rw [Bool.eq_false_iff]
          intro h
          rw [List.all_eq_true] at h
          obtain ⟨c,m,e,_⟩:=best_lower (p:=p) xs p.loads.length 0 p.heat 0 hxl hnum (fun x hx=>by have:=h x (by rw [hhs]; exact hx); simpa using this)
          rw [hbn] at e
          cases e
        have h77:(7:Int)=7:=rfl
        simp -implicitDefEqProofs only [fq1.n17_w,sw0,sw1,sw2,sw3,sw4,sw5,reduceCtorEq,Nat.reduceEqDiff,Nat.reduceAdd,Nat.reduceDiv,Nat.reduceLeDiff,fq1.n18_w,hno,eq_true h77]
        refine awake_s (by omega) fun s=>?_
        obtain ⟨G,g⟩:=s
        cases g <;> simp -implicitDefEqProofs only [sw0,sw1,sw2,sw3,sw4,sw5,reduceCtorEq,Nat.reduceEqDiff,Nat.reduceAdd,Nat.reduceDiv,Nat.reduceLeDiff,fq1.ret,lv_t,hK]
      · have h07 : ¬ (0:Int)=7:=by omega
        have h00:(0:Int)=0:=rfl
        obtain ⟨g1,g2,g3,g4⟩:=best_plan _ _ _ _ _ _ hbs
        obtain ⟨pl,hpl⟩:∃ pl,pl=plan p p.loads.length 0 p.heat 0:=⟨_,rfl⟩
        rw [← hpl] at g1 g2 g3 g4
        have hle:(hs.all fun x=>decide (x≤p.high))=true→¬ costFrom p 0 0 xs < cst:=by
          intro h
          rw [List.all_eq_true] at h
          obtain ⟨c,m2,e,hc⟩:=best_lower (p:=p) xs p.loads.length 0 p.heat 0 hxl hnum (fun x hx=>by have:=h x (by rw [hhs]; exact hx); simpa using this)
          rw [hbs] at e
          simp -implicitDefEqProofs only [Option.some.injEq,Prod.mk.injEq] at e
          omega
        obtain ⟨HX,hHX⟩:∃ HX,HX=H ++ [AObj.cells [iv p.heat,iv p.low,iv p.high,vl,vp,vm],.cells [iv d1,iv d2],.cells [iv mo.cold,iv mo.power,iv mo.start],.cells (xs.map ic).flatten]:=⟨_,rfl⟩
        have hrow:row HX H.length 6=some [iv p.heat,iv p.low,iv p.high,vl,vp,vm]:=by rw [hHX]; simp -implicitDefEqProofs only [sw0,sw1,sw2,sw3,sw4,sw5,reduceCtorEq,Nat.reduceEqDiff,Nat.reduceAdd,Nat.reduceDiv,Nat.reduceLeDiff,row_hd]
        have hpS:∀ G,SI G (.slice false 1 (pl.map ic)) pl:=fun G=>Sl.val Nat.one_pos ic_len
        have hsch2:p.sched pl=true:=by
          unfold Plt.sched
          rw [hok,decide_eq_true g1,Bool.true_and,Bool.true_and,List.all_eq_true]
          exact g2
        have b3:=fun (K:AV→St→Prop)=>r12_Heats_s (K:=K) (k:=k) (b:=some H.length) (lk:=false) (H:=HX) (by omega) (hPV _) (hpS _) hl (by omega)
        have b4:=fun (K:AV→St→Prop)=>r12_Cost_s (K:=K) (k:=k) (b:=some H.length) (lk:=false) (H:=HX) (by omega) (hPV _) (hpS _) hl (by omega)
        rw [hsch2] at b3 b4
        simp -implicitDefEqProofs only [if_true,g4] at b3 b4
        rw [← hHX,← hpl]
        have tail : ∀ r9 r16:AV,WC ⟨prog,k,some H.length⟩ fq1.n23 [.ptr H.length 0 6,.bool false,.ptr (H.length + 1) 0 2,.ptr (H.length + 2) 0 3,iv hg,.bool false,.sref (H.length + 3) 0 hs.length (hs.length * 1) 1,iv hs.length,r8,r9,iv hs.length,.undef,.slice false 1 ((heatsFrom p 0 p.heat pl).map ic),.bool false,iv cst,iv cst,r16,iv (costFrom p 0 0 xs),.undef,.undef,.undef,.undef,.undef] ⟨HX,false⟩ (RK H.length lk fq1.res K):=by
          intro r9 r16
          have hh2:∀ G,SI G (.slice false 1 ((heatsFrom p 0 p.heat pl).map ic)) (heatsFrom p 0 p.heat pl):=fun G=>Sl.val Nat.one_pos ic_len
          have hh2l:(heatsFrom p 0 p.heat pl).length=p.loads.length:=by rw [heats_len,g1]
          simp -implicitDefEqProofs only [fq1.n23_w,sw0,sw1,sw2,sw3,sw4,sw5,reduceCtorEq,Nat.reduceEqDiff,Nat.reduceAdd,Nat.reduceDiv,Nat.reduceLeDiff]
          refine fq1.n24_l (fun j r11 s=>∃ i:Nat,r11=iv i∧s=⟨HX,false⟩∧j=p.loads.length - i∧i≤p.loads.length) p.loads.length (by first | omega | (simp -implicitDefEqProofs only []; omega)) ⟨0,rfl,rfl,by omega,by omega⟩ ?_
          rintro j r1 r5 r11 r13 s ⟨i3,rfl,rfl,rfl,hi3⟩
          simp -implicitDefEqProofs only [fq1.n25_w,sw0,sw1,sw2,sw3,sw4,sw5,reduceCtorEq,Nat.reduceEqDiff,Nat.reduceAdd,Nat.reduceDiv,Nat.reduceLeDiff,(hh2 H).len,hh2l]
          split
          · rename_i hlt3
            have hlt3:i3 < (heatsFrom p 0 p.heat pl).length:=by omega
            have hle3:¬ p.high < (heatsFrom p 0 p.heat pl)[i3]:=by have:=g3 _ (List.getElem_mem hlt3); omega
            have hwi:=wrap64 (n:=(i3:Int) + 1) (by omega)
            simp -implicitDefEqProofs only [fq1.n27_w,sw0,sw1,sw2,sw3,sw4,sw5,reduceCtorEq,Nat.reduceEqDiff,Nat.reduceAdd,Nat.reduceDiv,Nat.reduceLeDiff,(hh2 HX).at',hlt3,(hh2 HX).ld hlt3 (show 0 < 1 by omega),ic,hrow,eq_false hle3,fq1.n29_w,hwi]
            exact fq1.n24_go (m':=p.loads.length - (i3 + 1)) (by omega) ⟨i3 + 1,rfl,rfl,rfl,by omega⟩
          · subst hHX
            have hw1:=wrap64 (n:=p.low + 300) (by omega)
            have hw2:=wrap64 (n:=p.high + max 0 (min 1000 hg)) (by omega)
            have hvs:∀ G,SI G vl p.loads∧SI G vp p.prices∧Sl G 3 mc vm p.machs:=by
              intro G
              obtain ⟨a,b,c,e,k1,k2,k3⟩:=(hp G).how
              simp -implicitDefEqProofs only [List.cons.injEq,and_true,true_and] at e
              obtain ⟨rfl,rfl,rfl⟩:=e
              exact ⟨k1,k2,k3⟩
            obtain ⟨hi',hhi⟩:∃ z,z=min (p.low + 300) (p.high + max 0 (min 1000 hg)):=⟨_,rfl⟩
            have hi0:idxOf 2 (.int .i64 0)=some 0:=rfl
            have hi1':idxOf 2 (.int .i64 1)=some 1:=rfl
            have tail2:∀ (X2:List AObj) (vm':AV) (ms':List Mach),(ms'=p.machs∨∃ m,ms'=p.machs ++ [m])→vm'.one=true→(∀ Q,Sl (H ++ (.cells [iv p.heat,iv p.low,iv p.high,vl,vp,vm] :: .cells [iv d1,iv d2] :: .cells [iv mo.cold,iv mo.power,iv mo.start] :: .cells (xs.map ic).flatten :: .cells Q :: X2)) 3 mc vm' ms') →
                ∀ r1 r4 r5 r6 r7 r8 r9 r10 r11 r13 r15 r16 r17 r18 r19 r20 r21 r22,WC ⟨prog,k,some H.length⟩ fq1.n32 [.ptr H.length 0 6,r1,.ptr (H.length + 1) 0 2,.ptr (H.length + 2) 0 3,r4,r5,r6,r7,r8,r9,r10,r11,.ptr (H.length + 4) 0 6,r13,iv cst,r15,r16,r17,r18,r19,r20,r21,r22]
                ⟨H ++ (.cells [iv p.heat,iv p.low,iv p.high,vl,vp,vm] :: .cells [iv d1,iv d2] :: .cells [iv mo.cold,iv mo.power,iv mo.start] :: .cells (xs.map ic).flatten :: .cells [iv p.heat,iv p.low,iv hi',vl,vp,vm'] :: X2),false⟩ (RK H.length lk fq1.res K):=by
              intro X2 vm' ms' hms hone hsl r1 r4 r5 r6 r7 r8 r9 r10 r11 r13 r15 r16 r17 r18 r19 r20 r21 r22
              simp -implicitDefEqProofs only [fq1.n32_w,sw0,sw1,sw2,sw3,sw4,sw5,reduceCtorEq,Nat.reduceEqDiff,Nat.reduceAdd,Nat.reduceDiv,Nat.reduceLeDiff,hi0,Nat.zero_mul]
              refine lesser_s (k:=k) (by omega) (hvs _).1 (by omega) (fun x hx=>by obtain ⟨i,h,rfl⟩:=List.getElem_of_mem hx; exact ho.loads i h) fun ul hul=>?_
              simp -implicitDefEqProofs only [sw0,sw1,sw2,sw3,sw4,sw5,reduceCtorEq,Nat.reduceEqDiff,Nat.reduceAdd,Nat.reduceDiv,Nat.reduceLeDiff,hi1',Nat.mul_one]
              refine lesser_s (k:=k) (by omega) (hvs _).2.1 (by omega) (fun x hx=>by obtain ⟨i,h,rfl⟩:=List.getElem_of_mem hx; exact ho.prices i h) fun up hup=>?_
              simp -implicitDefEqProofs only [sw0,sw1,sw2,sw3,sw4,sw5,reduceCtorEq,Nat.reduceEqDiff,Nat.reduceAdd,Nat.reduceDiv,Nat.reduceLeDiff,hul.one,hul.cells,hup.one,hup.cells]
              obtain ⟨q,hq⟩:∃ q:Plt,q=⟨p.heat,p.low,hi',p.loads.map (less1 d1),p.prices.map (less1 d2),ms'⟩:=⟨_,rfl⟩
              have hml:ms'.length≤4:=by rcases hms with e | ⟨m,e⟩ <;> rw [e] <;> first | omega | (simp; omega)
              have hql:q.loads.length≤1000∧q.prices.length≤1000∧q.machs.length≤60:=by rw [hq]; simp; omega
              have hqv:PV (H ++ (.cells [iv p.heat,iv p.low,iv p.high,vl,vp,vm] :: .cells [iv d1,iv d2] :: .cells [iv mo.cold,iv mo.power,iv mo.start] :: .cells (xs.map ic).flatten :: .cells [iv p.heat,iv p.low,iv hi',ul,up,vm'] :: X2)) [iv p.heat,iv p.low,iv hi',ul,up,vm'] q:=by
                rw [hq]
                exact ⟨ul,up,vm',rfl,hul.sl Nat.one_pos ic_len,hup.sl Nat.one_pos ic_len,hsl _⟩
              have b5:=fun (K:AV→St→Prop)=>r12_CheckPlant_s (K:=K) (k:=k) (b:=some H.length) (lk:=false) (by omega) hqv (by omega)
              have b6:=fun (K:AV→St→Prop)=>Cool_s (K:=K) (k:=k) (b:=some H.length) (lk:=false) (by omega) hqv hql
              cases hqk:q.ok with
              | false =>
                rw [hqk] at b5
                simp -implicitDefEqProofs only [b5,sw0,sw1,sw2,sw3,sw4,sw5,reduceCtorEq,Nat.reduceEqDiff,Nat.reduceAdd,Nat.reduceDiv,Nat.reduceLeDiff,fq1.n33_w]
                refine awake_s (by omega) fun s=>?_
                obtain ⟨G,g⟩:=s
                cases g <;> simp -implicitDefEqProofs only [sw0,sw1,sw2,sw3,sw4,sw5,reduceCtorEq,Nat.reduceEqDiff,Nat.reduceAdd,Nat.reduceDiv,Nat.reduceLeDiff,fq1.ret,lv_t,hK]
              | true =>
                rw [hqk] at b5
                have hbet:Better q p:=by
                  rw [hq]
                  refine ⟨rfl,rfl,?_,by simp,less_getD (fun x hx=>by obtain ⟨i,h,rfl⟩:=List.getElem_of_mem hx; exact (ho.loads i h).1),less_getD (fun x hx=>by obtain ⟨i,h,rfl⟩:=List.getElem_of_mem hx; exact (ho.prices i h).1),hms⟩
                  show p.high≤hi'
                  omega
                obtain ⟨c2,m2,hb2,hc2⟩:=better_best ho hbet hbs
                have hqc:∃ u2,q.cool=[u2,iv c2,iv 0]:=by
                  unfold Plt.cool
                  rw [hqk,if_pos rfl,hb2]
                  exact ⟨_,rfl⟩
                obtain ⟨u2,hqc⟩:=hqc
                rw [hqc] at b6
                simp -implicitDefEqProofs only [b5,sw0,sw1,sw2,sw3,sw4,sw5,reduceCtorEq,Nat.reduceEqDiff,Nat.reduceAdd,Nat.reduceDiv,Nat.reduceLeDiff,fq1.n34_w,b6,eq_true h00,eq_true hc2]
                refine awake_s (by omega) fun s=>?_
                obtain ⟨G,g⟩:=s
                cases g <;> simp -implicitDefEqProofs only [sw0,sw1,sw2,sw3,sw4,sw5,reduceCtorEq,Nat.reduceEqDiff,Nat.reduceAdd,Nat.reduceDiv,Nat.reduceLeDiff,fq1.ret,lv_t,hK]
            simp -implicitDefEqProofs only [fq1.n30_w,sw0,sw1,sw2,sw3,sw4,sw5,reduceCtorEq,Nat.reduceEqDiff,Nat.reduceAdd,Nat.reduceDiv,Nat.reduceLeDiff,hw1,hw2,h1.one,h2.one,h3.one,h3.len,← hhi]
            split
            · rename_i hlt4
              obtain ⟨w1,X1,ha1,ho1,_⟩:=(Own.nil (H:=H ++ [AObj.cells [iv p.heat,iv p.low,iv p.high,vl,vp,vm],.cells [iv d1,iv d2],.cells [iv mo.cold,iv mo.power,iv mo.start],.cells (xs.map ic).flatten,.cells [iv p.heat,iv p.low,iv hi',vl,vp,vm]]) (X:=[]) (f:=mc) (z:=3) (by omega) (fun _=>rfl)).app (lk:=false) (m:=H.length) (y:=vm) (bytes:=24) (by simp) (hvs _).2.2.rowOf (fun _=>rfl) (by simp; omega)
              have hsx:Sl (H ++ [AObj.cells [iv p.heat,iv p.low,iv p.high,vl,vp,vm],.cells [iv d1,iv d2],.cells [iv mo.cold,iv mo.power,iv mo.start],.cells (xs.map ic).flatten,.cells [iv p.heat,iv p.low,iv hi',vl,vp,vm]] ++ X1) 3 mc (.slice true 3 [mc mo]) [mo]:=Sl.lit (by omega) (fun _=>rfl) rfl
              obtain ⟨w2,X2,ha2,ho2,_⟩:=ho1.app (lk:=false) (m:=H.length) (y:=.slice true 3 [mc mo]) (bytes:=24) (by simp) hsx.rowOf (fun _=>rfl) (by simp; omega)
              simp -implicitDefEqProofs only [List.nil_append,List.append_nil,List.append_assoc,List.cons_append,mc] at ha1 ha2
              have hown:∀ Q,Sl (H ++ (.cells [iv p.heat,iv p.low,iv p.high,vl,vp,vm] :: .cells [iv d1,iv d2] :: .cells [iv mo.cold,iv mo.power,iv mo.start] :: .cells (xs.map ic).flatten :: .cells Q :: X2)) 3 mc w2 (p.machs ++ [mo]):=by
                intro Q
                have h9:=(own_len (H':=H ++ [AObj.cells [iv p.heat,iv p.low,iv p.high,vl,vp,vm],.cells [iv d1,iv d2],.cells [iv mo.cold,iv mo.power,iv mo.start],.cells (xs.map ic).flatten,.cells Q]) ho2 (by simp)).sl
                simpa using h9
              simp -implicitDefEqProofs only [fq1.n31_w,sw0,sw1,sw2,sw3,sw4,sw5,reduceCtorEq,Nat.reduceEqDiff,Nat.reduceAdd,Nat.reduceDiv,Nat.reduceLeDiff,ha1,ha2,ho2.sl.one,ho2.sl.cells]
              exact tail2 X2 w2 (p.machs ++ [mo]) (.inr ⟨mo,rfl⟩) ho2.sl.one hown _ _ _ _ _ _ _ _ _ _ _ _ _ _ _ _ _ _
            · exact tail2 [] vm p.machs (.inl rfl) h3.one (fun Q=>(hvs _).2.2) _ _ _ _ _ _ _ _ _ _ _ _ _ _ _ _ _ _
        cases hpos:(hs.all fun x=>decide (x≤p.high)) with
        | false =>
          simp -implicitDefEqProofs only [fq1.n17_w,sw0,sw1,sw2,sw3,sw4,sw5,reduceCtorEq,Nat.reduceEqDiff,Nat.reduceAdd,Nat.reduceDiv,Nat.reduceLeDiff,eq_false h07,eq_true h00,fq1.n19_w,gO_u,fq1.n21_w,hrow,b3,b4]
          exact tail _ _
        | true =>
          have hlt9:=hle hpos
          simp -implicitDefEqProofs only [fq1.n17_w,sw0,sw1,sw2,sw3,sw4,sw5,reduceCtorEq,Nat.reduceEqDiff,Nat.reduceAdd,Nat.reduceDiv,Nat.reduceLeDiff,eq_false h07,eq_true h00,fq1.n19_w,gO_u,eq_false hlt9,fq1.n21_w,hrow,b3,b4]
          exact tail _ _
end Go.Proofs.YtcebebhaahpoiaaDoor
end
section
namespace Go.Proofs.YtcebebhaahpoiaaDoor
open Go Go.Ai Go.W
attribute [local irreducible] VC YC WC
set_option linter.unusedVariables false
set_option maxRecDepth 100000
theorem arg_two {x:AV} (h:Arg Tryd.prog 8 33 x):∃ a c,x=.agg [iv a,iv c]:=by
  obtain ⟨h1,h2,_⟩:=h
  obtain ⟨cs,rfl⟩:=h2 (by kernel_rfl)
  simp -implicitDefEqProofs only [AV.cells] at h1
  unfold Wt at h1
  rw [Tryd.underlying33] at h1
  obtain ⟨hl,hi⟩:=h1
  have c33:Tryd.prog.cellsOf 33=2:=by kernel_rfl
  rw [c33] at hl
  obtain ⟨a,b,rfl⟩:=len2 hl
  have f0:=hi 0 (by omega)
  have f1:=hi 1 (by omega)
  simp -implicitDefEqProofs only [c3,Nat.zero_mul,Nat.one_mul,List.drop_zero,List.drop_succ_cons,List.take_succ_cons,List.take_zero] at f0 f1
  obtain ⟨x,hx⟩:=wt_int f0
  obtain ⟨y,hy⟩:=wt_int f1
  simp -implicitDefEqProofs only [List.cons.injEq,and_true] at hx hy
  exact ⟨x,y,by rw [hx,hy]⟩
theorem arg_mach {x:AV} (h:Arg Tryd.prog 8 35 x):∃ m:Mach,x=.agg (mc m):=by
  obtain ⟨h1,h2,_⟩:=h
  obtain ⟨cs,rfl⟩:=h2 (by kernel_rfl)
  simp -implicitDefEqProofs only [AV.cells] at h1
  have hl:cs.length=3:=by
    have h3:=h1
    unfold Wt at h3
    rw [Tryd.underlying35] at h3
    rw [h3.1,c35]
  obtain ⟨m,rfl⟩:=wt_35 (d:=6) hl h1
  exact ⟨m,rfl⟩
end Go.Proofs.YtcebebhaahpoiaaDoor
end
section
namespace Go.Proofs.YtcebebhaahpoiaaDoor
open Go Go.Ai Go.W Go.RowKit Go.ChangeShapes Go.WideShapes Go.ChangeAt Go.Lib
set_option maxRecDepth 100000
theorem plantcheapest_law (xs:List AV) (hl:xs.length=Tryd.f4.params.toList.length) (hx:∀ (j:Nat) t x,Tryd.f4.params.toList[j]?=some t→xs[j]?=some x→Arg Tryd.prog 8 t x) :
    ∃ k,(ev prog k (.fn 4) xs ⟨[],false⟩).All fun p=>p.1=.val (.bool true):=by
  have hl2:xs.length=5:=hl
  match xs,hl2 with
  | [a,b,c,d,e],_ =>
    obtain ⟨cs,p,rfl,hp⟩:=arg_plant (hx 0 25 a rfl rfl)
    obtain ⟨m,hm,hm2⟩:=arg_u8s (hx 1 32 b rfl rfl)
    obtain ⟨d1,d2,rfl⟩:=arg_two (hx 2 33 c rfl rfl)
    obtain ⟨mo,rfl⟩:=arg_mach (hx 3 35 d rfl rfl)
    obtain ⟨hg,rfl,hgr⟩:=arg_int (hx 4 3 e rfl rfl)
    refine ⟨16 ^ 54,?_⟩
    have h:=PlantCheapest_s (k:=16 ^ 54) (b:=none) (H:=[]) (lk:=false) (K:=fun v _=>v=.bool true) (Nat.le_refl _) hp hm2 hm (d1:=d1) (d2:=d2) (mo:=mo) (hg:=hg) (fun _=>rfl)
    unfold VC at h
    refine Res.All.mono (fun r hr=>?_) h
    obtain ⟨v,s⟩:=r
    cases v with
    | val v=>exact congrArg _ hr
    | panic v=>exact hr.elim
theorem plantcheapest_lifted (os:Os) (started:os.Started) (X:Type) (enc:TypeId × Value→X) :
    ReturnsInHanded {} Tryd.checked os 4 .any (fun w args=>(Rows.plantCheapestSpec.pre enc Tryd.prog Tryd.f4 [] false w args∧laidMetH Tryd.prog laidL w)∧sizedMet enc Tryd.prog Tryd.f4 (OpenSpec.ofChange Rows.plantCheapestSpec) false w args)
      (Rows.plantCheapestSpec.post enc Tryd.prog Tryd.f4 false true false false):=by
  refine returnsInHanded_of_change_and (C:=Tryd.checked) (X:=fun w _=>laidMetH Tryd.prog laidL w) (fun _ _ _ hh h=>h.of_heap hh) own started (by kernel_rfl) Tryd.func4
    (ChangeSpec.witness_shaped (enc:=enc) (C:=Tryd.checked) (os:=os) (X:=fun w _=>laidMetH Tryd.prog laidL w) false (World.laidAll Tryd.prog os laidL) #[.agg #[.int .i64 0,.int .i64 0,.int .i64 0,.slice none 0 0,.slice none 0 0,.slice none 0 0],.slice none 0 0,.agg #[.int .i64 0,.int .i64 0],.agg #[.int .i64 0,.int .i64 0,.int .i64 0],.int .i64 0] 8 (World.laidAll_os _ _ _)
      (World.shaped_of_ZipB (by kernel_rfl) (by kernel_rfl)) (by kernel_rfl) (by kernel_rfl) (by kernel_rfl)
      (by rw [MakeChecks.laidMetH_plain _ _ _ (by kernel_rfl)]; exact laidMet_laidAll _ (by kernel_rfl) (by kernel_rfl))) ?_
  intro W base args ds gs before hval0 hW _ _ hL _
  have hval:∀ (j:Nat) t v,Tryd.f4.params.toList[j]?=some t→args.toList[j]?=some v→Value.okWide Tryd.prog W .any base t v:=fun j t v h1 h2=>hval0 j t v (by simpa using h1) (by simpa using h2)
  have hW':=hW
  obtain ⟨p,q,hA0,hV,rfl,_,_⟩:=hW
  have hA:DataW.TrodAll enc Tryd.prog W 0 (fun _=>true) true Tryd.f4.params.toList args.toList ds p:=hA0
  obtain ⟨rfl,rfl⟩:=trodVars_none hV
  rw [MakeChecks.laidMetH_plain _ _ _ (by kernel_rfl)] at hL
  obtain ⟨o,ho,hTab⟩:=tab_of_laid hL
  have hpl:(Tryd.f4.params.toList.all fun t=>plainT Tryd.prog 8 t)=true:=by kernel_rfl
  obtain ⟨xs,hLR,hxl,hxa⟩:=read_args (d:=8) hA hval (fun t ht=>List.all_eq_true.1 hpl t ht)
  obtain ⟨k,hk⟩:=plantcheapest_law xs hxl hxa
  have hrd:(Tryd.f4.params.toList.all fun t=>Tryd.prog.readableRec t && decide (t < Tryd.prog.types.size))=true:=by kernel_rfl
  have hlen:ds.length=5:=(trodAll_len hA).trans (by kernel_rfl)
  have hcall:=law_call (progOK hTab) mixedP k 4 W args.toList xs hLR (fun p hp=>by simp -implicitDefEqProofs only [List.mem_singleton] at hp; subst hp; exact ho) hk
  refine hcall.mono fun e W' ⟨he,hb⟩=>⟨_,he,?_⟩
  refine post_of_law laidOutP (fun t ht=>by have:=List.all_eq_true.1 hrd t ht; simp -implicitDefEqProofs only [Bool.and_eq_true,decide_eq_true_eq] at this; exact this) (tb:=4) (by kernel_rfl) Tryd.underlying4 rfl hW' ?_ hb
  match ds,hlen with
  | [d1,d2,d3,d4,d5],_=>exact ⟨rfl,rfl,rfl⟩
theorem plantcheapest_holds:Rows.PlantCheapestSaid :=
  OpenClaim.holds_of_wide 4 Tryd.f4 rfl rfl rfl rfl rfl rfl rfl ⟨rfl,rfl,rfl,rfl,rfl⟩ rfl rfl rfl rfl rfl (by kernel_rfl) Tryd.func4 (by kernel_rfl)
    (of_decide_eq_true (by kernel_rfl)) (by unfold Func.isWrapper; first | (rw [if_pos (by decide +kernel)]; kernel_rfl) | (rw [if_neg (by decide +kernel)]; exact ⟨rfl,rfl⟩))
    (fun os started H enc _=>plantcheapest_lifted os started H enc)
theorem plantcheapest_card:Rows.PlantCheapestCardSaid :=
  Claim7.holds_tied_plain_at .later [] [.data, .data] true (true, "98e795a669b5da70fd090277ed8c58b8aa4305f620608e823b1754817605947f") false plantcheapest_holds (fun _ h => by cases h) (by kernel_rfl) (fun _ h => by cases h) plantCheapest_row_tie rfl ⟨rfl, rfl⟩ (by kernel_rfl) rfl
    (fun f fn hf hfn=>by
      obtain rfl : f = 4 := Option.some.inj ((show Tryd.prog.funcNamed "besom/besomlaw12.PlantCheapest" = some 4 by kernel_rfl).symm.trans hf) |>.symm
      obtain rfl:fn=Tryd.f4:=(Option.some.inj (Tryd.func4.symm.trans hfn)).symm
      exact ⟨by kernel_rfl,fun j t ht=>by
        have hall:(Tryd.f4.params.toList.all fun u=>!Tryd.prog.wantsStandIn u)=true:=by kernel_rfl
        have hm:t ∈ Tryd.f4.params.toList:=by simpa using Array.mem_of_getElem? ht
        exact (show Tryd.prog.wantsStandIn t=false by simpa using List.all_eq_true.1 hall t hm)⟩)
    (by kernel_rfl)
end Go.Proofs.YtcebebhaahpoiaaDoor
end
#print axioms Go.Proofs.YtcebebhaahpoiaaDoor.plantcheapest_card
