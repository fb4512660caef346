/- PlantCheapest: for every plant, schedule, and change of it the law answers true and turns nothing, with no condition. Part 1 of 5. -/
import Derived.TacticsIn
import Derived.OrdersIn
import Derived.Test.YtcebebhaahpoiaaDoorE0
set_option maxHeartbeats 2000000
set_option linter.unusedSimpArgs false
set_option linter.unusedVariables false
set_option linter.deprecated false
set_option linter.all false
section
namespace Go.Ai
open Go
def AObj.under (n:Nat):AObj→Bool
  | .cells cs=>underL n cs
  | .map _ _ es=>es.all (entUnder n)
  | .iter m _ rest last=>decide (m < n) && rest.all (entUnder n) && (match last with | some p=>entUnder n p | none=>true)
  | .loop ρ _ _ _ _ _=>underL n ρ
section
variable {P:Program} {G:Gh} {H:List AObj} {w:World}
theorem take_get {n b:Nat} (h:b < n):(H.take n)[b]?=H[b]?:=by rw [List.getElem?_take,if_pos h]
theorem Stable.cut {n:Nat} {c:Nat} (h:Stable G H.length w c):Stable G (H.take n).length w c :=
  ⟨h.1,fun b hb=>h.2 b (by have:=List.length_take_le' n H; omega)⟩
theorem VR.cut {n:Nat} (hn:n≤H.length) {x:AV} {u:Value} (h:VR G H w x u):x.under n=true→VR G (H.take n) w x u:=by
  have hlen:(H.take n).length=n:=by rw [List.length_take]; omega
  induction h with
  | pure x u h=>exact fun _=>.pure x u (h.monoC fun c hc=>⟨hc.cut,fun _ _ hv=>hv⟩)
  | agg cs us hl _ ih=>exact fun hu=>.agg cs us hl fun i x u hx hu'=>ih i x u hx hu' (underL_get (by simpa [AV.under] using hu) hx)
  | tup cs us hl _ ih=>exact fun hu=>.tup cs us hl fun i x u hx hu'=>ih i x u hx hu' (underL_get (by simpa [AV.under] using hu) hx)
  | iface t x u _ ih=>exact fun hu=>.iface t x u (ih (by simpa [AV.under] using hu))
  | fn f cs us hl _ ih=>exact fun hu=>.fn f cs us hl fun i x u hx hu'=>ih i x u hx hu' (underL_get (by simpa [AV.under] using hu) hx)
  | ptr b off ver a hb hv h =>
    intro hu
    have hbn:b < n:=by simpa [AV.under] using hu
    exact .ptr b off ver a (by rw [hlen]; exact hbn) (fun cs hc=>hv cs (by rwa [take_get hbn] at hc)) (fun cs hc=>h cs (by rwa [take_get hbn] at hc))
  | sref b off len ver sz a cap hb hv h =>
    intro hu
    have hbn:b < n:=by simpa [AV.under] using hu
    exact .sref b off len ver sz a cap (by rw [hlen]; exact hbn) (fun cs hc=>hv cs (by rwa [take_get hbn] at hc)) (fun cs hc=>h cs (by rwa [take_get hbn] at hc))
  | vptr cs off c o f hS hc hv=>exact fun _=>.vptr cs off c o f hS.cut hc fun j x hx=>(hv j x hx).monoC fun c hc=>⟨hc.cut,fun _ _ hv=>hv⟩
  | map b c hb h =>
    intro hu
    have hbn:b < n:=by simpa [AV.under] using hu
    exact .map b c (by rw [hlen]; exact hbn) (fun t v es hc=>h t v es (by rwa [take_get hbn] at hc))
  | yield l c hb h =>
    intro hu
    have hbn:l < n:=by simpa [AV.under] using hu
    exact .yield l c (by rw [hlen]; exact hbn) (fun ρ ps x y r j hc=>h ρ ps x y r j (by rwa [take_get hbn] at hc))
  | iter b c hb h =>
    intro hu
    have hbn:b < n:=by simpa [AV.under] using hu
    exact .iter b c (by rw [hlen]; exact hbn) (fun m v r l hc=>h m v r l (by rwa [take_get hbn] at hc))
theorem OR.under {b:Nat} {o:AObj} (h:OR P G H w b o):o.under H.length=true:=by
  cases o with
  | cells cs =>
    rcases h with ⟨_,h⟩ | ⟨c,C,e,_,_,_,_,h⟩
    · exact h
    · simp only [AObj.under]
      refine underL_all.2 fun x hx=>?_
      obtain ⟨i,hi⟩:=List.mem_iff_getElem?.1 hx
      obtain ⟨_,u,_,hv⟩:=h i x hi
      exact hv.under
  | map t v es =>
    obtain ⟨c,E,clock,_,_,_,h,_⟩:=h
    simp only [AObj.under,List.all_eq_true]
    intro p hp
    obtain ⟨i,hi⟩:=List.mem_iff_getElem?.1 hp
    obtain ⟨_,e,_,h1,h2⟩:=h i p.1 p.2 hi
    simp [entUnder,h1.under,h2.under]
  | loop ρ ps x y r j =>
    obtain ⟨c,L,_,_,_,_,hl,h,_⟩:=h
    simp only [AObj.under]
    refine underL_all.2 fun x hx=>?_
    obtain ⟨i,hi⟩:=List.mem_iff_getElem?.1 hx
    obtain ⟨u,_,hv⟩:=h i x hi
    exact hv.under
  | iter m ver rest last =>
    obtain ⟨h1,h2,c,cm,since,seen,stepped,_,_,h3,_⟩:=h
    simp only [AObj.under,Bool.and_eq_true,decide_eq_true_eq]
    refine ⟨⟨h3,h1⟩,?_⟩
    cases last with
    | none=>rfl
    | some p=>exact h2 p rfl
theorem R.cut (hR:R P G H w) {n:Nat} (hn:n≤H.length) (hu:∀ b o,b < n→H[b]?=some o→o.under n=true):R P G (H.take n) w:=by
  have hlen:(H.take n).length=n:=by rw [List.length_take]; omega
  refine ⟨fun b b' c hb hb'=>hR.inj b b' c (by omega) (by omega),fun b c hb=>hR.lt b c (by omega),fun b o hb=>?_⟩
  have hbn:b < n:=by have:=lt_of_get hb; omega
  rw [take_get hbn] at hb
  have hou:=hu b o hbn hb
  have ho:=hR.obj b o hb
  cases o with
  | cells cs =>
    rcases ho with ⟨h,_⟩ | ⟨c,C,e,h1,h2,h3,h4,h5⟩
    · exact .inl ⟨h,by rw [hlen]; exact hou⟩
    · refine .inr ⟨c,C,e,h1,h2,h3,h4,fun i x hx=>?_⟩
      obtain ⟨q1,u,q2,q3⟩:=h5 i x hx
      exact ⟨q1,u,q2,q3.cut hn (underL_get hou hx)⟩
  | map t v es =>
    obtain ⟨c,E,clock,h1,h2,h3,h4,h5,h6⟩:=ho
    refine ⟨c,E,clock,h1,h2,h3,fun i k v hk=>?_,h5,h6⟩
    obtain ⟨q,e,q1,q2,q3⟩:=h4 i k v hk
    have hp:=List.all_eq_true.1 hou (k,v) (List.mem_of_getElem? hk)
    simp only [entUnder,Bool.and_eq_true] at hp
    exact ⟨q,e,q1,q2.cut hn hp.1,q3.cut hn hp.2⟩
  | iter m ver rest last =>
    obtain ⟨hu1,hu2,c,cm,since,seen,stepped,h1,h2,h3,h4,h5⟩:=ho
    simp only [AObj.under,Bool.and_eq_true,decide_eq_true_eq] at hou
    obtain ⟨⟨hm,hr⟩,hl⟩:=hou
    refine ⟨by rw [hlen]; exact hr,fun p hp=>by rw [hlen]; subst hp; exact hl,c,cm,since,seen,stepped,h1,h2,by rw [hlen]; exact hm,fun t v es he=>h4 t v es (by rwa [take_get hm] at he),fun t es he=>?_⟩
    obtain ⟨E,r1,r2,r3,r4,r5⟩:=h5 t es (by rwa [take_get hm] at he)
    refine ⟨E,r1,r2,r3,fun i k v hk=>?_,fun k v hk=>?_⟩
    · obtain ⟨e,q1,q2,q3⟩:=r4 i k v hk
      have hp:=List.all_eq_true.1 hr (k,v) (List.mem_of_getElem? hk)
      simp only [entUnder,Bool.and_eq_true] at hp
      exact ⟨e,q1,q2.cut hn hp.1,q3.cut hn hp.2⟩
    · obtain ⟨s,e,q1,q2,q3,q4⟩:=r5 k v hk
      subst hk
      simp only [entUnder,Bool.and_eq_true] at hl
      exact ⟨s,e,q1,q2,q3.cut hn hl.1,q4.cut hn hl.2⟩
  | loop ρ ps x y r j =>
    obtain ⟨c,L,h1,h2,h3,h4,h5,h6,h7⟩:=ho
    refine ⟨c,L,h1,h2,h3,h4,h5,fun i x hx=>?_,h7⟩
    obtain ⟨u,q1,q2⟩:=h6 i x hx
    exact ⟨u,q1,q2.cut hn (underL_get hou hx)⟩
theorem Ext.cut {G':Gh} {H':List AObj} {w':World} (a:Ext G H w G' H' w'):Ext G H w G' (H'.take H.length) w':=by
  have hl:=a.len
  have hlen:(H'.take H.length).length=H.length:=by rw [List.length_take]; omega
  refine ⟨⟨by omega,a.os,a.tape,a.output,a.size,fun c hc=>⟨(a.stable c hc).1.cut,(a.stable c hc).2⟩,fun b cs h=>?_,fun b t v es h=>?_,fun b m v r l h=>?_,fun b ρ ps x y r j h=>?_⟩,fun b cs cs' h h' e h0=>?_⟩
  · obtain ⟨cs',h1,h2⟩:=a.cells b cs h
    exact ⟨cs',by rw [take_get (lt_of_get h)]; exact h1,h2⟩
  · obtain ⟨v',es',h1,h2⟩:=a.map b t v es h
    exact ⟨v',es',by rw [take_get (lt_of_get h)]; exact h1,h2⟩
  · obtain ⟨r',l',h1,h2⟩:=a.iter b m v r l h
    exact ⟨r',l',by rw [take_get (lt_of_get h)]; exact h1,h2⟩
  · obtain ⟨r',j',h1,h2⟩:=a.loop b ρ ps x y r j h
    exact ⟨r',j',by rw [take_get (lt_of_get h)]; exact h1,h2⟩
  · rw [take_get (lt_of_get h)] at h'
    exact a.kept b cs cs' h h' e h0
end
end Go.Ai
end
section
namespace Go.Ai
open Go
def Res.Safe {α:Type} (Q:α→Prop):Res α→Prop
  | .ok a=>Q a
  | .fail=>True
  | .pick n k=>∀ i,i < n→(k i).Safe Q
theorem Res.Safe.bind {α β:Type} {Q:α→Prop} {Q':β→Prop} {f:α→Res β}:∀ {r:Res α},r.Safe Q→(∀ a,Q a→(f a).Safe Q')→(r.bind f).Safe Q'
  | .ok a,h,hf=>hf a h
  | .fail,_,_=>trivial
  | .pick _ _,h,hf=>fun i hi=>Res.Safe.bind (h i hi) hf
theorem Res.Safe.mono {α:Type} {Q Q':α→Prop} (hq:∀ a,Q a→Q' a):∀ {r:Res α},r.Safe Q→r.Safe Q'
  | .ok a,h=>hq a h
  | .fail,_=>trivial
  | .pick _ _,h=>fun i hi=>Res.Safe.mono hq (h i hi)
theorem Res.All.mono {α:Type} {Q Q':α→Prop} (hq:∀ a,Q a→Q' a):∀ {r:Res α},r.All Q→r.All Q'
  | .ok a,h=>hq a h
  | .fail,h=>h.elim
  | .pick _ _,h=>⟨h.1,fun i hi=>Res.All.mono hq (h.2 i hi)⟩
theorem Res.All.and_safe {α:Type} {Q S:α→Prop}:∀ {r:Res α},r.All Q→r.Safe S→r.All (fun a=>Q a∧S a)
  | .ok _,h,hs=>⟨h,hs⟩
  | .fail,h,_=>h.elim
  | .pick _ _,h,hs=>⟨h.1,fun i hi=>Res.All.and_safe (h.2 i hi) (hs i hi)⟩
theorem Res.All.bind {α β:Type} {Q:β→Prop} {f:α→Res β}:∀ {r:Res α},(r.bind f).All Q↔r.All (fun a=>(f a).All Q)
  | .ok _=>Iff.rfl
  | .fail=>Iff.rfl
  | .pick _ _=>⟨fun h=>⟨h.1,fun i hi=>Res.All.bind.1 (h.2 i hi)⟩,fun h=>⟨h.1,fun i hi=>Res.All.bind.2 (h.2 i hi)⟩⟩
theorem Res.All.exists {α:Type} {Q:α→Prop}:∀ {r:Res α},r.All Q→∃ a,Q a
  | .ok a,h=>⟨a,h⟩
  | .fail,h=>h.elim
  | .pick _ _,h=>Res.All.exists (h.2 0 h.1)
def Below (n:Nat) (H:List AObj):Prop:=∀ b o,b < n→H[b]?=some o→o.under n=true
def Pres (n:Nat) (s s':St):Prop:=s.heap.length≤s'.heap.length∧(s'.leak=false→s.leak=false∧(Below n s.heap→Below n s'.heap))
theorem Pres.refl (n:Nat) (s:St):Pres n s s:=⟨Nat.le_refl _,fun h=>⟨h,id⟩⟩
theorem Pres.trans {n:Nat} {a b c:St} (h:Pres n a b) (k:Pres n b c):Pres n a c :=
  ⟨Nat.le_trans h.1 k.1,fun hl=>⟨(h.2 (k.2 hl).1).1,fun hb=>(k.2 hl).2 ((h.2 (k.2 hl).1).2 hb)⟩⟩
theorem Pres.push {n:Nat} {s:St} (o:AObj) (hn:n≤s.heap.length):Pres n s { s with heap:=s.heap ++ [o] } :=
  ⟨by simp,fun h=>⟨h,fun hb b o' hbn ho=>hb b o' hbn (by rwa [List.getElem?_append_left (by omega)] at ho)⟩⟩
theorem Pres.set {n:Nat} {s:St} {b:Nat} {o:AObj} {lk:Bool} (h:lk=false→s.leak=false∧(b < n→Below n s.heap→b < s.heap.length→o.under n=true)):Pres n s { heap:=s.heap.set b o,leak:=lk }:=by
  refine ⟨by simp,fun hl=>⟨(h hl).1,fun hb x o' hx ho=>?_⟩⟩
  dsimp only at ho
  by_cases e:x=b
  · subst e
    by_cases hxl:x < s.heap.length
    · rw [get_set_eq hxl] at ho
      cases ho
      exact (h hl).2 hx hb hxl
    · rw [List.getElem?_eq_none (by simp; omega)] at ho
      cases ho
  · rw [get_set_ne e] at ho
    exact hb x o' hx ho
mutual
theorem clean_under {n:Nat}:∀ {x:AV},x.clean=true→x.under n=true
  | .int ..,_ | .bool _,_ | .str _,_ | .slice ..,_ | .nilptr,_ | .nilmap,_ | .nilfn,_ | .nilIface,_ | .undef,_=>rfl
  | .agg cs,h=>by simp only [AV.clean,AV.under] at h ⊢; exact cleanL_under h
  | .iface _ v,h=>by simp only [AV.clean,AV.under] at h ⊢; exact clean_under h
theorem cleanL_under {n:Nat}:∀ {l:List AV},cleanL l=true→underL n l=true
  | [],_=>rfl
  | a :: l,h=>by simp only [cleanL,underL,Bool.and_eq_true] at h ⊢; exact ⟨clean_under h.1,cleanL_under h.2⟩
end
theorem setAt_under {n:Nat}:∀ (vs cs:List AV) (off:Nat),underL n cs=true→underL n vs=true→underL n (setAt cs off vs)=true
  | [],cs,off,h,_=>h
  | v :: vs,cs,off,h,hv=>by
    simp only [underL,Bool.and_eq_true] at hv
    refine setAt_under vs (cs.set off v) (off + 1) (underL_all.2 fun x hx=>?_) hv.2
    rcases List.mem_or_eq_of_mem_set hx with h1 | h1
    · exact underL_all.1 h x h1
    · rw [h1]; exact hv.1
theorem leaks_clean {base:Option Nat} {n b:Nat} {vs:List AV} (hb:∀ n1,base=some n1→n≤n1) (h:leaks base b vs=false) (hbn:b < n):cleanL vs=true:=by
  cases base with
  | none=>simpa [leaks] using h
  | some n1 =>
    have:=hb n1 rfl
    simp only [leaks,Bool.and_eq_false_iff,decide_eq_false_iff_not,Bool.not_eq_false'] at h
    rcases h with h | h
    · omega
    · exact h
theorem hasSh_clean {t:Sh} {x:AV} (h:hasSh t x=true):x.clean=true:=by
  have lst:∀ (ks:List KS) (l:List AV),fits ks l=true→cleanL l=true:=by
    intro ks
    induction ks with
    | nil=>intro l h; cases l with | nil=>rfl | cons _ _=>simp [fits] at h
    | cons k ks ih =>
      intro l h
      cases l with
      | nil=>cases k <;> simp [fits] at h
      | cons x l =>
        have h2:=fits_cons h
        simp only [cleanL,Bool.and_eq_true]
        refine ⟨?_,ih l h2.2⟩
        have h1:=h2.1
        cases k <;> cases x <;> simp [fits] at h1 <;> rfl
  cases x <;> simp only [hasSh,Bool.and_eq_true] at h <;> first
    | (have:=lst _ _ h.2; simpa [cleanL] using this)
    | (simpa [AV.clean] using lst _ _ h.2)
theorem Below.at {n:Nat} {H:List AObj} (h:Below n H) {b:Nat} (hb:b < n) {o:AObj} (ho:H[b]?=some o):o.under n=true:=h b o hb ho
theorem row_get {H:List AObj} {b ver:Nat} {cs:List AV} (h:row H b ver=some cs):H[b]?=some (.cells cs):=(row_some h).1
theorem putE_under {n:Nat} {k v:AV} {es:List (AV × AV)} (hk:k.under n=true) (hv:v.under n=true) (h:es.all (entUnder n)=true):(putE k v es).all (entUnder n)=true:=by
  have hp:entUnder n (k,v)=true:=by simp [entUnder,hk,hv]
  unfold putE
  split
  · refine List.all_eq_true.2 fun x hx=>?_
    rcases List.mem_or_eq_of_mem_set hx with h1 | h1
    · exact List.all_eq_true.1 h x h1
    · rw [h1]; exact hp
  · rw [List.all_append,h]; simp [hp]
theorem or_leak {a b:Bool} (h:(a || b)=false):a=false∧b=false:=by simpa using h
theorem evI_pres {base:Option Nat} {ρ:Regs} {s s':St} {i:AIns} {v:AV} {n:Nat} (he:evI base ρ s i=some (v,s')) (hn:n≤s.heap.length) (hb:∀ n1,base=some n1→n≤n1):Pres n s s':=by
  cases i <;> simp only [evI] at he
  case own=>cases he; exact Pres.push _ hn
  case alloc=>cases he; exact Pres.push _ hn
  case mkmap=>cases he; exact Pres.push _ hn
  case store m x y =>
    split at he
    · obtain ⟨cs,hrow,he⟩:=bind_some he
      split at he
      · cases he
        refine Pres.set fun hl=>?_
        obtain ⟨h1,h2⟩:=or_leak hl
        refine ⟨h1,fun hbn hB _=>?_⟩
        exact setAt_under _ _ _ (hB.at hbn (row_get hrow)) (cleanL_under (leaks_clean hb h2 hbn))
      · cases he
    · cases he
  case mupd sh m k x =>
    split at he
    · split at he
      · rename_i t ver es hbm
        split at he
        · rename_i hcond
          cases he
          simp only [Bool.and_eq_true] at hcond
          refine Pres.set fun hl=>?_
          obtain ⟨h1,h2⟩:=or_leak hl
          refine ⟨h1,fun hbn hB _=>?_⟩
          have hc:=leaks_clean hb h2 hbn
          simp only [cleanL,Bool.and_true] at hc
          exact putE_under (clean_under (hasSh_clean hcond.2)) (clean_under hc) (hB.at hbn hbm)
        · cases he
      · cases he
    · cases he
  case app size bytes x y =>
    obtain ⟨q,hq,he⟩:=bind_some he
    split at he
    · split at he
      · cases he; exact Pres.refl _ _
      · split at he
        · cases he; exact Pres.push _ hn
        · cases he
    · obtain ⟨cs,hrow,he⟩:=bind_some he
      by_cases h0:q.1=0
      · simp only [h0,if_true] at he; cases he; exact Pres.refl _ _
      · simp only [if_neg h0] at he
        split at he
        · cases he
          refine Pres.set fun hl=>?_
          obtain ⟨h1,h2⟩:=or_leak hl
          refine ⟨h1,fun hbn hB _=>?_⟩
          have hc:underL n q.2=true:=cleanL_under (leaks_clean hb h2 hbn)
          have hr:underL n cs=true:=hB.at hbn (row_get hrow)
          simp only [AObj.under,appRow]
          split
          · exact setAt_under _ _ _ hr hc
          · refine underL_all.2 fun x hx=>?_
            rcases List.mem_append.1 hx with h | h
            · exact underL_all.1 hr x (List.mem_of_mem_take h)
            · exact underL_all.1 hc x h
        · cases he
    · cases he
  case copy size x y =>
    obtain ⟨q,hq,he⟩:=bind_some he
    split at he
    · obtain ⟨cs,hrow,he⟩:=bind_some he
      split at he
      · cases he
        refine Pres.set fun hl=>?_
        obtain ⟨h1,h2⟩:=or_leak hl
        refine ⟨h1,fun hbn hB _=>?_⟩
        exact setAt_under _ _ _ (hB.at hbn (row_get hrow)) (cleanL_under (leaks_clean hb h2 hbn))
      · cases he
    · cases he
  all_goals (
    repeat' (first
      | (replace he:=bind_some he; obtain ⟨_,_,he⟩:=he)
      | split at he)
    all_goals first | (cases he; done) | (cases he; first | exact Pres.refl _ _ | exact Pres.push _ hn))
end Go.Ai
end
section
namespace Go.W
open Go Go.Ai
def oM {α:Type} (o:Option α) (f:α→Prop):Prop:=match o with
  | some a=>f a
  | none=>False
structure Env where
  P:AProg
  k:Nat
  base:Option Nat
def VC (E:Env) (f:FuncId) (args:List AV) (s:St) (K:AV→St→Prop):Prop :=
  (ev E.P E.k (.fn f) args s).All fun p=>match p.1 with | .val v=>K v p.2 | .panic _=>False
def YC (E:Env) (l:Nat) (args:List AV) (s:St) (K:AV→St→Prop):Prop :=
  (ev E.P E.k (.yield l) args s).All fun p=>match p.1 with | .val v=>K v p.2 | .panic _=>False
def VV (E:Env) (x:AV) (args:List AV) (s:St) (K:AV→St→Prop):Prop:=match x with
  | .fn f caps=>VC E f (args ++ caps) s K
  | .yield l=>YC E l args s K
  | _=>False
def push (s:St) (o:AObj):St:={ s with heap:=s.heap ++ [o] }
def VN (x : AV) (s:St) (K:AV→St→Prop):Prop:=match x with
  | .iter b=>match s.heap[b]? with
    | some (.iter m ver rest _)=>match s.heap[m]? with
      | some (.map _ ver' _)=>ver=ver'∧(rest=[]→K (.tup [.bool false]) s) ∧
          ∀ i k v,rest[i]?=some (k,v)→K (.tup [.bool true,k,v]) { s with heap:=s.heap.set b (.iter m ver (rest.eraseIdx i) (some (k,v))) }
      | _=>False
    | _=>False
  | _=>False
def vPick:AV→AV→AV→Option AV
  | .bool t,a,b=>some (if t then a else b)
  | _,_,_=>none
def vChk:AV→Option AV
  | .ptr b off ver=>some (.ptr b off ver)
  | .vptr cs off=>some (.vptr cs off)
  | .fn f cs=>some (.fn f cs)
  | .yield l=>some (.yield l)
  | _=>none
def vEqs (neg:Bool) (k:EqK) (x y:AV):Option AV:=(evEq k x y).bind fun t=>some (.bool (if neg then !t else t))
def vConv (k:IntKind):AV→Option AV
  | .int _ n=>some (.int k (k.wrap n))
  | _=>none
def vOff (o:Nat):AV→Option AV
  | .ptr b off ver=>some (.ptr b (off + o) ver)
  | .vptr cs off=>some (.vptr cs (off + o))
  | _=>none
def vFld (o:Nat) (agg:Option Nat):AV→Option AV
  | .agg cs=>rdc cs o agg
  | _=>none
def vIaddr (H:List AObj) (size:Nat) (arr:Option Nat) (x i:AV):Option AV:=match arr,x with
  | none,.slice _ sz es=>(idxOf es.length i).bind fun j=>(es[j]?).bind fun e=>if sz=size then some (.vptr e 0) else none
  | none,.sref b off len ver sz=>if sz=size then (row H b ver).bind fun _=>(idxOf len i).bind fun j=>some (.ptr b (off + j * size) ver) else none
  | some n,.ptr b off ver=>(idxOf n i).bind fun j=>some (.ptr b (off + j * size) ver)
  | some n,.vptr cs off=>(idxOf n i).bind fun j=>some (.vptr cs (off + j * size))
  | _,_=>none
def vAidx (size len:Nat) (agg:Option Nat) (x i:AV):Option AV:=match x with
  | .agg cs=>(idxOf len i).bind fun j=>rdc cs (j * size) agg
  | _=>none
def vSidx (x i:AV):Option AV:=match x with
  | .str t=>(idxOf t.size i).bind fun j=>(t.data[j]?).bind fun c=>some (.int .u8 c.toNat)
  | _=>none
def vSlc (H:List AObj) (size:Nat) (x:AV) (lo hi:Option AV):Option AV:=match x with
  | .slice full sz es=>if sz=size∨es=[] then (boundsOf es.length lo hi).bind fun p =>
      some (.slice (full && decide (p.2=es.length)) sz ((es.take p.2).drop p.1)) else none
  | .sref b off len ver sz=>if sz=size then (row H b ver).bind fun _=>(boundsOf len lo hi).bind fun p =>
      some (if p.1=p.2 then .slice false sz [] else .sref b (off + p.1 * size) (p.2 - p.1) ver sz) else none
  | _=>none
def vSslc (x:AV) (lo hi:Option AV):Option AV:=match x with
  | .str t=>(boundsOf t.size lo hi).bind fun p=>some (.str (t.extract p.1 p.2))
  | _=>none
def vLook (H:List AObj) (sh:Sh) (zero:AV) (ok:Bool) (m k:AV):Option AV :=
  if hasSh sh k then (mapSh H sh m).bind fun es =>
    some (if ok then .tup [(match findE k es 0 with | some q=>q.2 | none=>zero),.bool (findE k es 0).isSome] else (match findE k es 0 with | some q=>q.2 | none=>zero))
  else none
def vEntry (H:List AObj) (it:AV):Option AV:=match it with
  | .iter b=>match H[b]? with
    | some (.iter m ver _ (some (k,v)))=>match H[m]? with
      | some (.map _ ver' _)=>if ver=ver' then some (.tup [k,v]) else none
      | _=>none
    | _=>none
  | _=>none
def vExt (i:Nat):AV→Option AV
  | .tup vs=>vs[i]?
  | _=>none
def vLen (str:Bool) (x:AV):Option AV:=match str,x with
  | false,.slice _ _ es=>some (.int .i64 es.length)
  | false,.sref _ _ len _ _=>some (.int .i64 len)
  | true,.str t=>some (.int .i64 t.size)
  | _,_=>none
def vMlen (H:List AObj) (x:AV):Option AV:=(mapOf H x).bind fun es=>some (.int .i64 es.length)
def eBox (s:St) (n:Nat) (x:AV):Option (AV × St) :=
  if x.cells.length=n∧x.cells.all AV.one=true then some (.ptr s.heap.length 0 n,push s (.cells x.cells)) else none
def eLit (s:St) (size:Nat) (cells:List AV) (parts:List (Nat × Nat × AV)) (rw auto:Bool):Option (AV × St) :=
  (fillA cells parts).bind fun cs =>
    if cs.all AV.one=true then
      if rw || (auto && !cleanL cs) then some (.sref s.heap.length 0 (cs.length / size) cs.length size,push s (.cells cs))
      else if cleanL cs then some (.slice true size (chunk size (cs.length / size) cs),s) else none
    else none
def eStore (base:Option Nat) (s:St) (n:Nat) (x v:AV):Option St:=match x with
  | .ptr b off ver=>(row s.heap b ver).bind fun cs =>
      if v.cells.length=n∧off + n≤cs.length∧v.cells.all AV.one=true then
        some { heap:=s.heap.set b (.cells (setAt cs off v.cells)),leak:=s.leak || leaks base b v.cells }
      else none
  | _=>none
def eMupd (base:Option Nat) (s:St) (sh:Sh) (m k v:AV):Option St:=match m with
  | .map b=>match s.heap[b]? with
    | some (.map t ver es)=>if t.beq sh && hasSh sh k then
        some { heap:=s.heap.set b (.map t (ver + 1) (putE k v es)),leak:=s.leak || leaks base b [v] } else none
    | _=>none
  | _=>none
def eMksl (s:St) (size bytes:Nat) (zero:List AV) (n c:AV):Option (AV × St):=match n,c with
  | .int _ a,.int _ d=>if a=d∧0≤a∧a * bytes≤140737488355328 then
      some (.sref s.heap.length 0 a.toNat (a.toNat * size) size,push s (.cells ((List.replicate a.toNat zero).flatten))) else none
  | _,_=>none
def eRange (s:St) (m:AV):Option (AV × St):=match m with
  | .map b=>match s.heap[b]? with
    | some (.map _ ver es)=>some (.iter s.heap.length,push s (.iter b ver es none))
    | _=>none
  | _=>none
def eApp (base:Option Nat) (s:St) (size bytes:Nat) (x y:AV):Option (AV × St) :=
  (rowOf s.heap size y).bind fun q=>match x with
    | .slice full sz es =>
      if q.1=0 then some (.slice full sz es,s)
      else if full=true∧(sz=size∨es=[])∧(es.length + q.1) * bytes≤140737488355328∧es.flatten.length=es.length * size∧q.2.length=q.1 * size∧es.flatten.all AV.one=true∧q.2.all AV.one=true then
        some (.sref s.heap.length 0 (es.length + q.1) ((es.length + q.1) * size) size,push s (.cells (es.flatten ++ q.2)))
      else none
    | .sref b off len ver sz =>
      (row s.heap b ver).bind fun cs =>
      if q.1=0 then some (.sref b off len ver sz,s)
      else if off=0∧sz=size∧(len + q.1) * bytes≤140737488355328∧q.2.length=q.1 * size∧q.2.all AV.one=true∧len * size≤ver then
        some (.sref b 0 (len + q.1) (appRow cs q.2 (len * size) ver).length sz,{ heap:=s.heap.set b (.cells (appRow cs q.2 (len * size) ver)),leak:=s.leak || leaks base b q.2 })
      else none
    | _=>none
def eCopy (base:Option Nat) (s:St) (size:Nat) (x y:AV):Option (AV × St) :=
  (rowOf s.heap size y).bind fun q=>match x with
    | .sref b off len ver sz =>
      (row s.heap b ver).bind fun cs =>
      if sz=size∧q.2.length=q.1 * size∧(q.2.take (min q.1 len * size)).length=min q.1 len * size∧(q.2.take (min q.1 len * size)).all AV.one=true∧off + len * size≤ver then
        some (.int .i64 (min q.1 len:Nat),{ heap:=s.heap.set b (.cells (setAt cs off (q.2.take (min q.1 len * size)))),leak:=s.leak || leaks base b (q.2.take (min q.1 len * size)) })
      else none
    | _=>none
def wOp (E:Env) (i:AIns) (ρ:Regs) (s:St) (K:AV→St→Prop):Prop:=match i with
  | .mov x=>K (x.ev ρ) s
  | .own sz=>K (.sref s.heap.length 0 0 0 sz) (push s (.cells []))
  | .pick c a b=>oM (vPick (c.ev ρ) (a.ev ρ) (b.ev ρ)) fun v=>K v s
  | .alloc zero=>K (.ptr s.heap.length 0 zero.length) (push s (.cells zero))
  | .box n x=>oM (eBox s n (x.ev ρ)) fun p=>K p.1 p.2
  | .build zero parts=>oM (fillA zero (parts.map fun p=>(p.1,p.2.1,p.2.2.ev ρ))) fun cs=>K (.agg cs) s
  | .lit size cells parts rw auto=>oM (eLit s size cells (parts.map fun p=>(p.1,size,p.2.ev ρ)) rw auto) fun p=>K p.1 p.2
  | .load agg x=>oM (ld s.heap agg (x.ev ρ)) fun v=>K v s
  | .store n x v=>oM (eStore E.base s n (x.ev ρ) (v.ev ρ)) fun s'=>K .undef s'
  | .chk x=>oM (vChk (x.ev ρ)) fun v=>K v s
  | .bin op x y=>oM (evBin op (x.ev ρ) (y.ev ρ)) fun v=>K v s
  | .eqs neg k x y=>oM (vEqs neg k (x.ev ρ) (y.ev ρ)) fun v=>K v s
  | .un op x=>oM (evUn op (x.ev ρ)) fun v=>K v s
  | .conv k x=>oM (vConv k (x.ev ρ)) fun v=>K v s
  | .off o x=>oM (vOff o (x.ev ρ)) fun v=>K v s
  | .fld o agg x=>oM (vFld o agg (x.ev ρ)) fun v=>K v s
  | .iaddr size arr x i=>oM (vIaddr s.heap size arr (x.ev ρ) (i.ev ρ)) fun v=>K v s
  | .aidx size len agg x i=>oM (vAidx size len agg (x.ev ρ) (i.ev ρ)) fun v=>K v s
  | .sidx x i=>oM (vSidx (x.ev ρ) (i.ev ρ)) fun v=>K v s
  | .slc size x lo hi=>oM (vSlc s.heap size (x.ev ρ) (lo.map (·.ev ρ)) (hi.map (·.ev ρ))) fun v=>K v s
  | .sslc x lo hi=>oM (vSslc (x.ev ρ) (lo.map (·.ev ρ)) (hi.map (·.ev ρ))) fun v=>K v s
  | .look sh zero ok m k=>oM (vLook s.heap sh zero ok (m.ev ρ) (k.ev ρ)) fun v=>K v s
  | .mupd sh m k v=>oM (eMupd E.base s sh (m.ev ρ) (k.ev ρ) (v.ev ρ)) fun s'=>K .undef s'
  | .mkfn f caps=>K (.fn f (caps.map (·.ev ρ))) s
  | .mkmap sh=>K (.map s.heap.length) (push s (.map sh 0 []))
  | .mksl size bytes zero n c=>oM (eMksl s size bytes zero (n.ev ρ) (c.ev ρ)) fun p=>K p.1 p.2
  | .range m=>oM (eRange s (m.ev ρ)) fun p=>K p.1 p.2
  | .next it=>VN (it.ev ρ) s K
  | .entry it=>oM (vEntry s.heap (it.ev ρ)) fun v=>K v s
  | .ext i x=>oM (vExt i (x.ev ρ)) fun v=>K v s
  | .len str x=>oM (vLen str (x.ev ρ)) fun v=>K v s
  | .mlen x=>oM (vMlen s.heap (x.ev ρ)) fun v=>K v s
  | .alen n=>K (.int .i64 n) s
  | .app size bytes x y=>oM (eApp E.base s size bytes (x.ev ρ) (y.ev ρ)) fun p=>K p.1 p.2
  | .copy size x y=>oM (eCopy E.base s size (x.ev ρ) (y.ev ρ)) fun p=>K p.1 p.2
  | .minmax mx x ys=>oM (evMinMax mx (x.ev ρ) (ys.map (·.ev ρ))) fun v=>K v s
  | .iface t x=>K (.iface t (x.ev ρ)) s
  | .call f xs=>VC E f (xs.map (·.ev ρ)) s K
  | .callv x xs=>VV E (x.ev ρ) (xs.map (·.ev ρ)) s K
  | .panic _=>False
def gO (c:AV) (b:Bool) (s:St) (X:(AV→St→Prop)→Prop) (K:AV→St→Prop):Prop :=
  match c with
  | .bool t=>if t=b then X K else K .undef s
  | _=>K .undef s
def wGd (E:Env) (o:AOp) (ρ:Regs) (s:St) (K:AV→St→Prop):Prop:=match o.guard with
  | none=>wOp E o.ins ρ s K
  | some g=>gO (ρ.getD g.1 .undef) g.2 s (wOp E o.ins ρ s) K
def wOps (E:Env):List AOp→Regs→St→(AExit→Regs→St→Prop)→Prop
  | [],ρ,s,Q=>Q .normal ρ s
  | o :: rest,ρ,s,Q=>wGd E o ρ s fun v s'=>wOps E rest (put ρ o.dst v) s' Q
def wTr (E:Env):List AOp→Regs→St→List (List AObj)→(Regs→St→List (List AObj)→Prop)→Prop
  | [],ρ,s,hs,Q=>Q ρ s hs
  | ⟨_,.alloc _,_⟩ :: rest,ρ,s,hs,Q=>wTr E rest ρ s hs Q
  | o :: rest,ρ,s,hs,Q=>wGd E o ρ s fun v s'=>wTr E rest (put ρ o.dst v) s' (if o.ins.eff then hs ++ [s'.heap] else hs) Q
def wChk (base:Option Nat) (ρ:Regs) (ops:List AOp) (hs:List (List AObj)):List (Nat × Nat × Nat)→Prop→Prop
  | [],X=>X
  | (j,lo,hi) :: rest,X=>oM (ops[j]?) (fun o=>chkRead base ρ o ((hs.take (hi + 1)).drop lo)=true)∧wChk base ρ ops hs rest X
def sK (W:Regs→St→(AExit→Regs→St→Prop)→Prop) (Q:AExit→Regs→St→Prop):AExit→Regs→St→Prop
  | .normal,ρ,s=>W ρ s Q
  | .exit i,ρ,s=>Q (.exit i) ρ s
  | .ret,ρ,s=>Q .ret ρ s
  | .panic v,ρ,s=>Q (.panic v) ρ s
def bK (id:Nat) (Q:AExit→Regs→St→Prop):AExit→Regs→St→Prop
  | .normal,ρ,s=>Q .normal ρ s
  | .exit i,ρ,s=>if i=id then Q .normal ρ s else Q (.exit i) ρ s
  | .ret,ρ,s=>Q .ret ρ s
  | .panic v,ρ,s=>Q (.panic v) ρ s
def cM (c:AV) (T F:Prop):Prop:=match c with
  | .bool t=>if t=true then T else F
  | _=>False
def wLoop (W:Regs→St→(AExit→Regs→St→Prop)→Prop):Nat→Regs→St→(AExit→Regs→St→Prop)→Prop
  | 0,_,_,_=>False
  | n + 1,ρ,s,Q=>W ρ s (sK (wLoop W n) Q)
def WC (E:Env):ACode→Regs→St→(AExit→Regs→St→Prop)→Prop
  | .skip,ρ,s,Q=>Q .normal ρ s
  | .reg ops,ρ,s,Q=>wOps E ops ρ s Q
  | .draw ops chk,ρ,s,Q=>wTr E ops (hoist ops ρ s.heap).1 { s with heap:=(hoist ops ρ s.heap).2 } [(hoist ops ρ s.heap).2] fun ρ' s' hs=>wChk E.base ρ' ops hs chk (Q .normal ρ' s')
  | .seq a b,ρ,s,Q=>WC E a ρ s (sK (WC E b) Q)
  | .cond c t e,ρ,s,Q=>cM (c.ev ρ) (WC E t ρ s Q) (WC E e ρ s Q)
  | .block id b,ρ,s,Q=>WC E b ρ s (bK id Q)
  | .loop b,ρ,s,Q=>wLoop (WC E b) E.k ρ s Q
  | .exit id,ρ,s,Q=>Q (.exit id) ρ s
  | .ret,ρ,s,Q=>Q .ret ρ s
  | .rangeF g ps assign body,ρ,s,Q=>(evCode (ev E.P E.k) E.base E.k (.rangeF g ps assign body) ρ s).All fun r=>Q r.1 r.2.1 r.2.2
theorem oM_mono {α:Type} {o:Option α} {f g:α→Prop} (h:∀ a,f a→g a) (hf:oM o f):oM o g:=by
  cases o with
  | none=>exact hf
  | some a=>exact h a hf
theorem oM_get {α:Type} {o:Option α} {f:α→Prop} (h:oM o f):∃ a,o=some a∧f a:=by
  cases o with
  | none=>exact h.elim
  | some a=>exact ⟨a,rfl,h⟩
theorem VC_mono {E f args s} {K K':AV→St→Prop} (h:∀ v s,K v s→K' v s) (hv:VC E f args s K):VC E f args s K' :=
  Res.All.mono (fun p hp=>by
    cases h1:p.1 with
    | val v=>rw [h1] at hp; exact h _ _ hp
    | panic v=>rw [h1] at hp; exact hp.elim) hv
theorem YC_mono {E l args s} {K K':AV→St→Prop} (h:∀ v s,K v s→K' v s) (hv:YC E l args s K):YC E l args s K' :=
  Res.All.mono (fun p hp=>by
    cases h1:p.1 with
    | val v=>rw [h1] at hp; exact h _ _ hp
    | panic v=>rw [h1] at hp; exact hp.elim) hv
theorem wOp_mono {E:Env} {i:AIns} {ρ s} {K K':AV→St→Prop} (h:∀ v s,K v s→K' v s) (hw:wOp E i ρ s K):wOp E i ρ s K':=by
  cases i <;> simp only [wOp] at hw ⊢
  case mov=>exact h _ _ hw
  case own=>exact h _ _ hw
  case alloc=>exact h _ _ hw
  case mkfn=>exact h _ _ hw
  case mkmap=>exact h _ _ hw
  case alen=>exact h _ _ hw
  case iface=>exact h _ _ hw
  case call=>exact VC_mono h hw
  case callv =>
    unfold VV at hw ⊢
    split at hw
    · exact VC_mono h hw
    · exact YC_mono h hw
    · exact hw.elim
  case next =>
    unfold VN at hw ⊢
    split at hw
    · split at hw
      · split at hw
        · exact ⟨hw.1,fun q=>h _ _ (hw.2.1 q),fun i k v q=>h _ _ (hw.2.2 i k v q)⟩
        · exact hw.elim
      · exact hw.elim
    · exact hw.elim
  all_goals exact oM_mono (fun _ q=>h _ _ q) hw
theorem gO_mono {c b s} {X:(AV→St→Prop)→Prop} (hX:∀ K K':AV→St→Prop,(∀ v s,K v s→K' v s)→X K→X K') {K K':AV→St→Prop} (h:∀ v s,K v s→K' v s) (hw:gO c b s X K):gO c b s X K':=by
  unfold gO at hw ⊢
  split at hw
  · split at hw
    · rename_i q; simp only [q,if_true]; exact hX _ _ h hw
    · rename_i q; simp only [q,if_false]; exact h _ _ hw
  · exact h _ _ hw
theorem wGd_mono {E:Env} {o:AOp} {ρ s} {K K':AV→St→Prop} (h:∀ v s,K v s→K' v s) (hw:wGd E o ρ s K):wGd E o ρ s K':=by
  unfold wGd at hw ⊢
  split at hw
  · exact wOp_mono h hw
  · exact gO_mono (fun K K' q=>wOp_mono q) h hw
theorem wOps_mono {E:Env}:∀ {ops:List AOp} {ρ s} {Q Q':AExit→Regs→St→Prop},(∀ e ρ s,Q e ρ s→Q' e ρ s)→wOps E ops ρ s Q→wOps E ops ρ s Q'
  | [],_,_,_,_,h,hw=>h _ _ _ hw
  | _ :: _,_,_,_,_,h,hw=>wGd_mono (fun _ _ q=>wOps_mono h q) hw
theorem wTr_cons {E:Env} {o:AOp} {rest:List AOp} {ρ s hs Q} (ha:∀ z,o.ins ≠ .alloc z):wTr E (o :: rest) ρ s hs Q=wGd E o ρ s fun v s'=>wTr E rest (put ρ o.dst v) s' (if o.ins.eff then hs ++ [s'.heap] else hs) Q:=by
  obtain ⟨d,i,g⟩:=o
  cases i <;> first | rfl | exact absurd rfl (ha _)
theorem wTr_mono {E:Env} {ops:List AOp} {Q Q':Regs→St→List (List AObj)→Prop} (h:∀ ρ s hs,Q ρ s hs→Q' ρ s hs):∀ {ρ s hs},wTr E ops ρ s hs Q→wTr E ops ρ s hs Q':=by
  induction ops with
  | nil=>intro ρ s hs hw; exact h _ _ _ hw
  | cons o rest ih =>
    intro ρ s hs hw
    by_cases ha:∃ z,o.ins=.alloc z
    · obtain ⟨z,hz⟩:=ha
      obtain ⟨d,i,g⟩:=o
      dsimp only at hz
      subst hz
      exact ih (show wTr E rest ρ s hs Q from hw)
    · have ha':∀ z,o.ins ≠ .alloc z:=fun z hz=>ha ⟨z,hz⟩
      rw [wTr_cons ha'] at hw ⊢
      exact wGd_mono (fun _ _ q=>ih q) hw
theorem wChk_mono {base ρ ops hs} {X Y:Prop} (h:X→Y):∀ {l:List (Nat × Nat × Nat)},wChk base ρ ops hs l X→wChk base ρ ops hs l Y
  | [],hx=>h hx
  | (_,_,_) :: _,hx=>⟨hx.1,wChk_mono h hx.2⟩
theorem sK_mono {W:Regs→St→(AExit→Regs→St→Prop)→Prop} {Q Q':AExit→Regs→St→Prop} (hW:∀ ρ s,W ρ s Q→W ρ s Q') (h:∀ e ρ s,Q e ρ s→Q' e ρ s):∀ e ρ s,sK W Q e ρ s→sK W Q' e ρ s:=by
  intro e ρ s hq
  cases e <;> first | exact hW _ _ hq | exact h _ _ _ hq
theorem bK_mono {i} {Q Q':AExit→Regs→St→Prop} (h:∀ e ρ s,Q e ρ s→Q' e ρ s):∀ e ρ s,bK i Q e ρ s→bK i Q' e ρ s:=by
  intro e ρ s hq
  cases e <;> first | exact h _ _ _ hq | (simp only [bK] at hq ⊢; split at hq <;> simp_all)
theorem wLoop_mono {W:Regs→St→(AExit→Regs→St→Prop)→Prop} (hW:∀ ρ s Q Q',(∀ e ρ s,Q e ρ s→Q' e ρ s)→W ρ s Q→W ρ s Q'):∀ {n ρ s} {Q Q':AExit→Regs→St→Prop},(∀ e ρ s,Q e ρ s→Q' e ρ s)→wLoop W n ρ s Q→wLoop W n ρ s Q'
  | 0,_,_,_,_,_,hw=>hw
  | _ + 1,_,_,_,_,h,hw=>hW _ _ _ _ (sK_mono (fun _ _ q=>wLoop_mono hW h q) h) hw
theorem WC_mono {E:Env}:∀ {c:ACode} {ρ s} {Q Q':AExit→Regs→St→Prop},(∀ e ρ s,Q e ρ s→Q' e ρ s)→WC E c ρ s Q→WC E c ρ s Q'
  | .skip,_,_,_,_,h,hw | .exit _,_,_,_,_,h,hw | .ret,_,_,_,_,h,hw=>h _ _ _ hw
  | .reg _,_,_,_,_,h,hw=>wOps_mono h hw
  | .draw _ _,_,_,_,_,h,hw=>wTr_mono (fun _ _ _ q=>wChk_mono (h _ _ _) q) hw
  | .seq a b,_,_,_,_,h,hw=>WC_mono (c:=a) (sK_mono (fun _ _ q=>WC_mono (c:=b) h q) h) hw
  | .block _ b,_,_,_,_,h,hw=>WC_mono (c:=b) (bK_mono h) hw
  | .loop b,_,_,_,_,h,hw=>wLoop_mono (W:=WC E b) (fun _ _ _ _ q r=>WC_mono (c:=b) q r) h hw
  | .cond c t e,ρ,s,Q,Q',h,hw=>by
    simp only [WC,cM] at hw ⊢
    split at hw
    · split at hw
      · rename_i q; simp only [q,if_true]; exact WC_mono (c:=t) h hw
      · rename_i q; simp only [q]; exact WC_mono (c:=e) h hw
    · exact hw.elim
  | .rangeF _ _ _ _,_,_,_,_,h,hw=>Res.All.mono (fun _ q=>h _ _ _ q) hw
theorem bind_get {α β:Type} {o:Option α} {g:α→Option β} {a:α} {b:β} (h1:o=some a) (h2:g a=some b):o.bind g=some b:=by rw [h1]; exact h2
theorem wOp_evI {E:Env} {i:AIns} {ρ s} {K:AV→St→Prop} (hc:∀ f xs,i ≠ .call f xs) (hv:∀ x xs,i ≠ .callv x xs) (hn:∀ x,i ≠ .next x) (hw:wOp E i ρ s K):∃ v s',evI E.base ρ s i=some (v,s')∧K v s':=by
  cases i <;> simp only [wOp] at hw
  case mov=>exact ⟨_,_,rfl,hw⟩
  case own=>exact ⟨_,_,rfl,hw⟩
  case alloc=>exact ⟨_,_,rfl,hw⟩
  case mkfn=>exact ⟨_,_,rfl,hw⟩
  case mkmap=>exact ⟨_,_,rfl,hw⟩
  case alen=>exact ⟨_,_,rfl,hw⟩
  case iface=>exact ⟨_,_,rfl,hw⟩
  case call=>exact absurd rfl (hc _ _)
  case callv=>exact absurd rfl (hv _ _)
  case next=>exact absurd rfl (hn _)
  all_goals
    obtain ⟨a,ha,hk⟩:=oM_get hw
  case load | bin | un | build | minmax=>exact ⟨_,_,bind_get ha rfl,hk⟩
  case box | lit | mksl | range | app | copy=>exact ⟨_,_,ha,hk⟩
  case pick=>refine ⟨a,s,?_,hk⟩; simp only [evI]; unfold vPick at ha; split at ha <;> (try cases ha) <;> (rename_i q; rw [q])
  case store =>
    unfold eStore at ha
    split at ha
    · rename_i q
      refine ⟨.undef,a,?_,hk⟩
      simp only [evI,q]
      obtain ⟨cs,h1,h2⟩:=Option.bind_eq_some_iff.1 ha
      rw [h1]
      simp only [Option.bind_some]
      split at h2
      · rename_i q2
        rw [if_pos q2]
        simp at h2
        rw [h2]
      · cases h2
    · cases ha
  case mupd =>
    refine ⟨.undef,a,?_,hk⟩
    unfold eMupd at ha
    simp only [evI]
    split at ha
    · rename_i q
      rw [q]
      dsimp only
      split at ha
      · rename_i q2
        rw [q2]
        dsimp only
        split at ha
        · rename_i q3; rw [if_pos q3]; simp at ha; rw [ha]
        · cases ha
      · cases ha
    · cases ha
  case chk=>refine ⟨a,s,?_,hk⟩; simp only [evI]; unfold vChk at ha; split at ha <;> (try cases ha) <;> (rename_i q; rw [q])
  case eqs =>
    refine ⟨a,s,?_,hk⟩
    unfold vEqs at ha
    obtain ⟨t,h1,h2⟩:=Option.bind_eq_some_iff.1 ha
    simp only [evI,h1,Option.bind_some]
    simp at h2
    rw [← h2]
  case conv=>refine ⟨a,s,?_,hk⟩; simp only [evI]; unfold vConv at ha; split at ha <;> (try cases ha) <;> (rename_i q; rw [q])
  case off=>refine ⟨a,s,?_,hk⟩; simp only [evI]; unfold vOff at ha; split at ha <;> (try cases ha) <;> (rename_i q; rw [q])
  case fld =>
    unfold vFld at ha
    split at ha
    · rename_i q; exact ⟨a,s,by simp only [evI,q]; exact bind_get ha rfl,hk⟩
    · cases ha
  case iaddr =>
    refine ⟨a,s,?_,hk⟩
    unfold vIaddr at ha
    simp only [evI]
    split at ha
    · rename_i q
      rw [q]
      obtain ⟨j,h1,ha⟩:=Option.bind_eq_some_iff.1 ha
      obtain ⟨e,h2,ha⟩:=Option.bind_eq_some_iff.1 ha
      simp only [h1,h2,Option.bind_some]
      split at ha
      · rename_i q2; simp at ha; rw [if_pos q2,ha]
      · cases ha
    · rename_i q
      rw [q]
      dsimp only
      split at ha
      · rename_i q2
        rw [if_pos q2]
        obtain ⟨j,h1,ha⟩:=Option.bind_eq_some_iff.1 ha
        obtain ⟨e,h2,ha⟩:=Option.bind_eq_some_iff.1 ha
        simp at ha
        simp only [h1,h2,Option.bind_some,ha]
      · cases ha
    · rename_i q
      rw [q]
      obtain ⟨j,h1,ha⟩:=Option.bind_eq_some_iff.1 ha
      simp at ha
      simp only [h1,Option.bind_some,ha]
    · rename_i q
      rw [q]
      obtain ⟨j,h1,ha⟩:=Option.bind_eq_some_iff.1 ha
      simp at ha
      simp only [h1,Option.bind_some,ha]
    · cases ha
  case aidx =>
    refine ⟨a,s,?_,hk⟩
    unfold vAidx at ha
    split at ha
    · rename_i q
      obtain ⟨j,h1,ha⟩:=Option.bind_eq_some_iff.1 ha
      simp only [evI,q,h1,Option.bind_some,ha]
    · cases ha
  case sidx =>
    refine ⟨a,s,?_,hk⟩
    unfold vSidx at ha
    split at ha
    · rename_i q
      obtain ⟨j,h1,ha⟩:=Option.bind_eq_some_iff.1 ha
      obtain ⟨e,h2,ha⟩:=Option.bind_eq_some_iff.1 ha
      simp at ha
      simp only [evI,q,h1,h2,Option.bind_some,ha]
    · cases ha
  case slc =>
    refine ⟨a,s,?_,hk⟩
    unfold vSlc at ha
    split at ha
    · rename_i q
      split at ha
      · rename_i q2
        obtain ⟨j,h1,ha⟩:=Option.bind_eq_some_iff.1 ha
        simp at ha
        simp only [evI,q,if_pos q2,h1,Option.bind_some,ha]
      · cases ha
    · rename_i q
      split at ha
      · rename_i q2
        obtain ⟨j,h1,ha⟩:=Option.bind_eq_some_iff.1 ha
        obtain ⟨e,h2,ha⟩:=Option.bind_eq_some_iff.1 ha
        simp at ha
        simp only [evI,q,if_pos q2,h1,h2,Option.bind_some,ha]
      · cases ha
    · cases ha
  case sslc =>
    refine ⟨a,s,?_,hk⟩
    unfold vSslc at ha
    split at ha
    · rename_i q
      obtain ⟨j,h1,ha⟩:=Option.bind_eq_some_iff.1 ha
      simp at ha
      simp only [evI,q,h1,Option.bind_some,ha]
    · cases ha
  case look =>
    refine ⟨a,s,?_,hk⟩
    unfold vLook at ha
    split at ha
    · rename_i q
      obtain ⟨j,h1,ha⟩:=Option.bind_eq_some_iff.1 ha
      simp only [Option.some.injEq] at ha
      simp only [evI,if_pos q,h1,Option.bind_some,← ha]
      rfl
    · cases ha
  case entry =>
    refine ⟨a,s,?_,hk⟩
    unfold vEntry at ha
    simp only [evI]
    split at ha
    · rename_i q
      rw [q]
      dsimp only
      split at ha
      · rename_i q2
        rw [q2]
        dsimp only
        split at ha
        · rename_i q3
          rw [q3]
          dsimp only
          split at ha
          · rename_i q4; simp at ha; rw [if_pos q4,ha]
          · cases ha
        · cases ha
      · cases ha
    · cases ha
  case ext =>
    refine ⟨a,s,?_,hk⟩
    unfold vExt at ha
    split at ha
    · rename_i q; simp only [evI,q,ha,Option.bind_some]
    · cases ha
  case len=>refine ⟨a,s,?_,hk⟩; simp only [evI]; unfold vLen at ha; split at ha <;> (try cases ha) <;> (rename_i q; rw [q])
  case mlen =>
    refine ⟨a,s,?_,hk⟩
    unfold vMlen at ha
    obtain ⟨j,h1,ha⟩:=Option.bind_eq_some_iff.1 ha
    simp at ha
    simp only [evI,h1,Option.bind_some,ha]
section
variable {E:Env}
theorem all_val {x:Res (Ret × St)} {K:AV→St→Prop} {α:Type} {f:Ret × St→Res α} {Q:α→Prop} (h:x.All fun p=>match p.1 with | .val v=>K v p.2 | .panic _=>False) (hf:∀ v s,K v s→(f (.val v,s)).All Q):(x.bind f).All Q :=
  Res.All.bind.2 (Res.All.mono (fun p hp=>by
    obtain ⟨r,s⟩:=p
    cases r with
    | val v=>exact hf v s hp
    | panic v=>exact hp.elim) h)
theorem evOp_of {o : AOp} {ρ s} {Q:AExit × Regs × St→Prop} (hw:wGd E o ρ s fun v s'=>Q (.normal,put ρ o.dst v,s')):(evOp (ev E.P E.k) E.base o ρ s).All Q:=by
  unfold evOp
  unfold wGd at hw
  have core : wOp E o.ins ρ s (fun v s'=>Q (.normal,put ρ o.dst v,s'))→wanted ρ o.guard=true→(evOp (ev E.P E.k) E.base o ρ s).All Q:=by
    intro hw hwt
    unfold evOp
    rw [if_pos hwt]
    by_cases hc:∃ f xs,o.ins=.call f xs
    · obtain ⟨f,xs,hi⟩:=hc
      rw [hi] at hw ⊢
      exact all_val (K:=fun v s'=>Q (.normal,put ρ o.dst v,s')) (by simpa only [wOp,VC] using hw) (fun v s h=>h)
    · by_cases hv : ∃ x xs,o.ins=.callv x xs
      · obtain ⟨x,xs,hi⟩:=hv
        rw [hi] at hw ⊢
        simp only [wOp,VV] at hw
        dsimp only
        split at hw
        · rename_i q; rw [q]; unfold VC at hw; exact all_val hw (fun v s h=>h)
        · rename_i q; rw [q]; unfold YC at hw; exact all_val hw (fun v s h=>h)
        · exact hw.elim
      · by_cases hn:∃ x,o.ins=.next x
        · obtain ⟨x,hi⟩:=hn
          rw [hi] at hw ⊢
          simp only [wOp,VN] at hw
          dsimp only
          split at hw
          · rename_i b q
            rw [q]
            dsimp only
            split at hw
            · rename_i m ver rest lst q2
              rw [q2]
              dsimp only
              split at hw
              · rename_i q3
                rw [q3]
                dsimp only
                obtain ⟨h1,h2,h3⟩:=hw
                rw [if_pos h1]
                cases rest with
                | nil=>exact h2 rfl
                | cons y ys =>
                  refine ⟨by simp,fun i hi=>?_⟩
                  cases hg:(y :: ys)[i]? with
                  | none=>simp at hg; simp at hi; omega
                  | some kv=>obtain ⟨k,v⟩:=kv; have:=h3 i k v hg; simp only [hg]; exact this
              · exact hw.elim
            · exact hw.elim
          · exact hw.elim
        · by_cases hp:∃ x,o.ins=.panic x
          · obtain ⟨x,hi⟩:=hp
            rw [hi] at hw
            exact hw.elim
          · obtain ⟨v,s',he,hk⟩:=wOp_evI (fun f xs h=>hc ⟨f,xs,h⟩) (fun f xs h=>hv ⟨f,xs,h⟩) (fun f h=>hn ⟨f,h⟩) hw
            split
            · rename_i q; exact absurd ⟨_,_,q⟩ hc
            · rename_i q; exact absurd ⟨_,_,q⟩ hv
            · rename_i q; exact absurd ⟨_,q⟩ hn
            · rename_i q; exact absurd ⟨_,q⟩ hp
            · rw [he]; exact hk
  split at hw
  · rename_i q
    have:=core hw (by rw [q]; rfl)
    unfold evOp at this
    exact this
  · rename_i g q
    unfold gO at hw
    split at hw
    · rename_i t ht
      split at hw
      · rename_i htb
        have:=core hw (by rw [q]; obtain ⟨r,b⟩:=g; simp only [wanted]; dsimp only at ht htb; rw [ht]; simp [htb])
        unfold evOp at this
        exact this
      · rename_i htb
        rw [if_neg (by rw [q]; obtain ⟨r,b⟩:=g; simp only [wanted]; dsimp only at ht htb; rw [ht]; simpa using htb)]
        exact hw
    · rename_i hne
      rw [if_neg (by
        rw [q]; obtain ⟨r,b⟩:=g; simp only [wanted]
        cases hc:ρ.getD r .undef <;> simp_all)]
      exact hw
theorem evOps_of:∀ {ops:List AOp} {ρ s} {Q:AExit→Regs→St→Prop},wOps E ops ρ s Q→(evOps (ev E.P E.k) E.base ops ρ s).All fun r=>Q r.1 r.2.1 r.2.2
  | [],_,_,_,hw=>hw
  | _ :: _,_,_,_,hw=>by
    unfold evOps
    exact Res.All.bind.2 (evOp_of (wGd_mono (fun _ _ q=>evOps_of q) hw))
theorem evTrace_of {ops:List AOp} {Q:Regs→St→List (List AObj)→Prop}:∀ {ρ s hs},wTr E ops ρ s hs Q→(evTrace (ev E.P E.k) E.base ops ρ s hs).All fun r=>r.1=.normal∧Q r.2.1 r.2.2.1 r.2.2.2:=by
  induction ops with
  | nil=>intro ρ s hs hw; exact ⟨rfl,hw⟩
  | cons o rest ih =>
    intro ρ s hs hw
    by_cases ha:∃ z,o.ins=.alloc z
    · obtain ⟨z,hz⟩:=ha
      obtain ⟨d,i,g⟩:=o
      dsimp only at hz
      subst hz
      exact ih (show wTr E rest ρ s hs Q from hw)
    · have ha':∀ z,o.ins ≠ .alloc z:=fun z hz=>ha ⟨z,hz⟩
      rw [wTr_cons ha'] at hw
      have he:evTrace (ev E.P E.k) E.base (o :: rest) ρ s hs=(evOp (ev E.P E.k) E.base o ρ s).bind fun
        | (.normal,ρ',s')=>evTrace (ev E.P E.k) E.base rest ρ' s' (if o.ins.eff then hs ++ [s'.heap] else hs)
        | (e,ρ',s')=>.ok (e,ρ',s',hs):=by
        obtain ⟨d,i,g⟩:=o
        cases i <;> first | rfl | exact absurd rfl (ha' _)
      rw [he]
      exact Res.All.bind.2 (evOp_of (wGd_mono (fun _ _ q=>ih q) hw))
theorem chkAll_of {base ρ ops hs} {X:Prop}:∀ {l:List (Nat × Nat × Nat)},wChk base ρ ops hs l X→chkAll base ρ ops hs l=true∧X
  | [],h=>⟨rfl,h⟩
  | (j,lo,hi) :: l,h=>by
    obtain ⟨h1,h2⟩:=h
    obtain ⟨k1,k2⟩:=chkAll_of h2
    obtain ⟨o,ho,hc⟩:=oM_get h1
    refine ⟨?_,k2⟩
    simp only [chkAll,ho,hc,k1,Bool.and_self]
theorem rounds_of {b:Regs→St→Res (AExit × Regs × St)} {W:Regs→St→(AExit→Regs→St→Prop)→Prop} (h:∀ ρ s Q,W ρ s Q→(b ρ s).All fun r=>Q r.1 r.2.1 r.2.2) :
    ∀ {n ρ s Q},wLoop W n ρ s Q→(rounds b n ρ s).All fun r=>Q r.1 r.2.1 r.2.2
  | 0,_,_,_,hw=>hw
  | n + 1,ρ,s,Q,hw=>by
    unfold rounds
    refine Res.All.bind.2 (Res.All.mono (fun r hr=>?_) (h _ _ _ hw))
    obtain ⟨e,ρ',s'⟩:=r
    cases e with
    | normal=>exact rounds_of h hr
    | exit i=>exact hr
    | ret=>exact hr
    | panic v=>exact hr
theorem evCode_of:∀ {c:ACode} {ρ s} {Q:AExit→Regs→St→Prop},WC E c ρ s Q→(evCode (ev E.P E.k) E.base E.k c ρ s).All fun r=>Q r.1 r.2.1 r.2.2
  | .skip,_,_,_,hw=>hw
  | .exit _,_,_,_,hw=>hw
  | .ret,_,_,_,hw=>hw
  | .reg _,_,_,_,hw=>evOps_of hw
  | .draw ops chk,ρ,s,Q,hw=>by
    unfold evCode
    refine Res.All.bind.2 (Res.All.mono (fun r hr=>?_) (evTrace_of hw))
    obtain ⟨e,ρ',s',hs⟩:=r
    obtain ⟨he,h2⟩:=hr
    dsimp only at he h2
    subst he
    obtain ⟨h3,h4⟩:=chkAll_of h2
    dsimp only
    rw [if_pos h3]
    exact h4
  | .seq a b,ρ,s,Q,hw=>by
    unfold evCode
    refine Res.All.bind.2 (Res.All.mono (fun r hr=>?_) (evCode_of (c:=a) hw))
    obtain ⟨e,ρ',s'⟩:=r
    cases e with
    | normal=>exact evCode_of (c:=b) hr
    | exit i=>exact hr
    | ret=>exact hr
    | panic v=>exact hr
  | .cond c t e,ρ,s,Q,hw=>by
    unfold evCode
    simp only [WC,cM] at hw
    split at hw
    · rename_i t' q
      rw [q]
      cases t' with
      | true=>exact evCode_of (c:=t) hw
      | false=>exact evCode_of (c:=e) hw
    · exact hw.elim
  | .block id b,ρ,s,Q,hw=>by
    unfold evCode
    refine Res.All.bind.2 (Res.All.mono (fun r hr=>?_) (evCode_of (c:=b) hw))
    obtain ⟨e,ρ',s'⟩:=r
    cases e with
    | normal=>exact hr
    | exit i =>
      simp only [bK] at hr
      dsimp only
      split
      · rename_i q; rw [if_pos q] at hr; exact hr
      · rename_i q; rw [if_neg q] at hr; exact hr
    | ret=>exact hr
    | panic v=>exact hr
  | .loop b,ρ,s,Q,hw=>by
    unfold evCode
    exact rounds_of (W:=WC E b) (fun ρ s Q h=>evCode_of (c:=b) h) hw
  | .rangeF _ _ _ _,_,_,_,hw=>hw
def RK (H:Nat) (lk:Bool) (rs:List ARes) (Q:AV→St→Prop):AExit→Regs→St→Prop
  | .normal,ρ,s | .ret,ρ,s=>oM (resultsOf ρ s.heap rs) fun vs=>Q (leave H lk rs vs s).1 (leave H lk rs vs s).2
  | _,_,_=>False
theorem VC_enter {P:AProg} {k:Nat} {b:Option Nat} {f:FuncId} {F:AFunc} {args:List AV} {s:St} {K:AV→St→Prop} (hf:P f=some (.code F)) (hn:args.length=F.np)
    (hw:WC ⟨P,k,some s.heap.length⟩ F.body (args ++ List.replicate (F.ntmps - F.np) .undef) { s with leak:=false } (RK s.heap.length s.leak F.results K)):VC ⟨P,k + 1,b⟩ f args s K:=by
  unfold VC
  simp only [ev,hf]
  rw [if_pos hn]
  refine Res.All.bind.2 (Res.All.mono (fun r hr=>?_) (evCode_of hw))
  obtain ⟨e,ρ',s'⟩:=r
  cases e with
  | normal=>obtain ⟨vs,h1,h2⟩:=oM_get hr; simp only [h1]; exact h2
  | ret=>obtain ⟨vs,h1,h2⟩:=oM_get hr; simp only [h1]; exact h2
  | exit i=>exact hr.elim
  | panic v=>exact hr.elim
theorem VC_ext {P:AProg} {k:Nat} {b:Option Nat} {f:FuncId} {g:List AV→Option AV} {args:List AV} {s:St} {K:AV→St→Prop} (hf:P f=some (.ext g)) (hw:oM (g args) fun v=>K v s):VC ⟨P,k + 1,b⟩ f args s K:=by
  unfold VC
  obtain ⟨v,h1,h2⟩:=oM_get hw
  simp only [ev,hf,h1]
  exact h2
def LK (J:Nat→Regs→St→Prop) (m:Nat) (Q:AExit→Regs→St→Prop):AExit→Regs→St→Prop
  | .normal,ρ,s=>∃ m',m' < m∧J m' ρ s
  | .exit i,ρ,s=>Q (.exit i) ρ s
  | .ret,ρ,s=>Q .ret ρ s
  | .panic v,ρ,s=>Q (.panic v) ρ s
theorem wLoop_rule {W:Regs→St→(AExit→Regs→St→Prop)→Prop} (hW:∀ ρ s Q Q',(∀ e ρ s,Q e ρ s→Q' e ρ s)→W ρ s Q→W ρ s Q') {J:Nat→Regs→St→Prop} {Q:AExit→Regs→St→Prop}
    (step:∀ m ρ s,J m ρ s→W ρ s (LK J m Q)):∀ (n m:Nat) (ρ:Regs) (s:St),m < n→J m ρ s→wLoop W n ρ s Q
  | 0,_,_,_,h,_=>absurd h (Nat.not_lt_zero _)
  | n + 1,m,ρ,s,h,hJ=>by
    refine hW _ _ _ _ (fun e ρ' s' q=>?_) (step m ρ s hJ)
    cases e with
    | normal=>obtain ⟨m',h1,h2⟩:=q; exact wLoop_rule hW step n m' ρ' s' (by omega) h2
    | exit i=>exact q
    | ret=>exact q
    | panic v=>exact q
theorem WC_loop {b:ACode} {J:Nat→Regs→St→Prop} {Q:AExit→Regs→St→Prop} {ρ:Regs} {s:St} (m:Nat) (hm:m < E.k) (h0:J m ρ s) (step:∀ m ρ s,J m ρ s→WC E b ρ s (LK J m Q)):WC E (.loop b) ρ s Q :=
  wLoop_rule (W:=WC E b) (fun _ _ _ _ q r=>WC_mono q r) step _ m ρ s hm h0
end
end Go.W
end
section
namespace Go.Ai
open Go
abbrev CallP (n:Nat) (call:CallF):Prop:=∀ c args s,n≤s.heap.length→(call c args s).Safe (fun p=>Pres n s p.2)
theorem evOp_pres {call:CallF} {base:Option Nat} {n:Nat} (hcall:CallP n call) (hb:∀ n1,base=some n1→n≤n1) (o:AOp) (ρ:Regs) (s:St) (hn:n≤s.heap.length):(evOp call base o ρ s).Safe (fun p=>Pres n s p.2.2):=by
  unfold evOp
  split
  · split
    · refine Res.Safe.bind (hcall _ _ _ hn) fun r hr=>?_
      obtain ⟨r,s'⟩:=r
      cases r <;> exact hr
    · split
      · refine Res.Safe.bind (hcall _ _ _ hn) fun r hr=>?_
        obtain ⟨r,s'⟩:=r
        cases r <;> exact hr
      · refine Res.Safe.bind (hcall _ _ _ hn) fun r hr=>?_
        obtain ⟨r,s'⟩:=r
        cases r
        · exact hr
        · trivial
      · trivial
    · split
      · split
        · rename_i b m ver rest last hb'
          split
          · split
            · split
              · exact Pres.refl _ _
              · intro i hi
                dsimp only
                split
                · rename_i k v hkv
                  refine Pres.set fun hl=>⟨hl,fun hbn hB _=>?_⟩
                  have hu:=hB.at hbn hb'
                  simp only [AObj.under,Bool.and_eq_true] at hu ⊢
                  refine ⟨⟨hu.1.1,List.all_eq_true.2 fun p hp=>List.all_eq_true.1 hu.1.2 p (List.mem_of_mem_eraseIdx hp)⟩,List.all_eq_true.1 hu.1.2 (k,v) (List.mem_of_getElem? hkv)⟩
                · trivial
            · trivial
          · trivial
        · trivial
      · trivial
    · split
      · exact Pres.refl _ _
      · trivial
    · split
      · rename_i he
        exact evI_pres he hn hb
      · trivial
  · exact Pres.refl _ _
theorem evOps_pres {call:CallF} {base:Option Nat} {n:Nat} (hcall:CallP n call) (hb:∀ n1,base=some n1→n≤n1):∀ (ops:List AOp) (ρ:Regs) (s:St),n≤s.heap.length→(evOps call base ops ρ s).Safe (fun p=>Pres n s p.2.2)
  | [],ρ,s,_=>Pres.refl _ _
  | o :: rest,ρ,s,hn=>by
    simp only [evOps]
    refine Res.Safe.bind (evOp_pres hcall hb o ρ s hn) fun r hr=>?_
    obtain ⟨e,ρ',s'⟩:=r
    cases e with
    | normal=>exact Res.Safe.mono (fun p hp=>hr.trans hp) (evOps_pres hcall hb rest ρ' s' (Nat.le_trans hn hr.1))
    | _=>exact hr
theorem evTrace_pres {call:CallF} {base:Option Nat} {n:Nat} (hcall:CallP n call) (hb:∀ n1,base=some n1→n≤n1):∀ (ops:List AOp) (ρ:Regs) (s:St) (hs:List (List AObj)),n≤s.heap.length→(evTrace call base ops ρ s hs).Safe (fun p=>Pres n s p.2.2.1)
  | [],ρ,s,hs,_=>Pres.refl _ _
  | o :: rest,ρ,s,hs,hn=>by
    have main:((evOp call base o ρ s).bind fun | (.normal,ρ',s')=>evTrace call base rest ρ' s' (if o.ins.eff then hs ++ [s'.heap] else hs) | (e,ρ',s')=>.ok (e,ρ',s',hs)).Safe (fun p=>Pres n s p.2.2.1):=by
      refine Res.Safe.bind (evOp_pres hcall hb o ρ s hn) fun r hr=>?_
      obtain ⟨e,ρ',s'⟩:=r
      cases e with
      | normal=>exact Res.Safe.mono (fun p hp=>hr.trans hp) (evTrace_pres hcall hb rest ρ' s' _ (Nat.le_trans hn hr.1))
      | _=>exact hr
    obtain ⟨d,i,g⟩:=o
    cases i <;> first | exact main | exact evTrace_pres hcall hb rest ρ s hs hn
theorem hoist_pres {n:Nat} {lk:Bool}:∀ (ops:List AOp) (ρ:Regs) (H:List AObj),n≤H.length→Pres n ⟨H,lk⟩ ⟨(hoist ops ρ H).2,lk⟩
  | [],ρ,H,_=>Pres.refl _ _
  | o :: rest,ρ,H,hn=>by
    simp only [hoist]
    split
    · rename_i z _
      exact (Pres.push (s:=⟨H,lk⟩) (.cells z) hn).trans (hoist_pres rest _ _ (by simp; omega))
    · exact hoist_pres rest _ _ hn
theorem rounds_pres {n:Nat} {body:Regs→St→Res (AExit × Regs × St)} (hbody:∀ ρ s,n≤s.heap.length→(body ρ s).Safe (fun p=>Pres n s p.2.2)):∀ (k:Nat) (ρ:Regs) (s:St),n≤s.heap.length→(rounds body k ρ s).Safe (fun p=>Pres n s p.2.2)
  | 0,_,_,_=>trivial
  | k + 1,ρ,s,hn=>by
    simp only [rounds]
    refine Res.Safe.bind (hbody ρ s hn) fun r hr=>?_
    obtain ⟨e,ρ',s'⟩:=r
    cases e with
    | normal=>exact Res.Safe.mono (fun p hp=>hr.trans hp) (rounds_pres hbody k ρ' s' (Nat.le_trans hn hr.1))
    | _=>exact hr
theorem evCode_pres {call:CallF} {base:Option Nat} {fuel n:Nat} (hcall:CallP n call) (hb:∀ n1,base=some n1→n≤n1):∀ (c:ACode) (ρ:Regs) (s:St),n≤s.heap.length→(evCode call base fuel c ρ s).Safe (fun p=>Pres n s p.2.2)
  | .skip,ρ,s,_=>Pres.refl _ _
  | .reg ops,ρ,s,hn=>evOps_pres hcall hb ops ρ s hn
  | .draw ops chk,ρ,s,hn=>by
    simp only [evCode]
    have hh:=hoist_pres (lk:=s.leak) ops ρ s.heap hn
    refine Res.Safe.bind (evTrace_pres hcall hb ops _ _ _ (Nat.le_trans hn hh.1)) fun r hr=>?_
    split
    · split
      · exact hh.trans hr
      · trivial
    · trivial
  | .seq a b,ρ,s,hn=>by
    simp only [evCode]
    refine Res.Safe.bind (evCode_pres hcall hb a ρ s hn) fun r hr=>?_
    obtain ⟨e,ρ',s'⟩:=r
    cases e with
    | normal=>exact Res.Safe.mono (fun p hp=>hr.trans hp) (evCode_pres hcall hb b ρ' s' (Nat.le_trans hn hr.1))
    | _=>exact hr
  | .cond c t e,ρ,s,hn=>by
    simp only [evCode]
    split
    · exact evCode_pres hcall hb t ρ s hn
    · exact evCode_pres hcall hb e ρ s hn
    · trivial
  | .block id b,ρ,s,hn=>by
    simp only [evCode]
    refine Res.Safe.bind (evCode_pres hcall hb b ρ s hn) fun r hr=>?_
    obtain ⟨e,ρ',s'⟩:=r
    cases e with
    | exit i=>dsimp only; split <;> exact hr
    | _=>exact hr
  | .loop b,ρ,s,hn=>rounds_pres (fun ρ s hn=>evCode_pres hcall hb b ρ s hn) fuel ρ s hn
  | .exit id,ρ,s,_=>Pres.refl _ _
  | .ret,ρ,s,_=>Pres.refl _ _
  | .rangeF g ps assign body,ρ,s,hn=>by
    simp only [evCode]
    split
    · have hp:=Pres.push (s:=s) (.loop ρ ps assign body true none) hn
      refine Res.Safe.bind (hcall _ _ _ (Nat.le_trans hn hp.1)) fun r hr=>?_
      obtain ⟨r,s'⟩:=r
      cases r
      · dsimp only
        split
        · rename_i ρ' ps' x y ready jump hl
          have h2:Pres n s { s' with heap:=s'.heap.set s.heap.length (.loop ρ' ps' x y false jump) }:=by
            refine (hp.trans hr).trans (Pres.set fun hlk=>⟨hlk,fun hbn hB _=>?_⟩)
            have:=hB.at hbn hl
            exact this
          split <;> first | exact h2 | trivial
        · trivial
      · trivial
    · trivial
theorem leave_pres {n base:Nat} {lk:Bool} {rs:List ARes} {vs:List AV} {s s':St} (hl:s.heap.length=base) (hn:n≤base) (hk:s.leak=lk) (h:Pres n { s with leak:=false } s'):Pres n s (leave base lk rs vs s').2:=by
  unfold leave
  split
  · rename_i hc
    refine ⟨?_,fun h2=>⟨by rw [hk]; exact h2,fun hB b o hbn ho=>?_⟩⟩
    · have:=h.1
      simp only [List.length_take]
      simp only at this
      omega
    · simp only at ho
      rw [take_get (by omega)] at ho
      exact (h.2 hc.1).2 hB b o hbn ho
  · refine ⟨h.1,fun h2=>?_⟩
    simp only [Bool.or_eq_false_iff] at h2
    exact ⟨by rw [hk]; exact h2.1,(h.2 h2.2).2⟩
theorem leaveP_pres {n base:Nat} {lk:Bool} {v:AV} {s s':St} (hl:s.heap.length=base) (hn:n≤base) (hk:s.leak=lk) (h:Pres n { s with leak:=false } s'):Pres n s (leaveP base lk v s'):=by
  unfold leaveP
  split
  · rename_i hc
    refine ⟨?_,fun h2=>⟨by rw [hk]; exact h2,fun hB b o hbn ho=>?_⟩⟩
    · have:=h.1
      simp only [List.length_take]
      simp only at this
      omega
    · simp only at ho
      rw [take_get (by omega)] at ho
      exact (h.2 hc.1).2 hB b o hbn ho
  · refine ⟨h.1,fun h2=>?_⟩
    simp only [Bool.or_eq_false_iff] at h2
    exact ⟨by rw [hk]; exact h2.1,(h.2 h2.2).2⟩
theorem ev_pres (prog:AProg):∀ (k n:Nat),CallP n (ev prog k)
  | 0,n,c,args,s,_=>by simp only [ev]; trivial
  | k + 1, n,.fn f,args,s,hn=>by
    simp only [ev]
    split
    · trivial
    · split
      · exact Pres.refl _ _
      · trivial
    · split
      · refine Res.Safe.bind (evCode_pres (ev_pres prog k n) (fun n1 h=>by cases h; exact hn) _ _ { s with leak:=false } hn) fun r hr=>?_
        obtain ⟨e,ρ',s'⟩:=r
        cases e with
        | panic v=>exact leaveP_pres rfl hn rfl hr
        | exit=>trivial
        | _ =>
          dsimp only
          split
          · exact leave_pres rfl hn rfl hr
          · trivial
      · trivial
  | k + 1, n, .yield l,args,s,hn=>by
    simp only [ev]
    split
    · rename_i ρ ps assign body jump hl
      split
      · have back:∀ (j:Option Jump) (ready:Bool) (s2:St),Pres n s s2→Pres n s { s2 with heap:=s2.heap.set l (.loop ρ ps assign body ready j) }:=by
          intro j ready s2 h
          refine ⟨by simp; exact h.1,fun hl2=>⟨(h.2 hl2).1,fun hB b o hbn ho=>?_⟩⟩
          dsimp only at ho
          by_cases e:b=l
          · subst e
            by_cases hbl:b < s2.heap.length
            · rw [get_set_eq hbl] at ho
              cases ho
              have:=hB.at hbn hl
              exact this
            · rw [List.getElem?_eq_none (by simp; omega)] at ho
              cases ho
          · rw [get_set_ne e] at ho
            exact (h.2 hl2).2 hB b o hbn ho
        refine Res.Safe.bind (evCode_pres (base:=none) (ev_pres prog k n) (fun n1 h=>by cases h) _ _ s hn) fun r hr=>?_
        obtain ⟨e,ρ1,s1⟩:=r
        cases e with
        | normal =>
          have hb1:=back none false s1 hr
          dsimp only
          split
          case h_2=>trivial
          refine Res.Safe.bind (evCode_pres (base:=none) (ev_pres prog k n) (fun n1 h=>by cases h) _ _ _ (Nat.le_trans hn hb1.1)) fun r2 hr2=>?_
          obtain ⟨e2,ρ2,s2⟩:=r2
          have h12:=hb1.trans hr2
          cases e2 with
          | panic=>trivial
          | _=>exact back _ _ s2 h12
        | _=>trivial
      · trivial
    · trivial
end Go.Ai
end
section
namespace Go.Ai
open Go
variable {T:List (Nat × Obj)}
def Fen:Option Nat→Fence
  | none=>Fence.wide
  | some l=>Fence.wide.inRound l
theorem Fen_fn (r:Option Nat) (f:FuncId):(Fen r).fn f:=by cases r <;> trivial
theorem Fen_depth (r:Option Nat):(Fen r).depth=none:=by cases r <;> rfl
theorem Fen_round (r:Option Nat):(Fen r).round=r:=by cases r <;> rfl
theorem Fen_in (r:Option Nat) (l:Nat):(Fen r).inRound l=Fen (some l):=by cases r <;> rfl
theorem Fen_some (r:Option Nat) (n:Nat):(Fen r).depth.isSome=true→1≤n:=by rw [Fen_depth]; simp
theorem Fen_calls {r:Option Nat} {n:Nat} {P:Program} {f:FuncId} {args:Array Value} {w:World} {R:Ending→World→Prop}:CallsIn (Fen r) n P f args w R↔CallsIn Fence.wide n P f args w R:=by
  cases r <;> exact Iff.rfl
structure Marks (z:Nat) (G:Gh) (H:List AObj) (w:World) (ds:List Deferred):Prop where
  each:∀ d,d ∈ ds→∃ c,d={ target:=.collected c,args:=#[] }∧z≤c∧Stable G H.length w c∧w.heap[c]?=some (.deferred (some []))
  nodup:ds.Nodup
theorem Marks.nil (z:Nat) (G:Gh) (H:List AObj) (w:World):Marks z G H w []:=⟨fun _ h=>(by cases h),List.nodup_nil⟩
theorem Marks.mono {z:Nat} {G H w G' H' w'} (a:Ext G H w G' H' w') {ds:List Deferred} (h:Marks z G H w ds):Marks z G' H' w' ds :=
  ⟨fun d hd=>by
    obtain ⟨c,h1,h2,h3,h4⟩:=h.each d hd
    obtain ⟨k1,k2⟩:=a.stable c h3
    exact ⟨c,h1,h2,k1,k2.trans h4⟩,h.nodup⟩
def InR (r:Option Nat) (G:Gh) (H:List AObj):Prop:=∀ cl,r=some cl→∃ l ρ ps x y rd j,H[l]?=some (.loop ρ ps x y rd j)∧G.blk l=some cl
theorem InR.mono {r:Option Nat} {G H w G' H' w'} (a:Ext G H w G' H' w') (h:InR r G H):InR r G' H':=fun cl hc=>by
  obtain ⟨l,ρ,ps,x,y,rd,j,h1,h2⟩:=h cl hc
  obtain ⟨r',j',k1,k2⟩:=a.loop l ρ ps x y rd j h1
  exact ⟨l,ρ,ps,x,y,r',j',k1,k2.trans h2⟩
def KT (T:List (Nat × Obj)) (G:Gh) (H:List AObj) (w:World):Prop:=∀ p,p ∈ T→Stable G H.length w p.1∧w.heap[p.1]?=some p.2
theorem KT.mono {T:List (Nat × Obj)} {G H w G' H' w'} (a:ExtW G H w G' H' w') (h:KT T G H w):KT T G' H' w':=fun p hp =>
  let ⟨h1,h2⟩:=h p hp
  let ⟨k1,k2⟩:=a.stable p.1 h1
  ⟨k1,k2.trans h2⟩
structure Inv (T:List (Nat × Obj)) (P:Program) (G0:Gh) (H0:List AObj) (w0:World) (z:Nat) (r:Option Nat) (G:Gh) (H:List AObj) (w:World) (ρ:Regs) (a:Act):Prop where
  mem:R P G H w
  ext:Ext G0 H0 w0 G H w
  regs:RR G H w ρ a.tmps
  marks:Marks z G H w a.defers
  round:InR r G H
  tab:KT T G H w
theorem Inv.step {P:Program} {G0 H0 w0 z r G H w ρ a} (h:Inv T P G0 H0 w0 z r G H w ρ a) {G' H' w' ρ'} {a':Act} (hx:Ext G H w G' H' w') (hR:R P G' H' w') (hr:RR G' H' w' ρ' a'.tmps) (hd:a'.defers=a.defers):Inv T P G0 H0 w0 z r G' H' w' ρ' a' :=
  ⟨hR,h.ext.trans hx,hr,by rw [hd]; exact h.marks.mono hx,h.round.mono hx,h.tab.mono hx.toExtW⟩
def XR (G:Gh) (H:List AObj) (w:World):AExit→Exit→Prop
  | .normal,.normal=>True
  | .exit i,.exit j=>i=j
  | .ret,.ret=>True
  | .panic v,.panic chain=>∃ u,chain=[{ v:=u,recovered:=false }]∧VR G H w v u
  | _,_=>False
def Post (T:List (Nat × Obj)) (P:Program) (G0:Gh) (H0:List AObj) (w0:World) (z:Nat) (r:Option Nat) (Q:AExit × Regs × St→Prop) (e:Exit) (a:Act) (w:World):Prop :=
  ∃ ae ρ s G,Q (ae,ρ,s)∧XR G s.heap w ae e∧Inv T P G0 H0 w0 z r G s.heap w ρ a
def RetR (G:Gh) (H:List AObj) (w:World):Ret→Ending→Prop
  | .val v,.returned u=>VR G H w v u
  | .panic v,.panicked chain=>∃ u,chain=[{ v:=u,recovered:=false }]∧VR G H w v u
  | _,_=>False
def CPost (P:Program) (G0:Gh) (H0:List AObj) (w0:World) (Q:Ret × St→Prop) (e:Ending) (w:World):Prop :=
  ∃ ret s G,Q (ret,s)∧RetR G s.heap w ret e∧R P G s.heap w∧Ext G0 H0 w0 G s.heap w
def Plain (P : Program) (f : FuncId) : Prop := ∃ fn, P.funcs[f]? = some fn ∧ fn.body.isSome = true ∧ fn.name ≠ "runtime.NumGoroutine"
def CallSim (T:List (Nat × Obj)) (P:Program) (call:CallF):Prop:=∀ (f:FuncId) (args:List AV) (s:St) (G:Gh) (w:World) (us:List Value) (Q:Ret × St→Prop) (n:Nat),
  R P G s.heap w→KT T G s.heap w→LR G s.heap w args us→(call (.fn f) args s).All Q→Plain P f∧CallsIn Fence.wide n P f us.toArray w (CPost P G s.heap w Q)
def RoundSim (T:List (Nat × Obj)) (P:Program) (call:CallF):Prop:=∀ (l:Nat) (args:List AV) (s:St) (G:Gh) (w:World) (us:List Value) (Q:Ret × St→Prop) (n:Nat) (r:Option Nat) (cl:Nat),
  R P G s.heap w→KT T G s.heap w→LR G s.heap w args us→VR G s.heap w (.yield l) (.func (.yield cl) #[] #[])→(call (.yield l) args s).All Q →
  ∃ L:Loop,(Instr.yield cl us.toArray).run P w=.ok (.round cl L.fn ((L.params.zip us.toArray).foldl (fun tmps (t,a)=>tmps.setIfInBounds t a) L.tmps) L.assign L.body) w ∧
    RoundIn (Fen r) n P cl L.fn ((L.params.zip us.toArray).foldl (fun tmps (t,a)=>tmps.setIfInBounds t a) L.tmps) L.assign L.body w (CPost P G s.heap w Q)
section
variable {P:Program} {auto:Bool} {own rows:List Nat} {o:Oper}
theorem inv_call {f:FuncId} {xs:List AOpd} (h:compileIns P auto own rows o=some (.call f xs)):∃ c,o.op=.call c∧c.callee=.value (.func f)∧opds c.args.toList=some xs:=by
  unfold compileIns at h
  cases ho:o.op <;> simp only [ho] at h
  case call c =>
    obtain ⟨as1,has,h⟩:=bind_some h
    refine ⟨c,rfl,?_⟩
    cases hcal:c.callee <;> simp only [hcal] at h
    case value x =>
      cases x <;> simp only at h
      case func g=>cases h; exact ⟨rfl,has⟩
      all_goals (replace h:=bind_some h; obtain ⟨_,_,h⟩:=h; cases h)
    case invoke=>cases h
    case builtin bi =>
      cases bi <;> simp only at h
      all_goals (
        repeat' (first
          | (replace h:=bind_some h; obtain ⟨_,_,h⟩:=h)
          | split at h)
        all_goals (cases h))
  case makeFunc fn first caps =>
    cases fn <;> simp only at h
    all_goals first | (cases h; done) | (split at h <;> first | (cases h; done) | (replace h:=bind_some h; obtain ⟨_,_,h⟩:=h; cases h))
  all_goals (
    repeat' (first
      | (replace h:=bind_some h; obtain ⟨_,_,h⟩:=h)
      | split at h)
    all_goals (cases h))
theorem inv_callv {x:AOpd} {xs:List AOpd} (h:compileIns P auto own rows o=some (.callv x xs)):∃ c y,o.op=.call c∧c.callee=.value y∧opd y=some x∧opds c.args.toList=some xs:=by
  unfold compileIns at h
  cases ho:o.op <;> simp only [ho] at h
  case call c =>
    obtain ⟨as1,has,h⟩:=bind_some h
    refine ⟨c,?_⟩
    cases hcal:c.callee <;> simp only [hcal] at h
    case value y =>
      cases y <;> simp only at h
      case func g=>cases h
      all_goals (obtain ⟨z,hz,h⟩:=bind_some h; cases h; exact ⟨_,rfl,rfl,hz,has⟩)
    case invoke=>cases h
    case builtin bi =>
      cases bi <;> simp only at h
      all_goals (
        repeat' (first
          | (replace h:=bind_some h; obtain ⟨_,_,h⟩:=h)
          | split at h)
        all_goals (cases h))
  case makeFunc fn first caps =>
    cases fn <;> simp only at h
    all_goals first | (cases h; done) | (split at h <;> first | (cases h; done) | (replace h:=bind_some h; obtain ⟨_,_,h⟩:=h; cases h))
  all_goals (
    repeat' (first
      | (replace h:=bind_some h; obtain ⟨_,_,h⟩:=h)
      | split at h)
    all_goals (cases h))
theorem inv_next {x:AOpd} (h:compileIns P auto own rows o=some (.next x)):∃ it,o.op=.next it false∧opd it=some x:=by
  unfold compileIns at h
  cases ho:o.op <;> simp only [ho] at h
  case next it isS =>
    cases isS
    · simp only [Bool.false_eq_true,if_false] at h
      obtain ⟨y,hy,h⟩:=bind_some h
      cases h
      exact ⟨it,rfl,hy⟩
    · simp at h
  case call c =>
    obtain ⟨as1,has,h⟩:=bind_some h
    cases hcal:c.callee <;> simp only [hcal] at h
    case value y =>
      cases y <;> simp only at h
      all_goals (first | (cases h; done) | (replace h:=bind_some h; obtain ⟨_,_,h⟩:=h; cases h))
    case invoke=>cases h
    case builtin bi =>
      cases bi <;> simp only at h
      all_goals (
        repeat' (first
          | (replace h:=bind_some h; obtain ⟨_,_,h⟩:=h)
          | split at h)
        all_goals (cases h))
  case makeFunc fn first caps =>
    cases fn <;> simp only at h
    all_goals first | (cases h; done) | (split at h <;> first | (cases h; done) | (replace h:=bind_some h; obtain ⟨_,_,h⟩:=h; cases h))
  all_goals (
    repeat' (first
      | (replace h:=bind_some h; obtain ⟨_,_,h⟩:=h)
      | split at h)
    all_goals (cases h))
theorem inv_panic {x:AOpd} (h:compileIns P auto own rows o=some (.panic x)):∃ y,o.op=.panic y∧opd y=some x:=by
  unfold compileIns at h
  cases ho:o.op <;> simp only [ho] at h
  case panic y =>
    obtain ⟨z,hz,h⟩:=bind_some h
    cases h
    exact ⟨y,rfl,hz⟩
  case call c =>
    obtain ⟨as1,has,h⟩:=bind_some h
    cases hcal:c.callee <;> simp only [hcal] at h
    case value y =>
      cases y <;> simp only at h
      all_goals (first | (cases h; done) | (replace h:=bind_some h; obtain ⟨_,_,h⟩:=h; cases h))
    case invoke=>cases h
    case builtin bi =>
      cases bi <;> simp only at h
      all_goals (
        repeat' (first
          | (replace h:=bind_some h; obtain ⟨_,_,h⟩:=h)
          | split at h)
        all_goals (cases h))
  case makeFunc fn first caps =>
    cases fn <;> simp only at h
    all_goals first | (cases h; done) | (split at h <;> first | (cases h; done) | (replace h:=bind_some h; obtain ⟨_,_,h⟩:=h; cases h))
  all_goals (
    repeat' (first
      | (replace h:=bind_some h; obtain ⟨_,_,h⟩:=h)
      | split at h)
    all_goals (cases h))
theorem not_defer {i:AIns} (h:compileIns P auto own rows o=some i):∀ c,o.op ≠ .defer c:=by
  intro c hc
  unfold compileIns at h
  simp [hc] at h
end
end Go.Ai
end
section
namespace Go.Ai
open Go
variable {T:List (Nat × Obj)}
section
variable {P:Program} {call:CallF} {base:Option Nat} {auto:Bool} {own rows:List Nat}
theorem run_plain {f:FuncId} (h:Plain P f) (args:Array Value) (w:World):(callFunc f args).run P w=.ok (.enter f args) w:=by
  obtain ⟨fn,hf,hb,hn⟩:=h
  obtain ⟨c,hc⟩:=Option.isSome_iff_exists.1 hb
  simp [callFunc,run_program,hf,hc,hn]
structure Next' (T:List (Nat × Obj)) (P:Program) (G0:Gh) (H0:List AObj) (w0:World) (z:Nat) (r:Option Nat) (S:AExit × Regs × St→Prop) (a:Act) (ρ:Regs) (next:Act→World→Prop) (Q:Exit→Act→World→Prop):Prop where
  on:∀ ρ' s' G' w' a',S (.normal,ρ',s')→Inv T P G0 H0 w0 z r G' s'.heap w' ρ' a'→next a' w'
  off:∀ v s' G' w' u,S (.panic v,ρ,s')→Inv T P G0 H0 w0 z r G' s'.heap w' ρ a→VR G' s'.heap w' v u→Q (.panic [{ v:=u,recovered:=false }]) a w'
theorem wanted_of {ρ:Regs} {a:Act} {G:Gh} {H:List AObj} {w:World} (hr:RR G H w ρ a.tmps) {ops:Array Oper} {o:Oper} {ao:AOp} (hc:compileOp P auto own rows ops o=some ao):Region.wanted o (yielded ops a.tmps)=wanted ρ ao.guard:=by
  unfold compileOp at hc
  obtain ⟨i,hi,hc⟩:=bind_some hc
  unfold Region.wanted
  split at hc
  · rename_i hg
    cases hc
    rw [hg]
    rfl
  · rename_i j b hg
    obtain ⟨q,hq,hc⟩:=bind_some hc
    obtain ⟨rg,hrg,hc⟩:=bind_some hc
    cases hc
    rw [hg]
    simp only [yielded,hq,Option.bind_some,hrg,wanted]
    have hv:=getD_VR hr rg
    by_cases hlt:rg < a.tmps.size
    · have e1:a.tmps[rg]?=some (a.tmps.getD rg undef):=by simp [hlt]
      rw [e1]
      cases hx:ρ.getD rg .undef with
      | bool t =>
        rw [hx] at hv
        rw [hv.bool_inv]
        cases t <;> cases b <;> rfl
      | _ =>
        have hnb:∀ t,a.tmps.getD rg undef ≠ .bool t:=by
          intro t ht
          rw [ht,hx] at hv
          cases hv
          rename_i h
          cases h
        cases hu:a.tmps.getD rg undef <;> first | (exact absurd hu (hnb _)) | rfl
    · have e1:a.tmps[rg]?=none:=Array.getElem?_eq_none (Nat.le_of_not_lt hlt)
      have e2:ρ.getD rg .undef=.undef:=by
        have hl:=hr.1
        rw [List.getD_eq_getElem?_getD,List.getElem?_eq_none (by rw [← hl]; exact Nat.le_of_not_lt hlt)]
        rfl
      rw [e1,e2]
      rfl
theorem inv_op {ops:Array Oper} {o:Oper} {ao:AOp} (hc:compileOp P auto own rows ops o=some ao):compileIns P auto own rows o=some ao.ins∧ao.dst=o.dst:=by
  unfold compileOp at hc
  obtain ⟨i,hi,hc⟩:=bind_some hc
  split at hc
  · cases hc; exact ⟨hi,rfl⟩
  · obtain ⟨q,hq,hc⟩:=bind_some hc
    obtain ⟨rg,hrg,hc⟩:=bind_some hc
    cases hc
    exact ⟨hi,rfl⟩
theorem op_sim (hcs:CallSim T P call) (hrs:RoundSim T P call) {G0 H0 w0 z r n} {ops:Array Oper} {o:Oper} {ao:AOp} (hc:compileOp P auto own rows ops o=some ao) {G:Gh} {s:St} {w:World} {ρ:Regs} {a:Act}
    (I:Inv T P G0 H0 w0 z r G s.heap w ρ a) {S:AExit × Regs × St→Prop} (hS:(evOp call base ao ρ s).All S) {next:Act→World→Prop} {Q:Exit→Act→World→Prop} (N:Next' T P G0 H0 w0 z r S a ρ next Q) :
    if Region.wanted o (yielded ops a.tmps) then o.wpIn (Fen r) n P a w next Q else (∀ f,o.about P w a.eval=some f→(Fen r).fn f)∧next (a.put o.dst undef) w:=by
  rw [wanted_of I.regs hc]
  obtain ⟨hi,hd⟩:=inv_op hc
  unfold evOp at hS
  by_cases hw:wanted ρ ao.guard=true
  · rw [if_pos hw] at hS ⊢
    refine ⟨fun f _=>Fen_fn r f,?_⟩
    rw [Oper.semAt_eq _ _ _ (not_defer hi)]

    have fnCall:∀ (f:FuncId) (xs:List AV) (us:List Value),(execOp a.eval o).run P w=(callFunc f us.toArray).run P w→LR G s.heap w xs us →
        ((call (.fn f) xs s).bind fun | (.val v,s')=>.ok (.normal,put ρ ao.dst v,s') | (.panic v,s')=>.ok (.panic v,ρ,s')).All S→o.uponIn (Fen r) n P a next Q ((execOp a.eval o).run P w):=by
      intro f xs us hrun hl hA
      obtain ⟨hp,hcall⟩:=hcs f xs s G w us _ (n - 1) I.mem I.tab hl (Res.All.bind.1 hA)
      rw [hrun,run_plain hp,Oper.uponIn_enter]
      refine ⟨Fen_some r n,Fen_calls.2 (hcall.mono fun e w' h=>?_)⟩
      obtain ⟨ret,s',G',hQ,hret,hR',hx⟩:=h
      cases ret with
      | val v =>
        cases e <;> simp only [RetR] at hret
        dsimp only at hQ
        refine N.on _ _ _ _ _ hQ (I.step hx hR' ?_ (by cases o.dst <;> rfl))
        rw [hd]
        exact put_RR (I.regs.mono hx) o.dst hret
      | panic v =>
        cases e <;> simp only [RetR] at hret
        obtain ⟨u,rfl,hv⟩:=hret
        exact N.off _ _ _ _ _ hQ (I.step hx hR' (I.regs.mono hx) rfl) hv
    have hins:∀ j,ao.ins=j→compileIns P auto own rows o=some j:=fun j e=>by rw [hi,e]
    split at hS
    · rename_i f xs he
      obtain ⟨c,ho,hcal,hxs⟩:=inv_call (hins _ he)
      have hl:=opds_LR I.regs hxs
      refine fnCall f _ (c.args.toList.map a.eval) ?_ hl hS
      have hargs:c.args.map a.eval=(c.args.toList.map a.eval).toArray:=by apply Array.ext'; simp
      simp [execOp,ho,resolve,hcal,Act.eval,Deferred.ofValue,invoke]
      rw [hargs]
    · rename_i x xs he
      obtain ⟨c,y,ho,hcal,hy,hxs⟩:=inv_callv (hins _ he)
      have hl:=opds_LR I.regs hxs
      have hv:=opd_VR I.regs hy
      have hargs:c.args.map a.eval=(c.args.toList.map a.eval).toArray:=by apply Array.ext'; simp
      split at hS
      · rename_i f caps hx
        rw [hx] at hv
        obtain ⟨us,hu,hlu⟩:=hv.fn_inv
        refine fnCall f _ (c.args.toList.map a.eval ++ us) ?_ (hl.append hlu) hS
        simp only [execOp,ho,resolve,hcal,hu,Deferred.ofValue,invoke,Sem.run_bind,Sem.run_pure,Result.andThen_ok]
        rw [hargs]
        simp
      · rename_i l hx
        rw [hx] at hv
        have hu:∃ cl,a.eval y=.func (.yield cl) #[] #[]:=by
          cases hq:a.eval y <;> rw [hq] at hv <;> cases hv <;> first | exact ⟨_,rfl⟩ | (rename_i h; cases h)
        obtain ⟨cl,hu⟩:=hu
        rw [hu] at hv
        obtain ⟨L,hL,hround⟩:=hrs l _ s G w (c.args.toList.map a.eval) _ (n - 1) r cl I.mem I.tab hl hv (Res.All.bind.1 hS)
        have hrun:(execOp a.eval o).run P w=.ok (.round cl L.fn ((L.params.zip (c.args.toList.map a.eval).toArray).foldl (fun tmps (t,a)=>tmps.setIfInBounds t a) L.tmps) L.assign L.body) w:=by
          rw [← hL]
          simp only [execOp,ho,resolve,hcal,hu,Deferred.ofValue,invoke,Sem.run_bind,Sem.run_pure,Result.andThen_ok]
          rw [hargs]
          simp
        rw [hrun,Oper.uponIn_round]
        refine ⟨Fen_some r n,hround.mono fun e w' h=>?_⟩
        obtain ⟨ret,s',G',hQ,hret,hR',hxx⟩:=h
        cases ret with
        | val v =>
          cases e <;> simp only [RetR] at hret
          dsimp only at hQ
          refine N.on _ _ _ _ _ hQ (I.step hxx hR' ?_ (by cases o.dst <;> rfl))
          rw [hd]
          exact put_RR (I.regs.mono hxx) o.dst hret
        | panic v=>exact hQ.elim
      · exact hS.elim
    · rename_i it he
      obtain ⟨x,ho,hx⟩:=inv_next (hins _ he)
      split at hS
      · rename_i b hit
        have hv:=opd_VR I.regs hx
        rw [hit] at hv
        split at hS
        · rename_i m ver rest last hb
          split at hS
          · rename_i sh ver' es hm
            split at hS
            · rename_i hver
              subst hver
              obtain ⟨k1,k2⟩:=sim_next I.mem hb hm hv o.type
              split at hS
              · obtain ⟨w',hrun,he',hh⟩:=k1 rfl
                have:(execOp a.eval o).run P w=.ok (.value (.tuple #[.bool false])) w':=by simp [execOp,ho,hrun]
                rw [this,Oper.uponIn_value]
                have hxx:=Ext.same (G:=G) (H:=s.heap) he' hh
                refine N.on _ _ _ _ _ hS (I.step hxx (I.mem.same he' hh) ?_ (by cases o.dst <;> rfl))
                rw [hd]
                exact put_RR (I.regs.mono hxx) o.dst (.tup _ [.bool false] rfl (LR.cons (.pure _ _ (.bool _)) .nil).2)
              · obtain ⟨i,k,v,rr,w',hi',hkv,hrun,hR',hxx,hvr⟩:=k2 (by simp)
                have hSi:=hS.2 i hi'
                simp only [hkv] at hSi
                have:(execOp a.eval o).run P w=.ok (.value rr) w':=by simp [execOp,ho,hrun]
                rw [this,Oper.uponIn_value]
                refine N.on _ _ _ _ _ hSi (I.step hxx hR' ?_ (by cases o.dst <;> rfl))
                rw [hd]
                exact put_RR (I.regs.mono hxx) o.dst hvr
            · exact hS.elim
          · exact hS.elim
        · exact hS.elim
      · exact hS.elim
    · rename_i x he
      obtain ⟨y,ho,hy⟩:=inv_panic (hins _ he)
      have hv:=opd_VR I.regs hy
      split at hS
      · rename_i t v hx
        rw [hx] at hv
        obtain ⟨u,hu,hvv⟩:=hv.iface_inv
        have:(execOp a.eval o).run P w=.halt (.panic (.iface t u)) w:=by simp [execOp,ho,hu,Instr.panic,goPanic,Sem.run]
        rw [this,Oper.uponIn_panic]
        exact N.off _ _ _ _ _ hS I (.iface t v u hvv)
      · exact hS.elim
    · split at hS
      · rename_i v s' he
        obtain ⟨u,w',G',hrun,hR',hx,hvr⟩:=evI_sim hi (a:=a) (lk:=s.leak) I.mem I.regs he
        have fin:next (a.put o.dst u) w':=by
          refine N.on _ _ _ _ _ hS (I.step hx hR' ?_ (by cases o.dst <;> rfl))
          rw [hd]
          exact put_RR (I.regs.mono hx) o.dst hvr
        rcases hrun with hrun | ⟨hrun,rfl⟩
        · rw [hrun,Oper.uponIn_value]; exact fin
        · rw [hrun,Oper.uponIn_skip]; exact fin
      · exact hS.elim
  · rw [if_neg hw] at hS
    rw [if_neg (by simpa using hw)]
    refine ⟨fun f _=>Fen_fn r f,N.on _ _ _ _ _ hS (I.step (Ext.refl _ _ _) I.mem ?_ (by cases o.dst <;> rfl))⟩
    rw [hd]
    exact put_RR I.regs o.dst .undef'
end
end Go.Ai
end
section
namespace Go.Ai
open Go
variable {T:List (Nat × Obj)}
theorem least_of {p:Nat→Prop} (h:∃ k,p k):∃ k,p k∧∀ j,j < k→¬ p j:=by
  obtain ⟨k,hk⟩:=h
  induction k using Nat.strongRecOn with
  | _ k ih =>
    by_cases hj:∃ j,j < k∧p j
    · obtain ⟨j,h1,h2⟩:=hj; exact ih j h1 h2
    · exact ⟨k,hk,fun j h1 h2=>hj ⟨j,h1,h2⟩⟩
open Classical in
noncomputable def least (p:Nat→Prop):Nat:=if h:∃ k,p k then (least_of h).choose else 0
theorem least_spec {p:Nat→Prop} (h:∃ k,p k):p (least p):=by
  unfold least; rw [dif_pos h]; exact (least_of h).choose_spec.1
theorem least_le {p:Nat→Prop} {k:Nat} (h:p k):least p≤k:=by
  have he:∃ k,p k:=⟨k,h⟩
  unfold least; rw [dif_pos he]
  exact Nat.le_of_not_lt fun hl=>(least_of he).choose_spec.2 k hl h
section
variable {P:Program} {call:CallF} {base:Option Nat} {own rows:List Nat} {G0:Gh} {H0:List AObj} {w0:World} {z:Nat} {r:Option Nat} {n fuel:Nat}
theorem ops_sim (hcs:CallSim T P call) (hrs:RoundSim T P call) {auto:Bool} {ops:Array Oper}:∀ {os:List Oper} {as1:List AOp},compileOps P auto own rows ops os=some as1→∀ {G:Gh} {s:St} {w:World} {ρ:Regs} {a:Act} {Q:AExit × Regs × St→Prop},
    Inv T P G0 H0 w0 z r G s.heap w ρ a→(evOps call base as1 ρ s).All Q→wpListIn (Fen r) n P ops (Post T P G0 H0 w0 z r Q) os a w
  | [],as1,hc,G,s,w,ρ,a,Q,I,h=>by
    simp [compileOps] at hc
    subst hc
    exact wpListIn_nil ⟨.normal,ρ,s,G,h,trivial,I⟩
  | o :: os,as1,hc,G,s,w,ρ,a,Q,I,h=>by
    simp only [compileOps] at hc
    obtain ⟨ao,ha,hc⟩:=bind_some hc
    obtain ⟨as',has,hc⟩:=bind_some hc
    cases hc
    simp only [evOps] at h
    refine wpListIn_step fun K hK=>?_
    refine op_sim hcs hrs ha I (Res.All.bind.1 h) ⟨fun ρ' s' G' w' a' hS I'=>hK _ _ (ops_sim hcs hrs has I' hS),fun v s' G' w' u hS I' hv=>?_⟩
    exact ⟨.panic v,ρ,s',G',hS,⟨u,rfl,hv⟩,I'⟩
def DrawSim (T:List (Nat × Obj)) (P:Program) (call:CallF):Prop:=∀ (own rows:List Nat) (id:Nat) (ops:Array Oper) (as1:List AOp) (chk:List (Nat × Nat × Nat)) (base:Option Nat) (fuel:Nat) (G0:Gh) (H0:List AObj) (w0:World) (z:Nat) (r:Option Nat) (n:Nat)
    (G:Gh) (s:St) (w:World) (ρ:Regs) (a:Act) (Q:AExit × Regs × St→Prop),compileOps P false own rows ops ops.toList=some as1→drawChk ops as1=some chk →
    Inv T P G0 H0 w0 z r G s.heap w ρ a→(evCode call base fuel (.draw as1 chk) ρ s).All Q→(Code.region id ops true).wpIn (Fen r) n P (Post T P G0 H0 w0 z r Q) a w
def RangeSim (T:List (Nat × Obj)) (P:Program) (call:CallF):Prop:=∀ (own rows:List Nat) (g:Operand) (ps:Array Tmp) (assign body:Code) (g':AOpd) (x y:ACode) (base:Option Nat) (fuel:Nat) (G0:Gh) (H0:List AObj) (w0:World) (z:Nat) (r:Option Nat) (n:Nat)
    (G:Gh) (s:St) (w:World) (ρ:Regs) (a:Act) (Q:AExit × Regs × St→Prop),z≤w.heap.size→opd g=some g'→compile P own rows assign=some x→compile P own rows body=some y →
    Inv T P G0 H0 w0 z r G s.heap w ρ a→(evCode call base fuel (.rangeF g' ps.toList x y) ρ s).All Q→(Code.rangeFunc g ps assign body).wpIn (Fen r) n P (Post T P G0 H0 w0 z r Q) a w
theorem code_sim (hcs:CallSim T P call) (hrs:RoundSim T P call) (hds:DrawSim T P call) (hgs:RangeSim T P call) (hz:z≤w0.heap.size):∀ (c:Code) {ac:ACode},compile P own rows c=some ac→∀ {G:Gh} {s:St} {w:World} {ρ:Regs} {a:Act} {Q:AExit × Regs × St→Prop},
    Inv T P G0 H0 w0 z r G s.heap w ρ a→(evCode call base fuel ac ρ s).All Q→c.wpIn (Fen r) n P (Post T P G0 H0 w0 z r Q) a w
  | .skip,ac,hc,G,s,w,ρ,a,Q,I,h=>by
    simp [compile] at hc; subst hc
    exact wpIn_skip ⟨.normal,ρ,s,G,h,trivial,I⟩
  | .region id ops draw,ac,hc,G,s,w,ρ,a,Q,I,h=>by
    simp only [compile] at hc
    obtain ⟨as1,has,hc⟩:=bind_some hc
    cases draw with
    | false =>
      simp at hc; subst hc
      exact wpIn_region_list (ops_sim hcs hrs has I h)
    | true =>
      simp only [if_true] at hc
      obtain ⟨chk,hchk,hc⟩:=bind_some hc
      cases hc
      exact hds own rows id ops as1 chk base fuel G0 H0 w0 z r n G s w ρ a Q has hchk I h
  | .seq x y,ac,hc,G,s,w,ρ,a,Q,I,h=>by
    simp only [compile] at hc
    obtain ⟨x',hx,hc⟩:=bind_some hc
    obtain ⟨y',hy,hc⟩:=bind_some hc
    cases hc
    simp only [evCode] at h
    refine wpIn_seq (wpIn_mono (code_sim hcs hrs hds hgs hz x hx I (Res.All.bind.1 h)) fun e a' w' hp=>?_)
    obtain ⟨ae,ρ',s',G',hQ,hxr,I'⟩:=hp
    cases ae <;> cases e <;> first | exact hxr.elim | skip
    · exact code_sim hcs hrs hds hgs hz y hy I' hQ
    · exact ⟨_,ρ',s',G',hQ,hxr,I'⟩
    · exact ⟨_,ρ',s',G',hQ,hxr,I'⟩
    · exact ⟨_,ρ',s',G',hQ,hxr,I'⟩
  | .cond c t e,ac,hc,G,s,w,ρ,a,Q,I,h=>by
    simp only [compile] at hc
    obtain ⟨c',hcc,hc⟩:=bind_some hc
    obtain ⟨x',hx,hc⟩:=bind_some hc
    obtain ⟨y',hy,hc⟩:=bind_some hc
    cases hc
    simp only [evCode] at h
    have hv:=opd_VR I.regs hcc
    split at h
    · rename_i hb
      rw [hb] at hv
      exact wpIn_cond_true hv.bool_inv (code_sim hcs hrs hds hgs hz t hx I h)
    · rename_i hb
      rw [hb] at hv
      exact wpIn_cond_false hv.bool_inv (code_sim hcs hrs hds hgs hz e hy I h)
    · exact h.elim
  | .block id b,ac,hc,G,s,w,ρ,a,Q,I,h=>by
    simp only [compile] at hc
    obtain ⟨x',hx,hc⟩:=bind_some hc
    cases hc
    simp only [evCode] at h
    refine wpIn_block (wpIn_mono (code_sim hcs hrs hds hgs hz b hx I (Res.All.bind.1 h)) fun e a' w' hp=>?_)
    obtain ⟨ae,ρ',s',G',hQ,hxr,I'⟩:=hp
    cases ae <;> cases e <;> first | exact hxr.elim | skip
    · exact ⟨.normal,ρ',s',G',hQ,trivial,I'⟩
    · rename_i i j
      have hij:i=j:=hxr
      subst hij
      simp only [Exit.inBlock]
      split
      · rename_i he
        simp only [he,if_true] at hQ
        exact ⟨.normal,ρ',s',G',hQ,trivial,I'⟩
      · rename_i he
        simp only [he,if_false] at hQ
        exact ⟨.exit i,ρ',s',G',hQ,rfl,I'⟩
    · exact ⟨_,ρ',s',G',hQ,hxr,I'⟩
    · exact ⟨_,ρ',s',G',hQ,hxr,I'⟩
  | .loop b,ac,hc,G,s,w,ρ,a,Q,I,h=>by
    simp only [compile] at hc
    obtain ⟨x',hx,hc⟩:=bind_some hc
    cases hc
    simp only [evCode] at h
    let J:Act→World→Nat→Prop:=fun a w k=>∃ ρ s G,Inv T P G0 H0 w0 z r G s.heap w ρ a∧(rounds (evCode call base fuel x') k ρ s).All Q
    refine wpIn_loop (fun a w=>∃ k,J a w k) (fun a w=>least (J a w)) ⟨fuel,ρ,s,G,I,h⟩ fun a w hJ=>?_
    have hmin:=least_spec hJ
    obtain ⟨ρ1,s1,G1,I1,h1⟩:=hmin
    cases hk:least (J a w) with
    | zero=>rw [hk] at h1; exact h1.elim
    | succ k =>
      rw [hk] at h1
      simp only [rounds] at h1
      refine wpIn_mono (code_sim hcs hrs hds hgs hz b hx I1 (Res.All.bind.1 h1)) fun e a' w' hp=>?_
      obtain ⟨ae,ρ',s',G',hQ,hxr,I'⟩:=hp
      cases ae <;> cases e <;> first | exact hxr.elim | skip
      · have hJ':J a' w' k:=⟨ρ',s',G',I',hQ⟩
        exact ⟨⟨k,hJ'⟩,Nat.lt_succ_of_le (least_le hJ')⟩
      · exact ⟨_,ρ',s',G',hQ,hxr,I'⟩
      · exact ⟨_,ρ',s',G',hQ,hxr,I'⟩
      · exact ⟨_,ρ',s',G',hQ,hxr,I'⟩
  | .exit id,ac,hc,G,s,w,ρ,a,Q,I,h=>by
    simp [compile] at hc; subst hc
    exact wpIn_exit ⟨.exit id,ρ,s,G,h,rfl,I⟩
  | .ret,ac,hc,G,s,w,ρ,a,Q,I,h=>by
    simp [compile] at hc; subst hc
    exact wpIn_ret ⟨.ret,ρ,s,G,h,trivial,I⟩
  | .label l,ac,hc,G,s,w,ρ,a,Q,I,h=>by
    simp [compile] at hc; subst hc
    exact wpIn_label ⟨.normal,ρ,s,G,h,trivial,I⟩
  | .rangeFunc g ps assign body,ac,hc,G,s,w,ρ,a,Q,I,h=>by
    simp only [compile] at hc
    obtain ⟨g',hg,hc⟩:=bind_some hc
    obtain ⟨x',hx,hc⟩:=bind_some hc
    obtain ⟨y',hy,hc⟩:=bind_some hc
    cases hc
    exact hgs own rows g ps assign body g' x' y' base fuel G0 H0 w0 z r n G s w ρ a Q (Nat.le_trans hz I.ext.size) hg hx hy I h
  | .goto l,ac,hc,G,s,w,ρ,a,Q,I,h=>by simp [compile] at hc
end
end Go.Ai
end
section
namespace Go.Ai
open Go
variable {T:List (Nat × Obj)}
section
variable {P:Program}
theorem run_getLoop {w:World} {c:Nat} {L:Loop} (h:w.heap[c]?=some (.loop L)):(Instr.getLoop c).run P w=.ok L w:=by
  simp [Instr.getLoop,getObj,Sem.run,h]
theorem run_setLoop {w:World} {c:Nat} {L:Loop} (h:w.heap[c]?=some (.loop L)) (o:Obj):(setObj c o).run P w=.ok () { w with heap:=w.heap.setIfInBounds c o }:=by
  simp [setObj,Sem.run,h]
theorem loop_at {G:Gh} {H:List AObj} {w:World} (hR:R P G H w) {l:Nat} {ρ ps x y rd j} (hl:H[l]?=some (.loop ρ ps x y rd j)) {c:Nat} (hc:G.blk l=some c) :
    ∃ L:Loop,w.heap[c]?=some (.loop L)∧ps=L.params.toList∧(∃ own rows,compile P own rows L.assign=some x∧compile P own rows L.body=some y) ∧
      L.tmps.size=ρ.length∧(∀ (i:Nat) x,ρ[i]?=some x→∃ u,L.tmps[i]?=some u∧VR G H w x u)∧(rd=true→L.state=.ready)∧(j.isSome=true→L.state ≠ .busy)∧L.pending=jumpCode j:=by
  obtain ⟨c',L,h1,h2⟩:=hR.obj l _ hl
  rw [hc] at h1; cases h1
  exact ⟨L,h2⟩
theorem turn_loop {G:Gh} {H:List AObj} {w:World} (hR:R P G H w) {l:Nat} {ρ ps x y rd j} (hl:H[l]?=some (.loop ρ ps x y rd j)) {c:Nat} (hc:G.blk l=some c) {L L':Loop} (hL:w.heap[c]?=some (.loop L))
    (hp:L'.params=L.params) (ha:L'.assign=L.assign) (hb:L'.body=L.body) (ht:L'.tmps=L.tmps) {rd':Bool} {j':Option Jump} (h1:rd'=true→L'.state=.ready) (h2:j'.isSome=true→L'.state ≠ .busy) (h3:L'.pending=jumpCode j') :
    R P G (H.set l (.loop ρ ps x y rd' j')) { w with heap:=w.heap.setIfInBounds c (.loop L') }∧Ext G H w G (H.set l (.loop ρ ps x y rd' j')) { w with heap:=w.heap.setIfInBounds c (.loop L') }:=by
  obtain ⟨L0,q1,q2,q3,q4,q5,q6,q7,q8⟩:=loop_at hR hl hc
  rw [hL] at q1; cases q1
  have htu:Turns (.loop ρ ps x y rd j) (.loop ρ ps x y rd' j'):=⟨rfl,rfl,rfl,rfl⟩
  have hx:=Ext.turn hR hl hc htu (w':={ w with heap:=w.heap.setIfInBounds c (.loop L') }) ⟨rfl,rfl,rfl⟩ (by simp) (fun q hq=>setObj_other w c _ hq)
  refine ⟨R.turn hR hl hc htu ⟨rfl,rfl,rfl⟩ (by simp) (fun q hq=>setObj_other w c _ hq) ⟨c,L',hc,setObj_at w c _ (arr_lt hL),by rw [hp]; exact q2,by rw [ha,hb]; exact q3,by rw [ht]; exact q4,fun i x hx'=>?_,h1,h2,h3⟩,hx⟩
  obtain ⟨u,k1,k2⟩:=q5 i x hx'
  exact ⟨u,by rw [ht]; exact k1,k2.mono hx⟩
theorem yield_inv {G:Gh} {H:List AObj} {w:World} {l cl:Nat} (h:VR G H w (.yield l) (.func (.yield cl) #[] #[])):l < H.length∧∀ ρ ps x y r j,H[l]?=some (.loop ρ ps x y r j)→G.blk l=some cl:=by
  cases h with
  | pure _ _ h=>cases h
  | yield _ _ hb h=>exact ⟨hb,h⟩
theorem lay_loop {G:Gh} {H:List AObj} {w:World} (hR:R P G H w) {ρ:Regs} {tmps:Array Value} (hr:RR G H w ρ tmps) {own rows:List Nat} {assign body:Code} {x y:ACode} (ha:compile P own rows assign=some x) (hb:compile P own rows body=some y)
    (ps:Array Tmp) (fn d:Nat) :
    R P (G.upd H.length (some w.heap.size) 0) (H ++ [.loop ρ ps.toList x y true none]) (w.alloc (.loop { state:=.ready,pending:=none,fn,tmps,params:=ps,assign,body,defers:=d })) ∧
    Ext G H w (G.upd H.length (some w.heap.size) 0) (H ++ [.loop ρ ps.toList x y true none]) (w.alloc (.loop { state:=.ready,pending:=none,fn,tmps,params:=ps,assign,body,defers:=d })):=by
  have he:=env_alloc w (.loop { state:=.ready,pending:=none,fn,tmps,params:=ps,assign,body,defers:=d })
  have hs:w.heap.size < (w.alloc (.loop { state:=.ready,pending:=none,fn,tmps,params:=ps,assign,body,defers:=d })).heap.size:=by simp
  have hlt:∀ k,k < w.heap.size→(w.alloc (.loop { state:=.ready,pending:=none,fn,tmps,params:=ps,assign,body,defers:=d })).heap[k]?=w.heap[k]?:=fun k hk=>heap_alloc_lt w _ hk
  have hx:=Ext.push hR (.loop ρ ps.toList x y true none) (some w.heap.size) 0 he (Nat.le_of_lt hs) hlt (fun k hk=>by cases hk; rfl)
  refine ⟨R.push hR _ _ _ he (Nat.le_of_lt hs) hlt (fun k hk=>by cases hk; exact ⟨rfl,hs⟩) ⟨w.heap.size,_,by simp,heap_alloc_at w _,rfl,⟨own,rows,ha,hb⟩,hr.1,fun i x' hx'=>?_,fun _=>rfl,(fun h=>by cases h),rfl⟩,hx⟩
  obtain ⟨u,hu,hv⟩:=hr.2 i x' hx'
  exact ⟨u,hu,hv.mono hx⟩
theorem range_sim {call:CallF} (hcs:CallSim T P call):RangeSim T P call:=by
  intro own rows g ps assign body g' x y base fuel G0 H0 w0 z r n G s w ρ a Q hz hg hx hy I h
  simp only [evCode] at h
  have hgv:=opd_VR I.regs hg
  split at h
  case h_2=>exact h.elim
  rename_i f caps hgf
  rw [hgf] at hgv
  obtain ⟨us,hgu,hlu⟩:=hgv.fn_inv
  refine wpIn_rangeFunc fun fn _=>?_

  have main : ∀ (G1:Gh) (w1:World) (d cl:Nat) (mark:List Deferred),(Instr.enterLoop fn a.tmps ps assign body (Fen r).round).run P w=.ok (cl,mark) w1 →
      R P G1 (s.heap ++ [.loop ρ ps.toList x y true none]) w1→Ext G s.heap w G1 (s.heap ++ [.loop ρ ps.toList x y true none]) w1→G1.blk s.heap.length=some cl →
      Marks z G1 (s.heap ++ [.loop ρ ps.toList x y true none]) w1 (mark ++ a.defers) →
      ∃ (l:Nat) (mark:List Deferred) (w₁:World) (d:Deferred) (w₁':World) (f:FuncId) (args:Array Value) (w₂:World),
      (Instr.enterLoop fn a.tmps ps assign body (Fen r).round).run P w=.ok (l,mark) w₁ ∧
      (resolve a.eval (rangeCall g l) 0).run P w₁=.ok d w₁' ∧
      (∀ f',Target.leads P w₁' d.target d.args=some f'→(Fen r).fn f') ∧
      (invoke d.target d.args).run P w₁'=.ok (.enter f args) w₂ ∧
      ((Fen r).depth.isSome=true→1≤n) ∧
      CallsIn (Fen r) (n - 1) P f args w₂ (rangePost (Fen r) n P l (Post T P G0 H0 w0 z r Q) { a with defers:=mark ++ a.defers }):=by
    intro G1 w1 d cl mark hen hR1 hx1 hbl hm1
    have hyield:VR G1 (s.heap ++ [.loop ρ ps.toList x y true none]) w1 (.yield s.heap.length) (.func (.yield cl) #[] #[]):=.yield _ _ (by simp) (fun _ _ _ _ _ _ _=>hbl)
    have hargs:LR G1 (s.heap ++ [.loop ρ ps.toList x y true none]) w1 (.yield s.heap.length :: caps) (.func (.yield cl) #[] #[] :: us):=LR.cons hyield (hlu.mono hx1)
    obtain ⟨hp,hcall⟩:=hcs f _ { s with heap:=s.heap ++ [.loop ρ ps.toList x y true none] } G1 w1 _ _ (n - 1) hR1 (I.tab.mono hx1.toExtW) hargs (Res.All.bind.1 h)
    refine ⟨cl,mark,w1,{ target:=.fn (.func f) us.toArray,args:=#[.func (.yield cl) #[] #[]] },w1,f,(.func (.yield cl) #[] #[] :: us).toArray,w1,hen,?_,fun f' _=>Fen_fn r f',?_,Fen_some r n,Fen_calls.2 (hcall.mono fun e w' hc=>?_)⟩
    · simp only [resolve,hgu,Deferred.ofValue]
      simp [Act.eval]
    · simp only [invoke]
      rw [show (#[.func (.yield cl) #[] #[]]:Array Value) ++ us.toArray=(.func (.yield cl) #[] #[] :: us).toArray from by simp]
      exact run_plain hp _ _
    · obtain ⟨ret,s',G',hQ,hret,hR',hx'⟩:=hc
      cases ret with
      | panic v=>exact hQ.elim
      | val v =>
        cases e <;> simp only [RetR] at hret
        rename_i uv
        have I1:Inv T P G0 H0 w0 z r G' s'.heap w' ρ { a with defers:=mark ++ a.defers } :=
          ⟨hR',(I.ext.trans hx1).trans hx',(I.regs.mono hx1).mono hx',hm1.mono hx',(I.round.mono hx1).mono hx',(I.tab.mono hx1.toExtW).mono hx'.toExtW⟩
        dsimp only at hQ
        have hat:(s.heap ++ [AObj.loop ρ ps.toList x y true none])[s.heap.length]?=some (.loop ρ ps.toList x y true none):=get_append_eq
        obtain ⟨r',j',hl',hb'⟩:=hx'.loop _ _ _ _ _ _ _ hat
        rw [hbl] at hb'
        rw [hl'] at hQ
        dsimp only at hQ
        obtain ⟨L,hL,e1,e2,e3,e4,e5,e6,e7⟩:=loop_at hR' hl' hb'
        have hbusy:(r'=true∨j'.isSome=true)→L.state ≠ .busy:=by
          rintro (h | h)
          · rw [e5 h]; simp
          · exact e6 h
        have hor:r'=true∨j'.isSome=true:=by
          cases r' with
          | true=>exact .inl rfl
          | false =>
            cases j' with
            | none=>exact hQ.elim
            | some j=>exact .inr rfl
        have hb:=hbusy hor
        obtain ⟨k1,k2⟩:=turn_loop hR' hl' hb' hL (L':={ L with state:=.exhausted }) rfl rfl rfl rfl (rd':=false) (j':=j') (fun h=>by cases h) (fun _=>by simp) e7
        have I2:=I1.step k2 k1 (I1.regs.mono k2) rfl
        refine ⟨jumpCode j',{ w' with heap:=w'.heap.setIfInBounds cl (.loop { L with state:=.exhausted }) },?_,?_⟩
        · rw [← e7]
          simp [Instr.endLoop,run_getLoop hL,hb,run_setLoop hL]
        · cases j' with
          | none =>
            cases r' with
            | true=>exact ⟨.normal,ρ,{ s' with heap:=s'.heap.set s.heap.length (.loop ρ ps.toList x y false none) },G',hQ,trivial,I2⟩
            | false=>exact hQ.elim
          | some j =>
            cases j with
            | ret=>cases r' <;> exact wpIn_ret ⟨.ret,ρ,{ s' with heap:=s'.heap.set s.heap.length (.loop ρ ps.toList x y false (some .ret)) },G',hQ,trivial,I2⟩
            | exit id=>cases r' <;> exact wpIn_exit ⟨.exit id,ρ,{ s' with heap:=s'.heap.set s.heap.length (.loop ρ ps.toList x y false (some (.exit id))) },G',hQ,rfl,I2⟩
  cases r with
  | none =>
    have he:=env_alloc w (.deferred (some []))
    have hs:w.heap.size≤(w.alloc (.deferred (some []))).heap.size:=by simp
    have hw:∀ k,k < w.heap.size→(w.alloc (.deferred (some []))).heap[k]?=w.heap[k]?:=fun k hk=>heap_alloc_lt w _ hk
    have hxA:=Ext.grow he hs hw I.mem
    have hRA:=R.grow I.mem he hs hw
    obtain ⟨k1,k2⟩:=lay_loop hRA (I.regs.mono hxA) hx hy ps fn w.heap.size
    have hdS:Stable G s.heap.length (w.alloc (.deferred (some []))) w.heap.size:=⟨by simp,fun b hb h=>absurd (I.mem.lt b _ hb h) (Nat.lt_irrefl _)⟩
    obtain ⟨t1,t2⟩:=k2.stable _ hdS
    refine main _ _ w.heap.size (w.alloc (.deferred (some []))).heap.size [{ target:=.collected w.heap.size,args:=#[] }] ?_ k1 (hxA.trans k2) (by simp) ⟨fun d hd=>?_,?_⟩
    · simp [Instr.enterLoop,Fen_round,newObj,Sem.run]
    · rcases List.mem_append.1 hd with h1 | h1
      · simp at h1
        exact ⟨w.heap.size,h1,hz,t1,by rw [t2]; exact heap_alloc_at w _⟩
      · exact ((I.marks.mono hxA).mono k2).each d h1
    · rw [List.singleton_append,List.nodup_cons]
      refine ⟨fun hm=>?_,I.marks.nodup⟩
      obtain ⟨c,h1,_,h3,_⟩:=I.marks.each _ hm
      cases h1
      exact Nat.lt_irrefl _ h3.1
  | some cl =>
    obtain ⟨l0,ρ0,ps0,x0,y0,rd0,j0,hl0,hb0⟩:=I.round cl rfl
    obtain ⟨L0,hL0,_⟩:=loop_at I.mem hl0 hb0
    obtain ⟨k1,k2⟩:=lay_loop I.mem I.regs hx hy ps fn L0.defers
    refine main _ _ 0 w.heap.size [] ?_ k1 k2 (by simp) (I.marks.mono k2)
    simp [Instr.enterLoop,Fen_round,run_getLoop hL0,newObj,Sem.run]
theorem params_RR {G:Gh} {H:List AObj} {w:World}:∀ (ps:List Nat) {args:List AV} {us:List Value} {ρ:Regs} {t:Array Value},LR G H w args us→RR G H w ρ t →
    RR G H w ((ps.zip args).foldl (fun ρ p=>ρ.set p.1 p.2) ρ) ((ps.zip us).foldl (fun t p=>t.setIfInBounds p.1 p.2) t)
  | [],_,_,_,_,_,hr=>by simpa using hr
  | p :: ps,[],us,ρ,t,hl,hr=>by
    have:us=[]:=List.eq_nil_of_length_eq_zero hl.1
    subst this
    simpa using hr
  | p :: ps,x :: args,[],ρ,t,hl,hr=>by have:=hl.1; simp at this
  | p :: ps,x :: args,u :: us,ρ,t,hl,hr=>by
    simp only [List.zip_cons_cons,List.foldl_cons]
    refine params_RR ps ⟨by have:=hl.1; simpa using this,fun i y v hy hv=>hl.2 (i + 1) y v (by simpa using hy) (by simpa using hv)⟩ ?_
    have:=put_RR (a:={ tmps:=t,defers:=[] }) hr (some p) (hl.2 0 x u rfl rfl)
    exact this
theorem round_sim {prog:AProg} {k:Nat} (hcs:CallSim T P (ev prog k)) (hrs:RoundSim T P (ev prog k)) (hds:DrawSim T P (ev prog k)) (hgs:RangeSim T P (ev prog k)):RoundSim T P (ev prog (k + 1)):=by
  intro l args s G w us Q n r cl hR hT hl hy hA
  simp only [ev] at hA
  split at hA
  case h_2=>exact hA.elim
  rename_i ρ ps x y jump hlo
  split at hA
  case isFalse=>exact hA.elim
  rename_i hlen
  obtain ⟨hll,hblk⟩:=yield_inv hy
  have hblk:=hblk _ _ _ _ _ _ hlo
  obtain ⟨L,hL,e1,⟨own,rows,ea,eb⟩,e3,e4,e5,e6,e7⟩:=loop_at hR hlo hblk
  refine ⟨L,?_,?_⟩
  · have:¬ us.length ≠ L.params.size:=by
      have h1:=hl.1
      rw [e1] at hlen
      simp at hlen
      omega
    simp only [Instr.yield,Sem.run_bind,run_getLoop hL,Result.andThen_ok,List.size_toArray,Sem.run_ite,if_neg this,Sem.run_pure]
  · have hround:(Fen r).inRound cl=Fen (some cl):=Fen_in r cl
    refine roundIn_of_wpIn (Fen_fn r _) ?_
    rw [hround]
    have hInR:∀ {G':Gh} {H':List AObj} {w':World},Ext G s.heap w G' H' w'→InR (some cl) G' H':=fun hx c hc=>by
      cases hc
      obtain ⟨r',j',h1,h2⟩:=hx.loop _ _ _ _ _ _ _ hlo
      exact ⟨l,_,_,_,_,r',j',h1,h2.trans hblk⟩
    have hregs:RR G s.heap w ρ L.tmps:=⟨e3,e4⟩
    have hpar:=params_RR L.params.toList hl hregs
    have hpar':RR G s.heap w ((ps.zip args).foldl (fun ρ p=>ρ.set p.1 p.2) ρ) ((L.params.zip us.toArray).foldl (fun tmps (t,a)=>tmps.setIfInBounds t a) L.tmps):=by
      rw [e1]
      have:(L.params.zip us.toArray).foldl (fun tmps (t,a)=>tmps.setIfInBounds t a) L.tmps=((L.params.toList.zip us).foldl (fun t p=>t.setIfInBounds p.1 p.2) L.tmps):=by
        rw [← Array.foldl_toList]
        simp
      rw [this]
      exact hpar
    have I0:Inv T P G s.heap w 0 (some cl) G s.heap w ((ps.zip args).foldl (fun ρ p=>ρ.set p.1 p.2) ρ) { tmps:=(L.params.zip us.toArray).foldl (fun tmps (t,a)=>tmps.setIfInBounds t a) L.tmps,defers:=[] } :=
      ⟨hR,Ext.refl _ _ _,hpar',Marks.nil _ _ _ _,hInR (Ext.refl _ _ _),hT⟩
    refine wpIn_mono (code_sim (n:=n) hcs hrs hds hgs (Nat.zero_le _) L.assign ea I0 (Res.All.bind.1 hA)) fun e a1 w1 hp=>?_
    obtain ⟨ae,ρ1,s1,G1,hQ,hxr,I1⟩:=hp
    cases ae <;> cases e <;> first | exact hxr.elim | exact hQ.elim | skip
    dsimp only at hQ
    split at hQ
    case h_2=>exact hQ.elim
    rename_i ρ' ps' x' y' hl1
    obtain ⟨r1,j1,hl1',hb1⟩:=I1.ext.loop _ _ _ _ _ _ _ hlo
    rw [hl1] at hl1'
    cases hl1'
    rw [hblk] at hb1
    obtain ⟨L1,hL1,f1,f2,f3,f4,f5,f6,f7⟩:=loop_at I1.mem hl1 hb1
    obtain ⟨k1,k2⟩:=turn_loop I1.mem hl1 hb1 hL1 (L':={ L1 with state:=.busy }) rfl rfl rfl rfl (rd':=false) (j':=none) (fun h=>by cases h) (fun h=>by cases h) f7
    have I2:=I1.step k2 k1 (I1.regs.mono k2) rfl
    refine ⟨{ w1 with heap:=w1.heap.setIfInBounds cl (.loop { L1 with state:=.busy }) },?_,?_⟩
    · have hst:=f5 rfl
      simp [Instr.beginRound,run_getLoop hL1,run_setLoop hL1,hst]
    ·
      refine wpIn_mono (code_sim (n:=n) hcs hrs hds hgs (Nat.zero_le _) L.body eb (s:={ s1 with heap:=s1.heap.set l (.loop ρ ps x y false none) }) I2 (Res.All.bind.1 hQ)) fun e2 a2 w2 hp2=>?_
      obtain ⟨ae2,ρ2,s2,G2,hQ2,hxr2,I3⟩:=hp2
      have fin:∀ (jump:Option Jump),Q (.val (.bool jump.isNone),{ s2 with heap:=s2.heap.set l (.loop ρ ps x y jump.isNone jump) }) →
          ∃ v w',(Instr.endRound cl (jumpCode jump)).run P w2=.ok v w'∧CPost P G s.heap w Q (.returned v) w':=by
        intro jump hq
        obtain ⟨r3,j3,hl3,hb3⟩:=I3.ext.loop _ _ _ _ _ _ _ hlo
        rw [hblk] at hb3
        obtain ⟨L3,hL3,g1,g2,g3,g4,g5,g6,g7⟩:=loop_at I3.mem hl3 hb3
        have hn:(jumpCode jump).isNone=jump.isNone:=by cases jump with | none=>rfl | some j=>cases j <;> rfl
        obtain ⟨m1,m2⟩:=turn_loop I3.mem hl3 hb3 hL3 (L':={ L3 with state:=if (jumpCode jump).isNone then .ready else .done,pending:=jumpCode jump }) rfl rfl rfl rfl (rd':=jump.isNone) (j':=jump)
          (fun h=>by rw [hn,h]; rfl) (fun h=>by rw [hn]; cases jump with | none=>cases h | some j=>simp) rfl
        refine ⟨.bool jump.isNone,{ w2 with heap:=w2.heap.setIfInBounds cl (.loop { L3 with state:=if (jumpCode jump).isNone then .ready else .done,pending:=jumpCode jump }) },?_,?_⟩
        · simp only [Instr.endRound,Sem.run_bind,run_getLoop hL3,Result.andThen_ok,run_setLoop hL3,Sem.run_pure,hn]
        · exact ⟨.val (.bool jump.isNone),{ s2 with heap:=s2.heap.set l (.loop ρ ps x y jump.isNone jump) },G2,hq,.pure _ _ (.bool _),m1,I3.ext.trans m2⟩
      cases ae2 <;> cases e2 <;> first | exact hxr2.elim | skip
      · exact fin none hQ2
      · rename_i i j
        have hij:i=j:=hxr2
        subst hij
        exact fin (some (.exit i)) hQ2
      · exact fin (some .ret) hQ2
      · exact hQ2.elim
end
end Go.Ai
end
section
namespace Go.Ai
open Go
structure Drop (z:Nat) (w w':World):Prop where
  env:Env w w'
  size:w'.heap.size=w.heap.size
  heap:∀ c,w'.heap[c]?=w.heap[c]?∨(z≤c∧∃ d,w.heap[c]?=some (.deferred d))
theorem Drop.refl (z:Nat) (w:World):Drop z w w:=⟨⟨rfl,rfl,rfl⟩,rfl,fun _=>.inl rfl⟩
theorem Drop.at {z:Nat} {w w':World} (h:Drop z w w') {c:Nat} {o:Obj} (ho:w.heap[c]?=some o) (hd:∀ d,o ≠ .deferred d):w'.heap[c]?=some o:=by
  rcases h.heap c with e | ⟨_,d,e⟩
  · rw [e]; exact ho
  · rw [ho] at e; cases e; exact absurd rfl (hd d)
theorem Drop.cell {z:Nat} {w w':World} (h:Drop z w w') {c o:Nat} {v:Value} (hv:w.cell? ⟨c,o,none⟩=some v):w'.cell? ⟨c,o,none⟩=some v:=by
  rcases h.heap c with e | ⟨_,d,e⟩
  · exact (cell_heap e).trans hv
  · simp [World.cell?,e] at hv
section
variable {P:Program} {G:Gh} {H:List AObj} {w w':World} {z:Nat}
theorem Stable.drop (h:Drop z w w') {n c:Nat} (hs:Stable G n w c):Stable G n w' c:=⟨by rw [h.size]; exact hs.1,hs.2⟩
theorem PR.drop (h:Drop z w w') {n:Nat} {x:AV} {u:Value} (hp:PR w (Stable G n w) x u):PR w' (Stable G n w') x u :=
  hp.monoC fun _ hc=>⟨hc.drop h,fun _ _ hv=>h.cell hv⟩
theorem VR.drop (h:Drop z w w') {x:AV} {u:Value} (hv:VR G H w x u):VR G H w' x u:=by
  induction hv with
  | pure x u hp=>exact .pure x u (hp.drop h)
  | agg cs us hl _ ih=>exact .agg cs us hl ih
  | tup cs us hl _ ih=>exact .tup cs us hl ih
  | iface t x u _ ih=>exact .iface t x u ih
  | fn f cs us hl _ ih=>exact .fn f cs us hl ih
  | ptr b off ver a hb hv hh=>exact .ptr b off ver a hb hv hh
  | sref b off len ver sz a cap hb hv hh=>exact .sref b off len ver sz a cap hb hv hh
  | vptr cs off c o f hS hc hv=>exact .vptr cs off c o f (hS.drop h) (fun j x hx=>h.cell (hc j x hx)) (fun j x hx=>(hv j x hx).drop h)
  | map b c hb hh=>exact .map b c hb hh
  | yield l c hb hh=>exact .yield l c hb hh
  | iter b c hb hh=>exact .iter b c hb hh
theorem R.drop (h:Drop z w w') (hR:R P G H w):R P G H w':=by
  refine ⟨hR.inj,fun b c hb hc=>by rw [h.size]; exact hR.lt b c hb hc,fun b o ho=>?_⟩
  have:=hR.obj b o ho
  cases o with
  | cells cs =>
    rcases this with h1 | ⟨c,C,e,h1,h2,h3,h4,h5⟩
    · exact .inl h1
    · exact .inr ⟨c,C,e,h1,h.at h2 (fun d q=>by cases q),h3,h4,fun i x hx=>let ⟨a,u,b,v⟩:=h5 i x hx; ⟨a,u,b,v.drop h⟩⟩
  | map t v es =>
    obtain ⟨c,E,clock,h1,h2,h3,h4,h5,h6⟩:=this
    exact ⟨c,E,clock,h1,h.at h2 (fun d q=>by cases q),h3,fun i k v hk=>let ⟨a,e,b,p,q⟩:=h4 i k v hk; ⟨a,e,b,p.drop h,q.drop h⟩,h5,h6⟩
  | iter m ver rest last =>
    obtain ⟨u1,u2,c,cm,since,seen,stepped,h1,h2,h3,h4,h5⟩:=this
    refine ⟨u1,u2,c,cm,since,seen,stepped,h1,h.at h2 (fun d q=>by cases q),h3,h4,fun t es hm=>?_⟩
    obtain ⟨E,r1,r2,r3,r4,r5⟩:=h5 t es hm
    exact ⟨E,h.at r1 (fun d q=>by cases q),r2,r3,fun i k v hk=>let ⟨e,a,p,q⟩:=r4 i k v hk; ⟨e,a,p.drop h,q.drop h⟩,
      fun k v hk=>let ⟨s,e,a,b,p,q⟩:=r5 k v hk; ⟨s,e,a,b,p.drop h,q.drop h⟩⟩
  | loop ρ ps x y r j =>
    obtain ⟨c,L,h1,h2,h3,h4,h5,h6,h7⟩:=this
    exact ⟨c,L,h1,h.at h2 (fun d q=>by cases q),h3,h4,h5,fun i x hx=>let ⟨u,a,b⟩:=h6 i x hx; ⟨u,a,b.drop h⟩,h7⟩
theorem RR.drop (h:Drop z w w') {ρ:Regs} {t:Array Value} (hr:RR G H w ρ t):RR G H w' ρ t:=⟨hr.1,fun i x hx=>let ⟨u,a,b⟩:=hr.2 i x hx; ⟨u,a,b.drop h⟩⟩
theorem Ext.drop {G0:Gh} {H0:List AObj} {w0:World} (h:Drop z w w') (hz:w0.heap.size≤z) (a:Ext G0 H0 w0 G H w) (hlt:∀ b c,b < H0.length→G0.blk b=some c→c < w0.heap.size):Ext G0 H0 w0 G H w':=by
  have old:∀ c,c < w0.heap.size→w'.heap[c]?=w.heap[c]?:=fun c hc=>by
    rcases h.heap c with e | ⟨hz',_⟩
    · exact e
    · omega
  refine ⟨⟨a.len,h.env.1.trans a.os,h.env.2.1.trans a.tape,h.env.2.2.trans a.output,by rw [h.size]; exact a.size,fun c hc=>?_,a.cells,fun b t v es hb=>?_,a.iter,a.loop⟩,a.kept⟩
  · obtain ⟨k1,k2⟩:=a.stable c hc
    exact ⟨k1.drop h,(old c hc.1).trans k2⟩
  · obtain ⟨v',es',q1,q2,q3,q4⟩:=a.map b t v es hb
    exact ⟨v',es',q1,q2,q3,fun e=>⟨(q4 e).1,fun c hc=>(old c (hlt b c (lt_of_get hb) hc)).trans ((q4 e).2 c hc)⟩⟩
theorem leaves_marks {F:Fence} {n:Nat} {fn:Func} {tmps:Array Value} {Rp:Ending→World→Prop} {u:FrameMode} (hu:u ≠ .run):∀ {ds:List Deferred} {w:World},Marks z G H w ds →
    (∀ w',Drop z w w'→LeavesIn F n P fn tmps Rp [] u w')→LeavesInM F n P fn tmps Rp ds u w
  | [],w,_,h=>h w (Drop.refl z w)
  | d :: ds,w,hm,h=>by
    obtain ⟨c,hd,hz,hS,hc⟩:=hm.each d (.head _)
    have hcl:=hS.1
    have hdrop:Drop z w { w with heap:=w.heap.setIfInBounds c (.deferred none) }:=by
      refine ⟨⟨rfl,rfl,rfl⟩,by simp,fun x=>?_⟩
      by_cases e:x=c
      · subst e; exact .inr ⟨hz,_,hc⟩
      · exact .inl (setObj_other w c _ e)
    refine ⟨hu,.inl ⟨c,{ w with heap:=w.heap.setIfInBounds c (.deferred none) },by rw [hd],?_,leaves_marks hu (ds:=ds) ⟨fun d' hd'=>?_,(List.nodup_cons.1 hm.nodup).2⟩ fun w' hw'=>h w' ?_⟩⟩
    · simp [Instr.takeDeferred,getObj,setObj,Sem.run,hc]
    · obtain ⟨c',hd2,hz',hS',hc'⟩:=hm.each d' (.tail _ hd')
      have hne:c' ≠ c:=by
        intro e
        subst e
        rw [hd,← hd2] at hm
        exact (List.nodup_cons.1 hm.nodup).1 hd'
      exact ⟨c',hd2,hz',hS'.drop hdrop,by rw [setObj_other w c _ hne]; exact hc'⟩
    · refine ⟨⟨hw'.env.1,hw'.env.2.1,hw'.env.2.2⟩,by rw [hw'.size,hdrop.size],fun x=>?_⟩
      rcases hdrop.heap x with e | e
      · rcases hw'.heap x with e2 | ⟨e2,d2,e3⟩
        · exact .inl (e2.trans e)
        · exact .inr ⟨e2,d2,e.symm.trans e3⟩
      · exact .inr e
theorem results_sim (hR:R P G H w) {ρ:Regs} {tmps:Array Value} (hr:RR G H w ρ tmps):∀ {rs:List ResultVar} {fz:List (Option Nat)} {l:List ARes} {vs:List AV},compileRes P rs fz=some l→resultsOf ρ H l=some vs →
    ∃ us,(rs.mapM (fun | .tmp t=>pure (tmps.getD t undef) | .cell a t=>do loadVar t (← asAddr (tmps.getD a undef))):Sem (List Value)).run P w=.ok us w∧LR G H w vs us
  | [],fz,l,vs,h,hv=>by
    simp [compileRes] at h
    subst h
    simp [resultsOf] at hv
    subst hv
    exact ⟨[],rfl,.nil⟩
  | r :: rs, fz,l,vs,h,hv=>by
    cases r with
    | tmp t =>
      simp only [compileRes] at h
      obtain ⟨l',hl',h⟩:=bind_some h
      cases h
      simp only [resultsOf,resultOf] at hv
      obtain ⟨v,hv1,hv⟩:=bind_some hv
      obtain ⟨vs',hv2,hv⟩:=bind_some hv
      cases hv1; cases hv
      obtain ⟨us,h1,h2⟩:=results_sim hR hr hl' hv2
      refine ⟨tmps.getD t undef :: us,?_,LR.cons (getD_VR hr t) h2⟩
      rw [List.mapM_cons]
      simp only [Sem.run_bind,Sem.run_pure,Result.andThen_ok,h1]
    | cell a t =>
      simp only [compileRes] at h
      obtain ⟨g,hg,h⟩:=bind_some h
      obtain ⟨l',hl',h⟩:=bind_some h
      cases h
      simp only [resultsOf,resultOf] at hv
      obtain ⟨v,hv1,hv⟩:=bind_some hv
      obtain ⟨vs',hv2,hv⟩:=bind_some hv
      cases hv
      obtain ⟨us,h1,h2⟩:=results_sim hR hr hl' hv2
      obtain ⟨u,hu,hvu⟩:=ps_load hR hg (getD_VR hr a) hv1
      refine ⟨u :: us,?_,LR.cons hvu h2⟩
      have hload:(do loadVar t (← asAddr (tmps.getD a undef)):Sem Value).run P w=.ok u w:=by
        have hsh:∃ ad,tmps.getD a undef=.pointer (some ad):=by
          have hg:=getD_VR hr a
          unfold ld at hv1
          split at hv1
          · rename_i he
            rw [he] at hg
            exact hg.ptr_shape
          · rename_i he
            rw [he] at hg
            obtain ⟨_,_,_,q,_⟩:=hg.vptr_inv
            exact ⟨_,q⟩
          · cases hv1
        obtain ⟨ad,had⟩:=hsh
        rw [had] at hu ⊢
        simpa [Instr.loadAt,Instr.sureAddr,asAddr] using hu
      rw [List.mapM_cons]
      rw [Sem.run_bind,hload]
      simp only [Sem.run_bind,Sem.run_pure,Result.andThen_ok,h1]
def pack (us:List Value):Value:=if h:us.toArray.size=1 then us.toArray[0] else .tuple us.toArray
theorem pack_VR {vs:List AV} {us:List Value} (h:LR G H w vs us):VR G H w (packR vs) (pack us):=by
  obtain ⟨hl,h⟩:=h
  match vs,us,hl with
  | [v],[u],_=>exact h 0 v u rfl rfl
  | [],[],_=>exact .tup [] [] rfl h
  | v :: v2 :: vs,u :: u2 :: us,hl=>exact .tup _ (u :: u2 :: us) hl h
theorem results_run (hR:R P G H w) {ρ:Regs} {tmps:Array Value} (hr:RR G H w ρ tmps) {fn:Func} {fz:List (Option Nat)} {l:List ARes} {vs:List AV} (h:compileRes P fn.results.toList fz=some l) (hv:resultsOf ρ H l=some vs) :
    ∃ us,(results fn tmps).run P w=.ok (pack us) w∧LR G H w vs us:=by
  obtain ⟨us,h1,h2⟩:=results_sim hR hr h hv
  refine ⟨us,?_,h2⟩
  simp only [results,Sem.run_bind]
  rw [Array.mapM_eq_mapM_toList]
  have:(List.toArray <$> (fn.results.toList.mapM (fun | .tmp t=>pure (tmps.getD t undef) | .cell a t=>do loadVar t (← asAddr (tmps.getD a undef))):Sem (List Value))).run P w=.ok us.toArray w:=by
    rw [← bind_pure_comp,Sem.run_bind,h1]
    rfl
  exact congrArg (fun r=>Result.andThen r _) this
end
end Go.Ai
end
section
namespace Go.Ai
open Go
variable {T:List (Nat × Obj)}
section
variable {P:Program} {G:Gh} {H:List AObj} {w:World}
theorem VR.frz (hR:R P G H w) {base:Nat} (hn:base≤H.length) {size:Nat} {v:AV} {u:Value} (hv:VR G H w v u) (hu:(frz base H size v).under base=true):VR G (H.take base) w (frz base H size v) u:=by
  cases v
  case sref b off len ver sz =>
    unfold Go.Ai.frz at hu ⊢
    dsimp only at hu ⊢
    split at hu
    · rename_i cs hrow
      split at hu
      · rename_i hc
        rw [if_pos hc]
        obtain ⟨rfl,hb,hcl,hle,h0⟩:=hc
        obtain ⟨hbH,hver⟩:=row_some hrow
        have hlen:(H.take base).length=base:=by rw [List.length_take]; omega
        cases hv with
        | pure _ _ h=>cases h
        | sref _ _ _ _ _ a cap _ _ h =>
          rcases h cs hbH hver with ⟨_,_,_,h4,rfl,rfl⟩ | ⟨c,hblk,rfl,hsiz,hcap,hlv,_⟩
          · subst h4
            exact .pure _ _ (.slice0 _ _ _ _ (fun h=>by cases h))
          · obtain ⟨C,e,hC,hCs,hcl',hcell⟩:=row_at hR hbH hblk
            have hS:Stable G (H.take base).length w c:=by
              rw [hlen]
              refine ⟨arr_lt hC,fun b' hb' h'=>?_⟩
              have:=hR.inj b' b c (by omega) (lt_of_get hbH) h' hblk
              omega
            refine .pure _ _ (slice_of_row (f:=fun i=>(C[off + i]?).getD undef) hS h0 (by simp; omega) hcap false (fun h=>by cases h) fun i x hx=>?_)
            have hx2:=hx
            rw [List.getElem?_take] at hx2
            split at hx2
            · rw [List.getElem?_drop] at hx2
              obtain ⟨_,u',hu',hvr⟩:=hcell (off + i) x hx2
              refine ⟨by simp [World.cell?,hC,hu'],?_⟩
              rw [hu']
              exact (hvr.toPR (cleanL_mem hcl x (List.mem_of_getElem? hx))).monoC fun c hc=>⟨hc.cut,fun _ _ h=>h⟩
            · cases hx2
      · rename_i hc
        rw [if_neg hc]
        exact hv.cut hn hu
    · exact hv.cut hn hu
  all_goals exact hv.cut hn hu
theorem frzL_LR (hR:R P G H w) {base:Nat} (hn:base≤H.length):∀ {rs:List ARes} {vs:List AV} {us:List Value},LR G H w vs us→vs.length=rs.length→underL base (frzL base H rs vs)=true→LR G (H.take base) w (frzL base H rs vs) us
  | [],[],us,hl,_,_=>by
    have:us=[]:=List.eq_nil_of_length_eq_zero hl.1
    subst this
    exact .nil
  | [],_ :: _,_,_,h,_=>by simp at h
  | _ :: _,[],_,_,h,_=>by simp at h
  | r :: rs,v :: vs,[],hl,_,_=>by have:=hl.1; simp at this
  | r :: rs,v :: vs,u :: us,hl,h,hu=>by
    simp only [frzL,underL,Bool.and_eq_true] at hu ⊢
    have hv:VR G H w v u:=hl.2 0 v u rfl rfl
    have ht:LR G H w vs us:=⟨by have:=hl.1; simpa using this,fun i x w' hx hw=>hl.2 (i + 1) x w' (by simpa using hx) (by simpa using hw)⟩
    refine LR.cons ?_ (frzL_LR hR hn ht (by simpa using h) hu.2)
    have hu1:=hu.1
    cases hf:r.freeze with
    | none=>rw [hf] at hu1; exact hv.cut hn hu1
    | some size=>rw [hf] at hu1; exact VR.frz hR hn hv hu1
theorem leave_sim {G0:Gh} {H0:List AObj} {w0:World} {Gn:Gh} {s:St} {w:World} (hR:R P Gn s.heap w) (hx:Ext G0 H0 w0 Gn s.heap w) (hB:s.leak=false→Below H0.length s.heap) {lk:Bool} {rs:List ARes} {vs:List AV} {us:List Value} (hl:LR Gn s.heap w vs us) :
    VR Gn (leave H0.length lk rs vs s).2.heap w (leave H0.length lk rs vs s).1 (pack us)∧R P Gn (leave H0.length lk rs vs s).2.heap w∧Ext G0 H0 w0 Gn (leave H0.length lk rs vs s).2.heap w:=by
  unfold leave
  split
  · rename_i hc
    exact ⟨pack_VR (frzL_LR hR hx.len hl hc.2.2 hc.2.1),hR.cut hx.len (fun b o hb ho=>hB hc.1 b o hb ho),hx.cut⟩
  · exact ⟨pack_VR hl,hR,hx⟩
theorem leaveP_sim {G0:Gh} {H0:List AObj} {w0:World} {Gn:Gh} {s:St} {w:World} (hR:R P Gn s.heap w) (hx:Ext G0 H0 w0 Gn s.heap w) (hB:s.leak=false→Below H0.length s.heap) {lk:Bool} {v:AV} {u:Value} (hv:VR Gn s.heap w v u) :
    VR Gn (leaveP H0.length lk v s).heap w v u∧R P Gn (leaveP H0.length lk v s).heap w∧Ext G0 H0 w0 Gn (leaveP H0.length lk v s).heap w:=by
  unfold leaveP
  split
  · rename_i hc
    exact ⟨hv.cut hx.len hc.2,hR.cut hx.len (fun b o hb ho=>hB hc.1 b o hb ho),hx.cut⟩
  · exact ⟨hv,hR,hx⟩
theorem R.below (hR:R P G H w):Below H.length H:=fun b o _ ho=>(hR.obj b o ho).under
end
def ExtOK (T:List (Nat × Obj)) (P:Program) (f:FuncId) (g:List AV→Option AV):Prop:=Plain P f∧∀ (args:List AV) (v:AV) (G:Gh) (H:List AObj) (w:World) (us:List Value) (n:Nat),g args=some v→R P G H w→KT T G H w→LR G H w args us →
  CallsIn Fence.wide n P f us.toArray w (fun e w'=>∃ u,e=.returned u∧R P G H w'∧Ext G H w G H w'∧VR G H w' v u)
structure ProgOK (T:List (Nat × Obj)) (P:Program) (prog:AProg):Prop where
  code:∀ f F,prog f=some (.code F)→∃ fn own rows fz,P.funcs[f]?=some fn∧compileFn P own rows fz fn=some F
  ext:∀ f g,prog f=some (.ext g)→ExtOK T P f g
theorem compileFn_some {P:Program} {own rows:List Nat} {fz:List (Option Nat)} {fn:Func} {F:AFunc} (h:compileFn P own rows fz fn=some F) :
    ∃ c, fn.body = some c ∧ compile P own rows c = some F.body ∧ compileRes P fn.results.toList fz = some F.results ∧ fn.name ≠ "runtime.NumGoroutine" ∧ F.np = fn.params.size + fn.nfree ∧ F.ntmps = fn.ntmps := by
  unfold compileFn at h
  obtain ⟨c,hc,h⟩:=bind_some h
  obtain ⟨b,hb,h⟩:=bind_some h
  obtain ⟨rs,hrs,h⟩:=bind_some h
  split at h
  · cases h
  · rename_i hn
    cases h
    exact ⟨c,hc,hb,hrs,by simpa using hn,rfl,rfl⟩
theorem call_step {P:Program} {prog:AProg} (hok:ProgOK T P prog) {k:Nat} (hcs:CallSim T P (ev prog k)) (hrs:RoundSim T P (ev prog k)) (hds:DrawSim T P (ev prog k)) (hgs:RangeSim T P (ev prog k)):CallSim T P (ev prog (k + 1)):=by
  intro f args s G w us Q n hR hT hl hA
  simp only [ev] at hA
  split at hA
  · exact hA.elim
  · rename_i g hg
    obtain ⟨hp,hcall⟩:=hok.ext f g hg
    refine ⟨hp,?_⟩
    split at hA
    · rename_i v hv
      refine (hcall args v G s.heap w us n hv hR hT hl).mono fun e w' h=>?_
      obtain ⟨u,rfl,h1,h2,h3⟩:=h
      exact ⟨.val v,s,G,hA,h3,h1,h2⟩
    · exact hA.elim
  · rename_i F hF
    obtain ⟨fn,own,rows,fz,hfn,hcf⟩:=hok.code f F hF
    obtain ⟨c,hbody,hc,hres,hname,hnp,hnt⟩:=compileFn_some hcf
    split at hA
    case isFalse=>exact hA.elim
    rename_i hlen
    have hplain:Plain P f:=⟨fn,hfn,by rw [hbody]; rfl,hname⟩
    refine ⟨hplain,?_⟩
    refine callsIn_of_wp_marks hfn hbody trivial ?_
    have hregs:RR G s.heap w (args ++ List.replicate (F.ntmps - F.np) .undef) (us.toArray ++ Array.replicate (fn.ntmps - us.toArray.size) Go.undef):=by
      have hsz:us.length=F.np:=by rw [hl.1,hlen]
      have:us.toArray ++ Array.replicate (fn.ntmps - us.toArray.size) Go.undef=(us ++ List.replicate (fn.ntmps - us.length) Go.undef).toArray:=by apply Array.ext'; simp
      rw [this,hnt,← hsz]
      refine RR.ofLR (hl.append ⟨by simp,fun i x u hx hu=>?_⟩)
      have h1:=List.mem_of_getElem? hx
      have h2:=List.mem_of_getElem? hu
      rw [(List.mem_replicate.1 h1).2,(List.mem_replicate.1 h2).2]
      exact .undef'
    have I0:Inv T P G s.heap w w.heap.size none G s.heap w (args ++ List.replicate (F.ntmps - F.np) .undef) { tmps:=us.toArray ++ Array.replicate (fn.ntmps - us.toArray.size) Go.undef,defers:=[] } :=
      ⟨hR,Ext.refl _ _ _,hregs,Marks.nil _ _ _ _,(fun _ h=>by cases h),hT⟩
    have hsafe:=evCode_pres (base:=some s.heap.length) (fuel:=k) (ev_pres prog k s.heap.length) (fun n1 h=>by cases h; exact Nat.le_refl _) F.body (args ++ List.replicate (F.ntmps - F.np) .undef) { s with leak:=false } (Nat.le_refl _)
    have hboth:=Res.All.and_safe (Res.All.bind.1 hA) hsafe
    refine wpIn_mono (code_sim (n:=n) (r:=none) hcs hrs hds hgs (Nat.le_refl _) c hc (s:={ s with leak:=false }) I0 hboth) fun e a' w' hp=>?_
    obtain ⟨ae,ρ',s',G',⟨hQ,hpres⟩,hxr,I'⟩:=hp
    have hB:s'.leak=false→Below s.heap.length s'.heap:=fun h=>(hpres.2 h).2 hR.below

    have ret:(∃ vs,resultsOf ρ' s'.heap F.results=some vs∧Q (.val (leave s.heap.length s.leak F.results vs s').1,(leave s.heap.length s.leak F.results vs s').2)) →
        LeavesInM Fence.wide n P fn a'.tmps (CPost P G s.heap w Q) a'.defers .returning w':=by
      rintro ⟨vs,hvs,hq⟩
      refine leaves_marks (by simp) I'.marks fun w2 hd=>?_
      have hR2:=I'.mem.drop hd
      have hx2:=I'.ext.drop hd (Nat.le_refl _) (fun b c hb hc=>hR.lt b c hb hc)
      obtain ⟨us2,hrun,hlr⟩:=results_run hR2 (I'.regs.drop hd) hres hvs
      obtain ⟨k1,k2,k3⟩:=leave_sim hR2 hx2 hB (lk:=s.leak) (rs:=F.results) hlr
      exact ⟨pack us2,hrun,.val _,_,G',hq,k1,k2,k3⟩
    cases ae <;> cases e <;> first | exact hxr.elim | skip
    · refine ret ?_
      dsimp only at hQ
      split at hQ
      · rename_i vs hvs; exact ⟨vs,hvs,hQ⟩
      · exact hQ.elim
    · exact hQ.elim
    · refine ret ?_
      dsimp only at hQ
      split at hQ
      · rename_i vs hvs; exact ⟨vs,hvs,hQ⟩
      · exact hQ.elim
    · obtain ⟨u,rfl,hv⟩:=hxr
      refine leaves_marks (by simp) I'.marks fun w2 hd=>?_
      have hR2:=I'.mem.drop hd
      have hx2:=I'.ext.drop hd (Nat.le_refl _) (fun b c hb hc=>hR.lt b c hb hc)
      obtain ⟨k1,k2,k3⟩:=leaveP_sim hR2 hx2 hB (lk:=s.leak) (hv.drop hd)
      exact ⟨.panic _,_,G',hQ,⟨u,rfl,k1⟩,k2,k3⟩
theorem sims {P:Program} {prog:AProg} (hok:ProgOK T P prog) (hdraw:∀ call,CallSim T P call→RoundSim T P call→DrawSim T P call):∀ k,CallSim T P (ev prog k)∧RoundSim T P (ev prog k)
  | 0=>⟨fun f args s G w us Q n _ _ _ h=>by simp only [ev] at h; exact h.elim,fun l args s G w us Q n r cl _ _ _ _ h=>by simp only [ev] at h; exact h.elim⟩
  | k + 1=>by
    obtain ⟨h1,h2⟩:=sims hok hdraw k
    exact ⟨call_step hok h1 h2 (hdraw _ h1 h2) (range_sim h1),round_sim h1 h2 (hdraw _ h1 h2) (range_sim h1)⟩
end Go.Ai
end
section
namespace Go.Ai
open Go
def opV (base:Option Nat) (ρ:Regs) (H:List AObj) (o:AOp):Option AV :=
  if wanted ρ o.guard then (evI base ρ ⟨H,false⟩ o.ins).map (·.1) else some .undef
def evV (call:CallF) (base:Option Nat) (o:AOp) (ρ:Regs) (s:St):Res (AExit × AV × St) :=
  if wanted ρ o.guard then
    match o.ins with
    | .call f xs=>(call (.fn f) (xs.map (·.ev ρ)) s).bind fun
      | (.val v,s')=>.ok (.normal,v,s')
      | (.panic v,s')=>.ok (.panic v,.undef,s')
    | .callv x xs =>
      match x.ev ρ with
      | .fn f caps=>(call (.fn f) (xs.map (·.ev ρ) ++ caps) s).bind fun
        | (.val v,s')=>.ok (.normal,v,s')
        | (.panic v,s')=>.ok (.panic v,.undef,s')
      | .yield l=>(call (.yield l) (xs.map (·.ev ρ)) s).bind fun
        | (.val v,s')=>.ok (.normal,v,s')
        | (.panic _,_)=>.fail
      | _=>.fail
    | .next _ | .panic _=>.fail
    | i=>match evI base ρ s i with
      | some (v,s')=>.ok (.normal,v,s')
      | none=>.fail
  else .ok (.normal,.undef,s)
theorem bind_bind {α β γ:Type} {f:α→Res β} {g:β→Res γ}:∀ (r:Res α),(r.bind f).bind g=r.bind fun a=>(f a).bind g
  | .ok _=>rfl
  | .fail=>rfl
  | .pick n k=>by
    show Res.pick n (fun i=>((k i).bind f).bind g)=Res.pick n fun i=>(k i).bind fun a=>(f a).bind g
    congr 1
    funext i
    exact bind_bind (k i)
theorem bind_congr {α β:Type} {f g:α→Res β} (h:∀ a,f a=g a) (r:Res α):r.bind f=r.bind g:=by
  have:f=g:=funext h
  rw [this]
theorem evOp_val (call:CallF) (base:Option Nat) (o:AOp) (ρ:Regs) (s:St) (hn:∀ x,o.ins ≠ .next x) (hp:∀ x,o.ins ≠ .panic x) :
    evOp call base o ρ s=(evV call base o ρ s).bind fun p=>.ok (p.1,(match p.1 with | .normal=>put ρ o.dst p.2.1 | _=>ρ),p.2.2):=by
  unfold evOp evV
  split
  · split
    · rename_i f xs he
      simp only [he,bind_bind]
      refine bind_congr (fun r=>?_) _
      obtain ⟨r,s'⟩:=r
      cases r <;> rfl
    · rename_i x xs he
      simp only [he]
      cases hx:x.ev ρ
      case fn f caps =>
        simp only [bind_bind]
        refine bind_congr (fun r=>?_) _
        obtain ⟨r,s'⟩:=r
        cases r <;> rfl
      case yield l =>
        simp only [bind_bind]
        refine bind_congr (fun r=>?_) _
        obtain ⟨r,s'⟩:=r
        cases r <;> rfl
      all_goals rfl
    · rename_i it he; exact absurd he (hn it)
    · rename_i x he; exact absurd he (hp x)
    · split <;> (rename_i he; simp only [he]; rfl)
  · rfl
theorem ev_congr {ρ ρ':Regs} {x:AOpd} (h:∀ r,r ∈ x.reg→ρ.getD r .undef=ρ'.getD r .undef):x.ev ρ=x.ev ρ':=by
  cases x with
  | r i=>exact h i (.head _)
  | c v=>rfl
theorem evs_congr {ρ ρ':Regs} {xs:List AOpd} (h:∀ r,r ∈ xs.flatMap AOpd.reg→ρ.getD r .undef=ρ'.getD r .undef):xs.map (·.ev ρ)=xs.map (·.ev ρ'):=by
  refine List.map_congr_left fun x hx=>ev_congr fun r hr=>h r (List.mem_flatMap.2 ⟨x,hx,hr⟩)
theorem evI_congr {base:Option Nat} {ρ ρ':Regs} {s:St} {i:AIns} (h:∀ r,r ∈ i.regs→ρ.getD r .undef=ρ'.getD r .undef):evI base ρ s i=evI base ρ' s i:=by
  cases i
  case build z ps =>
    simp only [evI]
    have:(ps.map fun p=>(p.1,p.2.1,p.2.2.ev ρ))=ps.map fun p=>(p.1,p.2.1,p.2.2.ev ρ') :=
      List.map_congr_left fun p hp=>by rw [ev_congr fun r hr=>h r (List.mem_flatMap.2 ⟨p,hp,hr⟩)]
    rw [this]
  case lit n z ps a b =>
    simp only [evI]
    have:(ps.map fun p=>(p.1,n,p.2.ev ρ))=ps.map fun p=>(p.1,n,p.2.ev ρ') :=
      List.map_congr_left fun p hp=>by rw [ev_congr fun r hr=>h r (List.mem_flatMap.2 ⟨p,hp,hr⟩)]
    rw [this]
  case mkfn f cs=>simp only [evI]; rw [evs_congr h]
  case minmax m x ys =>
    simp only [evI]
    rw [ev_congr (x:=x) fun r hr=>h r (List.mem_append_left _ hr),evs_congr (xs:=ys) fun r hr=>h r (List.mem_append_right _ hr)]
  case slc n x lo hi =>
    simp only [AIns.regs,List.mem_append] at h
    have e1:=ev_congr (x:=x) (ρ:=ρ) (ρ':=ρ') fun r hr=>h r (.inl (.inl hr))
    have e2:lo.map (·.ev ρ)=lo.map (·.ev ρ'):=by cases lo with | none=>rfl | some l=>simp only [Option.map_some]; rw [ev_congr (x:=l) fun r hr=>h r (.inl (.inr hr))]
    have e3:hi.map (·.ev ρ)=hi.map (·.ev ρ'):=by cases hi with | none=>rfl | some l=>simp only [Option.map_some]; rw [ev_congr (x:=l) fun r hr=>h r (.inr hr)]
    simp only [evI,e1,e2,e3]
  case sslc x lo hi =>
    simp only [AIns.regs,List.mem_append] at h
    have e1:=ev_congr (x:=x) (ρ:=ρ) (ρ':=ρ') fun r hr=>h r (.inl (.inl hr))
    have e2:lo.map (·.ev ρ)=lo.map (·.ev ρ'):=by cases lo with | none=>rfl | some l=>simp only [Option.map_some]; rw [ev_congr (x:=l) fun r hr=>h r (.inl (.inr hr))]
    have e3:hi.map (·.ev ρ)=hi.map (·.ev ρ'):=by cases hi with | none=>rfl | some l=>simp only [Option.map_some]; rw [ev_congr (x:=l) fun r hr=>h r (.inr hr)]
    simp only [evI,e1,e2,e3]
  case pick c a b =>
    simp only [AIns.regs,List.mem_append] at h
    simp only [evI]
    rw [ev_congr (x:=c) fun r hr=>h r (.inl (.inl hr)),ev_congr (x:=a) fun r hr=>h r (.inl (.inr hr)),ev_congr (x:=b) fun r hr=>h r (.inr hr)]
  case mupd sh m k v =>
    simp only [AIns.regs,List.mem_append] at h
    simp only [evI]
    rw [ev_congr (x:=m) fun r hr=>h r (.inl (.inl hr)),ev_congr (x:=k) fun r hr=>h r (.inl (.inr hr)),ev_congr (x:=v) fun r hr=>h r (.inr hr)]
  case call=>rfl
  case callv=>rfl
  case panic=>rfl
  case next=>rfl
  case own=>rfl
  case alloc=>rfl
  case mkmap=>rfl
  case alen=>rfl
  case mov x=>simp only [evI]; rw [ev_congr (x:=x) h]
  case box n x=>simp only [evI]; rw [ev_congr (x:=x) h]
  case load n x=>simp only [evI]; rw [ev_congr (x:=x) h]
  case chk x=>simp only [evI]; rw [ev_congr (x:=x) h]
  case un n x=>simp only [evI]; rw [ev_congr (x:=x) h]
  case conv n x=>simp only [evI]; rw [ev_congr (x:=x) h]
  case off n x=>simp only [evI]; rw [ev_congr (x:=x) h]
  case fld n m x=>simp only [evI]; rw [ev_congr (x:=x) h]
  case range x=>simp only [evI]; rw [ev_congr (x:=x) h]
  case entry x=>simp only [evI]; rw [ev_congr (x:=x) h]
  case ext n x=>simp only [evI]; rw [ev_congr (x:=x) h]
  case len n x=>simp only [evI]; rw [ev_congr (x:=x) h]
  case mlen x=>simp only [evI]; rw [ev_congr (x:=x) h]
  case iface n x=>simp only [evI]; rw [ev_congr (x:=x) h]
  all_goals (
    simp only [AIns.regs,List.mem_append] at h
    rename_i x y
    simp only [evI]
    rw [ev_congr (x:=x) fun r hr=>h r (.inl hr),ev_congr (x:=y) fun r hr=>h r (.inr hr)])
end Go.Ai
end
section
namespace Go.Ai
open Go
theorem wanted_congr {ρ ρ':Regs} {g:Option (Nat × Bool)} (h:∀ r,r ∈ (match g with | some (r,_)=>[r] | none=>[])→ρ.getD r .undef=ρ'.getD r .undef):wanted ρ g=wanted ρ' g:=by
  cases g with
  | none=>rfl
  | some p=>simp only [wanted]; rw [h p.1 (.head _)]
def Same (l:List Nat) (ρ ρ':Regs):Prop:=∀ r,r ∈ l→ρ.getD r .undef=ρ'.getD r .undef
theorem opV_congr {base:Option Nat} {ρ ρ':Regs} {H:List AObj} {o:AOp} (h:Same o.names ρ ρ'):opV base ρ H o=opV base ρ' H o:=by
  unfold opV
  rw [wanted_congr (ρ:=ρ) (ρ':=ρ') fun r hr=>h r (List.mem_append_right _ hr),evI_congr (ρ:=ρ) (ρ':=ρ') fun r hr=>h r (List.mem_append_left _ hr)]
theorem evV_congr {call:CallF} {base:Option Nat} {ρ ρ':Regs} {s:St} {o:AOp} (h:Same o.names ρ ρ'):evV call base o ρ s=evV call base o ρ' s:=by
  have hi:∀ r,r ∈ o.ins.regs→ρ.getD r .undef=ρ'.getD r .undef:=fun r hr=>h r (List.mem_append_left _ hr)
  unfold evV
  rw [wanted_congr (ρ:=ρ) (ρ':=ρ') fun r hr=>h r (List.mem_append_right _ hr)]
  split
  · split
    · rename_i f xs he
      rw [he] at hi
      rw [evs_congr hi]
    · rename_i x xs he
      rw [he] at hi
      rw [ev_congr (x:=x) fun r hr=>hi r (List.mem_append_left _ hr),evs_congr (xs:=xs) fun r hr=>hi r (List.mem_append_right _ hr)]
    · rfl
    · rfl
    · rw [evI_congr hi]
  · rfl
def AIns.calm (i:AIns):Bool:=!i.eff && !i.isAlloc && (match i with
  | .lit _ _ _ _ auto=>!auto
  | .entry _=>false
  | _=>true)
theorem bind_map_eq {α β γ:Type} {X:Option α} {f:α→Option γ} {f':α→Option β} {g:β→γ} (h:∀ a,f a=(f' a).map g):X.bind f=(X.bind f').map g:=by
  cases X with
  | none=>rfl
  | some a=>exact h a
theorem map_bind_eq {α β γ:Type} {X:Option α} {f f':α→Option β} {g:β→γ} (h:∀ a,(f a).map g=(f' a).map g):(X.bind f).map g=(X.bind f').map g:=by
  cases X with
  | none=>rfl
  | some a=>exact h a
theorem calm_evI {base:Option Nat} {ρ:Regs} {s:St} {i:AIns} (h:i.calm=true):evI base ρ s i=(evI base ρ ⟨s.heap,false⟩ i).map fun p=>(p.1,s):=by
  cases i <;> simp only [AIns.calm,AIns.eff,AIns.isAlloc,Bool.not_true,Bool.not_false,Bool.false_and,Bool.and_false,Bool.true_and,Bool.and_true,Bool.false_eq_true] at h
  case lit size cells parts rw auto =>
    simp only [Bool.and_eq_true,Bool.not_eq_true'] at h
    obtain ⟨rfl,rfl⟩:=h
    simp only [evI,Option.map_bind]
    congr 1
    funext cs
    simp only [Function.comp]
    split
    · simp only [Bool.false_or,Bool.false_and,Bool.false_eq_true,if_false]
      split <;> rfl
    · rfl
  case mov=>rfl
  case alen=>rfl
  case mkfn=>rfl
  case iface=>rfl
  all_goals
    simp only [evI]
    repeat' (first
      | rfl
      | (refine bind_map_eq fun _=>?_)
      | split)
theorem calm_evV {call:CallF} {base:Option Nat} {ρ:Regs} {s:St} {o:AOp} (h:o.ins.calm=true):evV call base o ρ s=match opV base ρ s.heap o with | some v=>.ok (.normal,v,s) | none=>.fail:=by
  have h':=h
  unfold evV opV
  split
  · split
    · rename_i he; rw [he] at h; cases h
    · rename_i he; rw [he] at h; cases h
    · rename_i he; rw [he] at h; cases h
    · rename_i he; rw [he] at h; cases h
    · rw [calm_evI h']
      cases evI base ρ ⟨s.heap,false⟩ o.ins <;> rfl
  · rfl
theorem pure_opV {base:Option Nat} {ρ:Regs} {H H':List AObj} {o:AOp} (h:o.ins.calm=true) (hr:o.ins.reads=false):opV base ρ H o=opV base ρ H' o:=by
  unfold opV
  split
  · have : (evI base ρ ⟨H,false⟩ o.ins).map (·.1)=(evI base ρ ⟨H',false⟩ o.ins).map (·.1):=by
      cases ho:o.ins <;> rw [ho] at h hr <;> simp only [AIns.calm,AIns.eff,AIns.isAlloc,AIns.reads,Bool.not_true,Bool.not_false,Bool.false_and,Bool.and_false,Bool.true_and,Bool.and_true,Bool.false_eq_true,Bool.true_eq_false] at h hr
      case lit size cells parts rw auto =>
        simp only [Bool.and_eq_true,Bool.not_eq_true'] at h
        obtain ⟨rfl,rfl⟩:=h
        simp only [evI,Option.map_bind]
        congr 1
        funext cs
        simp only [Function.comp]
        split
        · simp only [Bool.false_or,Bool.false_and,Bool.false_eq_true,if_false]
          split <;> rfl
        · rfl
      case iaddr size arr x i =>
        cases arr with
        | none=>simp at hr
        | some n =>
          simp only [evI]
          split
          all_goals first
            | rfl
            | (rename_i q _; cases q; done)
            | exact map_bind_eq fun _=>rfl
            | (rename_i q _; cases q; exact map_bind_eq fun _=>rfl)
      all_goals first
        | rfl
        | (simp only [evI]
           repeat' (first
             | rfl
             | (refine map_bind_eq fun _=>?_)
             | split))
    exact this
  · rfl
end Go.Ai
end
section
namespace Go.Ai
open Go
def cnt (as1:List AOp) (j:Nat):Nat:=((List.range j).filter fun e=>(opAt as1 e).ins.eff).length
theorem cnt_succ (as1:List AOp) (j:Nat):cnt as1 (j + 1)=cnt as1 j + if (opAt as1 j).ins.eff then 1 else 0:=by
  unfold cnt
  rw [List.range_succ,List.filter_append,List.length_append]
  congr 1
  simp only [List.filter_cons,List.filter_nil]
  split <;> rfl
theorem cnt_le (as1:List AOp) {i j:Nat} (h:i≤j):cnt as1 i≤cnt as1 j:=by
  induction j with
  | zero => have:i=0:=by omega
            subst this; exact Nat.le_refl _
  | succ j ih =>
    by_cases e:i=j + 1
    · subst e; exact Nat.le_refl _
    · rw [cnt_succ]
      have:=ih (by omega)
      omega
theorem opAt_drop {as1:List AOp} {q:Nat} (h:q < as1.length):as1.drop q=opAt as1 q :: as1.drop (q + 1):=by
  rw [List.drop_eq_getElem_cons h]
  congr 1
  simp [opAt,h]
def kindOK (i:AIns):Prop:=i.calm=true∨i.isAlloc=true∨(i.eff=true∧i.isAlloc=false∧(∀ x,i ≠ .next x)∧(∀ x,i ≠ .panic x))
theorem calm_not {i:AIns} (h:i.calm=true):i.eff=false∧i.isAlloc=false∧(∀ x,i ≠ .next x)∧(∀ x,i ≠ .panic x):=by
  have h1:i.eff=false∧i.isAlloc=false:=by
    unfold AIns.calm at h
    simp only [Bool.and_eq_true,Bool.not_eq_true'] at h
    exact h.1
  refine ⟨h1.1,h1.2,fun x e=>?_,fun x e=>?_⟩ <;> (rw [e] at h1; simp [AIns.eff] at h1)
theorem trace_cons {call:CallF} {base:Option Nat} {o:AOp} {rest:List AOp} {ρ:Regs} {s:St} {hs:List (List AObj)} (ha:o.ins.isAlloc=false) (hn:∀ x,o.ins ≠ .next x) (hp:∀ x,o.ins ≠ .panic x) :
    evTrace call base (o :: rest) ρ s hs=(evV call base o ρ s).bind fun p=>match p.1 with
      | .normal=>evTrace call base rest (put ρ o.dst p.2.1) p.2.2 (if o.ins.eff then hs ++ [p.2.2.heap] else hs)
      | e=>.ok (e,ρ,p.2.2,hs):=by
  have h:evTrace call base (o :: rest) ρ s hs=(evOp call base o ρ s).bind fun
      | (.normal,ρ',s')=>evTrace call base rest ρ' s' (if o.ins.eff then hs ++ [s'.heap] else hs)
      | (e,ρ',s')=>.ok (e,ρ',s',hs):=by
    obtain ⟨d,i,g⟩:=o
    cases i <;> first | rfl | (simp [AIns.isAlloc] at ha)
  rw [h,evOp_val _ _ _ _ _ hn hp,bind_bind]
  refine bind_congr (fun p=>?_) _
  obtain ⟨e,v,s'⟩:=p
  cases e <;> rfl
theorem trace_alloc {call:CallF} {base:Option Nat} {o:AOp} {rest:List AOp} {ρ:Regs} {s:St} {hs:List (List AObj)} (ha:o.ins.isAlloc=true):evTrace call base (o :: rest) ρ s hs=evTrace call base rest ρ s hs:=by
  obtain ⟨d,i,g⟩:=o
  cases i <;> first | rfl | (simp [AIns.isAlloc] at ha)
theorem safe_true {α:Type}:∀ (r:Res α),r.Safe fun _=>True
  | .ok _=>trivial
  | .fail=>trivial
  | .pick _ k=>fun i _=>safe_true (k i)
theorem put_len (ρ:Regs) (d:Option Nat) (v:AV):(put ρ d v).length=ρ.length:=by cases d <;> simp [put]
theorem put_other {ρ:Regs} {d:Option Nat} {v:AV} {r:Nat} (h:d ≠ some r):(put ρ d v).getD r .undef=ρ.getD r .undef:=by
  cases d with
  | none=>rfl
  | some d =>
    have:d ≠ r:=fun e=>h (by rw [e])
    simp only [put,List.getD_eq_getElem?_getD,List.getElem?_set,this,if_false]
theorem put_same {ρ:Regs} {d:Nat} {v:AV} (h:d < ρ.length):(put ρ (some d) v).getD d .undef=v:=by
  simp [put,List.getD_eq_getElem?_getD,h]
structure TrFacts (as1:List AOp) (base:Option Nat) (q:Nat) (ρ:Regs) (hs:List (List AObj)) (ρx:Regs) (sx:St) (hx:List (List AObj)):Prop where
  pre:hs <+: hx
  len:hx.length=cnt as1 as1.length + 1
  last:hx.getLast?=some sx.heap
  rlen:ρx.length=ρ.length
  keep:∀ r,(∀ i,q≤i→i < as1.length→(opAt as1 i).ins.isAlloc=false→(opAt as1 i).dst ≠ some r)→ρx.getD r .undef=ρ.getD r .undef
  val:∀ j,q≤j→j < as1.length→(opAt as1 j).ins.calm=true→∃ ρj v,opV base ρj (hx.getD (cnt as1 j) []) (opAt as1 j)=some v∧(∀ d,(opAt as1 j).dst=some d→d < ρ.length→ρx.getD d .undef=v) ∧
    (∀ r,(∃ i,q≤i∧i < j∧(opAt as1 i).ins.isAlloc=false∧(opAt as1 i).dst=some r)→ρj.getD r .undef=ρx.getD r .undef) ∧
    (∀ r,(∀ i,q≤i→i < j→(opAt as1 i).ins.isAlloc=false→(opAt as1 i).dst ≠ some r)→ρj.getD r .undef=ρ.getD r .undef)
theorem getLast_getD {α:Type} {l m:List α} {x d:α} {k:Nat} (hp:l <+: m) (hl:l.length=k + 1) (hx:l.getLast?=some x):m.getD k d=x:=by
  obtain ⟨t,rfl⟩:=hp
  rw [List.getLast?_eq_getElem?,hl,Nat.add_sub_cancel] at hx
  rw [List.getD_eq_getElem?_getD,List.getElem?_append_left (by omega),hx]
  rfl
theorem trace_facts {as1:List AOp} {call:CallF} {base:Option Nat} (hk:∀ j,j < as1.length→kindOK (opAt as1 j).ins) (hd:∀ i j,i < j→j < as1.length→∀ d,(opAt as1 i).dst=some d→(opAt as1 j).dst ≠ some d) :
    ∀ (m q:Nat),q + m=as1.length→∀ (ρ:Regs) (s:St) (hs:List (List AObj)),hs.length=cnt as1 q + 1→hs.getLast?=some s.heap →
    (evTrace call base (as1.drop q) ρ s hs).Safe (fun x=>x.1=.normal→TrFacts as1 base q ρ hs x.2.1 x.2.2.1 x.2.2.2)
  | 0,q,hq,ρ,s,hs,hl,hlast=>by
    have:q=as1.length:=by omega
    subst this
    rw [List.drop_length]
    exact fun _=>⟨List.prefix_rfl,hl,hlast,rfl,fun _ _=>rfl,fun j h1 h2=>absurd h2 (by omega)⟩
  | m + 1, q, hq, ρ,s,hs,hl,hlast=>by
    have hqn:q < as1.length:=by omega
    rw [opAt_drop hqn]
    rcases hk q hqn with hc | ha | ⟨he,hna,hnx,hnp⟩
    ·
      obtain ⟨h1,h2,h3,h4⟩:=calm_not hc
      rw [trace_cons h2 h3 h4,calm_evV hc]
      cases hv:opV base ρ s.heap (opAt as1 q) with
      | none=>trivial
      | some v =>
        simp only [Res.bind,h1,Bool.false_eq_true,if_false]
        have hcq:cnt as1 (q + 1)=cnt as1 q:=by rw [cnt_succ,h1]; rfl
        have ih:=trace_facts (call:=call) (base:=base) hk hd m (q + 1) (by omega) (put ρ (opAt as1 q).dst v) s hs (by rw [hcq]; exact hl) hlast
        refine Res.Safe.mono (fun x hx hn=>?_) ih
        obtain ⟨f1,f2,f3,f4,f5,f6⟩:=hx hn
        rw [put_len] at f4
        have nolater:∀ r,(opAt as1 q).dst=some r→∀ i,q + 1≤i→i < as1.length→(opAt as1 i).ins.isAlloc=false→(opAt as1 i).dst ≠ some r:=fun r hr i hi hin _=>hd q i (by omega) hin r hr
        refine ⟨f1,f2,f3,f4,fun r hr=>?_,fun j hj hjn hcj=>?_⟩
        · rw [f5 r (fun i hi hin ha=>hr i (by omega) hin ha),put_other (hr q (Nat.le_refl _) hqn h2)]
        · by_cases hjq:j=q
          · subst hjq
            refine ⟨ρ,v,?_,fun d hd' hdl=>?_,fun r hr=>?_,fun r _=>rfl⟩
            · rw [getLast_getD f1 hl hlast]; exact hv
            · rw [f5 d (nolater d hd'),hd',put_same hdl]
            · obtain ⟨i,hi1,hi2,_⟩:=hr; omega
          · obtain ⟨ρj,v',g1,g2,g3,g4⟩:=f6 j (by omega) hjn hcj
            refine ⟨ρj,v',g1,fun d hd' hdl=>g2 d hd' (by rw [put_len]; exact hdl),fun r hr=>?_,fun r hr=>?_⟩
            · obtain ⟨i,hi1,hi2,hi3,hi4⟩:=hr
              by_cases hiq:i=q
              · subst hiq
                rw [g4 r (fun i' hi' hij ha=>nolater r hi4 i' hi' (by omega) ha),f5 r (nolater r hi4)]
              · exact g3 r ⟨i,by omega,hi2,hi3,hi4⟩
            · rw [g4 r (fun i hi hij ha=>hr i (by omega) hij ha),put_other (hr q (Nat.le_refl _) (by omega) h2)]
    ·
      rw [trace_alloc ha]
      have he:(opAt as1 q).ins.eff=false:=by cases hi:(opAt as1 q).ins <;> rw [hi] at ha <;> simp [AIns.isAlloc] at ha <;> rfl
      have hcq:cnt as1 (q + 1)=cnt as1 q:=by rw [cnt_succ,he]; rfl
      have ih:=trace_facts (call:=call) (base:=base) hk hd m (q + 1) (by omega) ρ s hs (by rw [hcq]; exact hl) hlast
      refine Res.Safe.mono (fun x hx hn=>?_) ih
      obtain ⟨f1,f2,f3,f4,f5,f6⟩:=hx hn
      have ne:∀ i,(opAt as1 i).ins.isAlloc=false→i ≠ q:=fun i h e=>by rw [e,ha] at h; cases h
      refine ⟨f1,f2,f3,f4,fun r hr=>f5 r fun i hi=>hr i (by omega),fun j hj hjn hcj=>?_⟩
      have hjq:=ne j (calm_not hcj).2.1
      obtain ⟨ρj,v',g1,g2,g3,g4⟩:=f6 j (by omega) hjn hcj
      refine ⟨ρj,v',g1,g2,fun r hr=>?_,fun r hr=>g4 r fun i hi=>hr i (by omega)⟩
      obtain ⟨i,hi1,hi2,hi3,hi4⟩:=hr
      have:=ne i hi3
      exact g3 r ⟨i,by omega,hi2,hi3,hi4⟩
    ·
      rw [trace_cons hna hnx hnp]
      refine Res.Safe.bind (safe_true _) fun p _=>?_
      obtain ⟨e,v,s'⟩:=p
      cases e with
      | normal =>
        simp only [he,if_true]
        have hcq:cnt as1 (q + 1)=cnt as1 q + 1:=by rw [cnt_succ,he]; rfl
        have ih:=trace_facts (call:=call) (base:=base) hk hd m (q + 1) (by omega) (put ρ (opAt as1 q).dst v) s' (hs ++ [s'.heap]) (by rw [hcq,List.length_append,hl]; rfl) (by simp)
        refine Res.Safe.mono (fun x hx hn=>?_) ih
        obtain ⟨f1,f2,f3,f4,f5,f6⟩:=hx hn
        rw [put_len] at f4
        have nolater:∀ r,(opAt as1 q).dst=some r→∀ i,q + 1≤i→i < as1.length→(opAt as1 i).ins.isAlloc=false→(opAt as1 i).dst ≠ some r:=fun r hr i hi hin _=>hd q i (by omega) hin r hr
        refine ⟨(List.prefix_append hs _).trans f1,f2,f3,f4,fun r hr=>?_,fun j hj hjn hcj=>?_⟩
        · rw [f5 r (fun i hi hin ha=>hr i (by omega) hin ha),put_other (hr q (Nat.le_refl _) hqn hna)]
        · have hjq:j ≠ q:=fun e=>by rw [e] at hcj; rw [(calm_not hcj).1] at he; cases he
          obtain ⟨ρj,v',g1,g2,g3,g4⟩:=f6 j (by omega) hjn hcj
          refine ⟨ρj,v',g1,fun d hd' hdl=>g2 d hd' (by rw [put_len]; exact hdl),fun r hr=>?_,fun r hr=>?_⟩
          · obtain ⟨i,hi1,hi2,hi3,hi4⟩:=hr
            by_cases hiq:i=q
            · subst hiq
              rw [g4 r (fun i' hi' hij ha=>nolater r hi4 i' hi' (by omega) ha),f5 r (nolater r hi4)]
            · exact g3 r ⟨i,by omega,hi2,hi3,hi4⟩
          · rw [g4 r (fun i hi hij ha=>hr i (by omega) hij ha),put_other (hr q (Nat.le_refl _) (by omega) hna)]
      | _=>exact fun h=>by cases h
mutual
theorem beq_eq:∀ {a b:AV},a.beq b=true→a=b
  | .int k a,.int j b,h=>by simp only [AV.beq,Bool.and_eq_true,decide_eq_true_eq] at h; rw [h.1,h.2]
  | .bool a,.bool b,h=>by simp only [AV.beq,beq_iff_eq] at h; rw [h]
  | .str a,.str b,h=>by
    simp only [AV.beq] at h
    rw [← beq_toListBytes] at h
    rw [(MapKept.bytes_beq a b).1 h]
  | .agg a,.agg b,h=>by simp only [AV.beq] at h; rw [beqL_eq h]
  | .tup a,.tup b,h=>by simp only [AV.beq] at h; rw [beqL_eq h]
  | .slice f z a,.slice g y b,h=>by simp only [AV.beq,Bool.and_eq_true,decide_eq_true_eq,beq_iff_eq] at h; rw [h.1.1,h.1.2,beqLL_eq h.2]
  | .sref b o l v z,.sref c p m x y,h=>by simp only [AV.beq,Bool.and_eq_true,decide_eq_true_eq] at h; rw [h.1.1.1.1,h.1.1.1.2,h.1.1.2,h.1.2,h.2]
  | .ptr b o v,.ptr c p x,h=>by simp only [AV.beq,Bool.and_eq_true,decide_eq_true_eq] at h; rw [h.1.1,h.1.2,h.2]
  | .vptr a o,.vptr b p,h=>by simp only [AV.beq,Bool.and_eq_true,decide_eq_true_eq] at h; rw [beqL_eq h.1,h.2]
  | .nilptr,.nilptr,_ | .nilmap,.nilmap,_ | .nilfn,.nilfn,_ | .nilIface,.nilIface,_ | .undef,.undef,_=>rfl
  | .map a,.map b,h=>by simp only [AV.beq,decide_eq_true_eq] at h; rw [h]
  | .yield a,.yield b,h=>by simp only [AV.beq,decide_eq_true_eq] at h; rw [h]
  | .iter a,.iter b,h=>by simp only [AV.beq,decide_eq_true_eq] at h; rw [h]
  | .fn f a,.fn g b,h=>by simp only [AV.beq,Bool.and_eq_true,decide_eq_true_eq] at h; rw [h.1,beqL_eq h.2]
  | .iface t a,.iface u b,h=>by simp only [AV.beq,Bool.and_eq_true,decide_eq_true_eq] at h; rw [h.1,beq_eq h.2]
theorem beqL_eq:∀ {a b:List AV},beqL a b=true→a=b
  | [],[],_=>rfl
  | x :: a,y :: b,h=>by simp only [beqL,Bool.and_eq_true] at h; rw [beq_eq h.1,beqL_eq h.2]
theorem beqLL_eq:∀ {a b:List (List AV)},beqLL a b=true→a=b
  | [],[],_=>rfl
  | x :: a,y :: b,h=>by simp only [beqLL,Bool.and_eq_true] at h; rw [beqL_eq h.1,beqLL_eq h.2]
end
end Go.Ai
end
section
namespace Go.W
open Go Go.Ai
abbrev O (d:Nat) (i:AIns):AOp:=⟨some d,i,none⟩
abbrev RMap:=List (Nat × AOpd)
def lookR (m:RMap) (i:Nat):Option AOpd:=match m with
  | []=>none
  | (j,o) :: rest=>if j=i then some o else lookR rest i
def rO (m:RMap):AOpd→Option AOpd
  | .c v=>some (.c v)
  | .r i=>lookR m i
def rOs (m:RMap):List AOpd→Option (List AOpd)
  | []=>some []
  | x :: xs=>(rO m x).bind fun y=>(rOs m xs).bind fun ys=>some (y :: ys)
def rOp (m:RMap):Option AOpd→Option (Option AOpd)
  | none=>some none
  | some x=>(rO m x).bind fun y=>some (some y)
def rB (m:RMap):List (Nat × Nat × AOpd)→Option (List (Nat × Nat × AOpd))
  | []=>some []
  | (a,b,x) :: xs=>(rO m x).bind fun y=>(rB m xs).bind fun ys=>some ((a,b,y) :: ys)
def rL (m:RMap):List (Nat × AOpd)→Option (List (Nat × AOpd))
  | []=>some []
  | (a,x) :: xs=>(rO m x).bind fun y=>(rL m xs).bind fun ys=>some ((a,y) :: ys)
def rI (m:RMap):AIns→Option AIns
  | .mov x=>(rO m x).bind fun x=>some (.mov x)
  | .own n=>some (.own n)
  | .pick c a b=>(rO m c).bind fun c=>(rO m a).bind fun a=>(rO m b).bind fun b=>some (.pick c a b)
  | .alloc z=>some (.alloc z)
  | .box n x=>(rO m x).bind fun x=>some (.box n x)
  | .build z ps=>(rB m ps).bind fun ps=>some (.build z ps)
  | .lit n cs ps rw au=>(rL m ps).bind fun ps=>some (.lit n cs ps rw au)
  | .load a x=>(rO m x).bind fun x=>some (.load a x)
  | .store n x v=>(rO m x).bind fun x=>(rO m v).bind fun v=>some (.store n x v)
  | .chk x=>(rO m x).bind fun x=>some (.chk x)
  | .bin op x y=>(rO m x).bind fun x=>(rO m y).bind fun y=>some (.bin op x y)
  | .eqs g k x y=>(rO m x).bind fun x=>(rO m y).bind fun y=>some (.eqs g k x y)
  | .un op x=>(rO m x).bind fun x=>some (.un op x)
  | .conv k x=>(rO m x).bind fun x=>some (.conv k x)
  | .off o x=>(rO m x).bind fun x=>some (.off o x)
  | .fld o a x=>(rO m x).bind fun x=>some (.fld o a x)
  | .iaddr n a x i=>(rO m x).bind fun x=>(rO m i).bind fun i=>some (.iaddr n a x i)
  | .aidx n l a x i=>(rO m x).bind fun x=>(rO m i).bind fun i=>some (.aidx n l a x i)
  | .sidx x i=>(rO m x).bind fun x=>(rO m i).bind fun i=>some (.sidx x i)
  | .slc n x lo hi=>(rO m x).bind fun x=>(rOp m lo).bind fun lo=>(rOp m hi).bind fun hi=>some (.slc n x lo hi)
  | .sslc x lo hi=>(rO m x).bind fun x=>(rOp m lo).bind fun lo=>(rOp m hi).bind fun hi=>some (.sslc x lo hi)
  | .look sh z ok x k=>(rO m x).bind fun x=>(rO m k).bind fun k=>some (.look sh z ok x k)
  | .mupd sh x k v=>(rO m x).bind fun x=>(rO m k).bind fun k=>(rO m v).bind fun v=>some (.mupd sh x k v)
  | .mkfn f cs=>(rOs m cs).bind fun cs=>some (.mkfn f cs)
  | .mkmap sh=>some (.mkmap sh)
  | .mksl n b z x c=>(rO m x).bind fun x=>(rO m c).bind fun c=>some (.mksl n b z x c)
  | .range x=>(rO m x).bind fun x=>some (.range x)
  | .next x=>(rO m x).bind fun x=>some (.next x)
  | .entry x=>(rO m x).bind fun x=>some (.entry x)
  | .ext i x=>(rO m x).bind fun x=>some (.ext i x)
  | .len s x=>(rO m x).bind fun x=>some (.len s x)
  | .mlen x=>(rO m x).bind fun x=>some (.mlen x)
  | .alen n=>some (.alen n)
  | .app n b x y=>(rO m x).bind fun x=>(rO m y).bind fun y=>some (.app n b x y)
  | .copy n x y=>(rO m x).bind fun x=>(rO m y).bind fun y=>some (.copy n x y)
  | .minmax mx x ys=>(rO m x).bind fun x=>(rOs m ys).bind fun ys=>some (.minmax mx x ys)
  | .iface t x=>(rO m x).bind fun x=>some (.iface t x)
  | .call f xs=>(rOs m xs).bind fun xs=>some (.call f xs)
  | .callv x xs=>(rO m x).bind fun x=>(rOs m xs).bind fun xs=>some (.callv x xs)
  | .panic x=>(rO m x).bind fun x=>some (.panic x)
def bindR (m:RMap) (d:Nat) (o:AOpd):RMap:=(d,o) :: m.filter fun p=>!(p.1 == d)
def killS (m:RMap) (d:Nat):RMap:=m.filter fun p=>match p.2 with | .r j=>!(j == d) | .c _=>true
def rG (m:RMap):Option (Nat × Bool)→Option (Option (Nat × Bool))
  | none=>some none
  | some (r,b)=>match lookR m r with
    | some (.r j)=>some (some (j,b))
    | _=>none
def rOps (n n':Nat) (m:RMap):List AOp→List Nat→Option (List AOp × RMap)
  | [],_=>some ([],m)
  | _ :: _,[]=>none
  | ⟨d,i,g⟩ :: rest,0 :: hs=>match d,i,g with
    | some d,.mov x,none=>(rO m x).bind fun o=>if d < n then rOps n n' (bindR m d o) rest hs else none
    | _,_,_=>none
  | ⟨d,i,g⟩ :: rest,(k + 1) :: hs=>(rI m i).bind fun i'=>(rG m g).bind fun g'=>match d with
    | none=>(rOps n n' m rest hs).bind fun q=>some (⟨none,i',g'⟩ :: q.1,q.2)
    | some d=>if d < n∧k < n' then (rOps n n' (bindR (killS m k) d (.r k)) rest hs).bind fun q=>some (⟨some k,i',g'⟩ :: q.1,q.2) else none
def noAl:List AOp→Bool
  | []=>true
  | ⟨_,.alloc _,_⟩ :: _=>false
  | _ :: rest=>noAl rest
def rHo (n n':Nat) (m:RMap):List AOp→List Nat→Option RMap
  | [],_=>some m
  | _ :: _,[]=>none
  | ⟨d,.alloc _,_⟩ :: rest,h :: hs=>match d,h with
    | some d,k + 1=>if d < n∧k < n' then rHo n n' (bindR (killS m k) d (.r k)) rest hs else none
    | _,_=>none
  | _ :: rest,_ :: hs=>rHo n n' m rest hs
def rDr (n n':Nat) (m:RMap):List AOp→List Nat→Option (List AOp × RMap)
  | [],_=>some ([],m)
  | _ :: _,[]=>none
  | ⟨d,.alloc z,g⟩ :: rest,h :: hs=>match d,h,g with
    | some _,k + 1,none=>(rDr n n' m rest hs).bind fun q=>some (⟨some k,.alloc z,none⟩ :: q.1,q.2)
    | _,_,_=>none
  | ⟨d, i,g⟩ :: rest,h :: hs=>match h with
    | 0=>none
    | k + 1=>(rI m i).bind fun i'=>(rG m g).bind fun g'=>match d with
      | none=>(rDr n n' m rest hs).bind fun q=>some (⟨none,i',g'⟩ :: q.1,q.2)
      | some d=>if d < n∧k < n' then (rDr n n' (bindR (killS m k) d (.r k)) rest hs).bind fun q=>some (⟨some k,i',g'⟩ :: q.1,q.2) else none
def AOpd.same:AOpd→AOpd→Bool
  | .r i,.r j=>i == j
  | .c v,.c w=>v.beq w
  | _,_=>false
def optSame:Option AOpd→AOpd→Bool
  | some a,b=>AOpd.same a b
  | none,_=>false
def subR (a b:RMap):Bool:=a.all fun p=>optSame (lookR b p.1) p.2
def chkHas (m:RMap) (o o':AOp):Bool:=(match o.dst,o'.dst with | some d,some k=>optSame (lookR m d) (.r k) | none,none=>true | _,_=>false)
def rCk (m:RMap) (ops ops':List AOp):List (Nat × Nat × Nat)→Bool
  | []=>true
  | (j, _,_) :: rest=>(match ops[j]?,ops'[j]? with
    | some o,some o'=>chkHas m o o' && (match rI m o.ins,rG m o.guard with
      | some i',some g'=>insSame i' o'.ins && gSame g' o'.guard
      | _,_=>false)
    | _,_=>false) && rCk m ops ops' rest
where
  gSame:Option (Nat × Bool)→Option (Nat × Bool)→Bool
    | none,none=>true
    | some (a,b),some (c,d)=>a == c && b == d
    | _,_=>false
  insSame:AIns→AIns→Bool
    | .load a x,.load b y=>decide (a=b) && AOpd.same x y
    | .alloc a,.alloc b=>beqL a b
    | .iaddr n a x i,.iaddr k b y j=>decide (n=k) && decide (a=b) && AOpd.same x y && AOpd.same i j
    | .mlen x,.mlen y=>AOpd.same x y
    | .slc n x a b,.slc k y c d=>decide (n=k) && AOpd.same x y && oSame a c && oSame b d
    | .look s z o x a,.look t w p y b=>s.beq t && z.beq w && decide (o=p) && AOpd.same x y && AOpd.same a b
    | _,_=>false
  oSame:Option AOpd→Option AOpd→Bool
    | none,none=>true
    | some a,some b=>AOpd.same a b
    | _,_=>false
inductive Hint where
  | nil
  | ops (l:List Nat)
  | two (a b:Hint)
  | join (m:RMap) (a b:Hint)
  | at (m:RMap) (a:Hint)
def exOf (ex:List (Nat × RMap)) (i:Nat):Option RMap:=match ex with
  | []=>none
  | (j,m) :: rest=>if j=i then some m else exOf rest i
def outOK (o:Option RMap) (m:RMap):Bool:=match o with
  | none=>true
  | some x=>subR m x
def rC (n n':Nat) (rt:RMap):List (Nat × RMap)→RMap→ACode→Hint→Option (ACode × Option RMap)
  | _,m,.skip,_=>some (.skip,some m)
  | _,m,.reg ops,.ops hs=>(rOps n n' m ops hs).bind fun q=>some (.reg q.1,some q.2)
  | _,m,.draw ops chk,.ops hs =>
    if noAl ops && chk.isEmpty then (rOps n n' m ops hs).bind fun q=>some (.reg q.1,some q.2)
    else (rHo n n' m ops hs).bind fun m1=>(rDr n n' m1 ops hs).bind fun q=>if rCk q.2 ops q.1 chk then some (.draw q.1 chk,some q.2) else none
  | ex,m,.seq a b,.two h1 h2=>(rC n n' rt ex m a h1).bind fun q=>match q.2 with
    | none=>some (q.1,none)
    | some m1=>(rC n n' rt ex m1 b h2).bind fun p=>some (.seq q.1 p.1,p.2)
  | ex, m,.cond c t e,.join mj h1 h2=>(rO m c).bind fun c'=>(rC n n' rt ex m t h1).bind fun q=>(rC n n' rt ex m e h2).bind fun p =>
      match q.2,p.2 with
      | none,none=>some (.cond c' q.1 p.1,none)
      | a,b=>if outOK a mj && outOK b mj then some (.cond c' q.1 p.1,some mj) else none
  | ex,m,.block id b,.at mo h=>(rC n n' rt ((id,mo) :: ex) m b h).bind fun q=>if outOK q.2 mo then some (.block id q.1,some mo) else none
  | ex,m,.loop b,.at mh h=>if subR mh m then (rC n n' rt ex mh b h).bind fun q=>if outOK q.2 mh then some (.loop q.1,none) else none else none
  | ex,m,.exit id,_=>(exOf ex id).bind fun mo=>if subR mo m then some (.exit id,none) else none
  | _,m,.ret,_=>if subR rt m then some (.ret,none) else none
  | _,_,_,_=>none
def rRes (rs:List ARes) (ks:List Nat):Option (List ARes × RMap):=match rs,ks with
  | [],[]=>some ([],[])
  | r :: rs,k :: ks=>(rRes rs ks).bind fun q=>some ({ r with reg:=k } :: q.1,(r.reg,.r k) :: q.2)
  | _,_=>none
def pars (n:Nat):RMap:=(List.range n).map fun i=>(i,.r i)
def raFn (F:AFunc) (n':Nat) (ks:List Nat) (h:Hint):Option AFunc :=
  (rRes F.results ks).bind fun q =>
  if F.np≤F.ntmps∧F.np≤n' then
    (rC F.ntmps n' q.2 [] (pars F.np) F.body h).bind fun p=>if outOK p.2 q.2 then some ⟨F.np,n',q.1,p.1⟩ else none
  else none
def Agr (m:RMap) (ρ ρ':Regs):Prop:=∀ i o,lookR m i=some o→ρ.getD i .undef=o.ev ρ'
section
variable {m:RMap} {ρ ρ':Regs}
theorem Agr.opd (h:Agr m ρ ρ') {x y:AOpd} (hx:rO m x=some y):y.ev ρ'=x.ev ρ:=by
  cases x with
  | c v=>simp only [rO,Option.some.injEq] at hx; rw [← hx]; rfl
  | r i=>exact (h i y hx).symm
theorem Agr.opds (h:Agr m ρ ρ'):∀ {xs ys:List AOpd},rOs m xs=some ys→ys.map (·.ev ρ')=xs.map (·.ev ρ)
  | [],ys,hx=>by simp only [rOs,Option.some.injEq] at hx; rw [← hx]; rfl
  | x :: xs,ys,hx=>by
    obtain ⟨y,h1,hx⟩:=Option.bind_eq_some_iff.1 hx
    obtain ⟨zs,h2,hx⟩:=Option.bind_eq_some_iff.1 hx
    simp only [Option.some.injEq] at hx
    rw [← hx,List.map_cons,List.map_cons,h.opd h1,h.opds h2]
theorem Agr.oopd (h:Agr m ρ ρ') {x y:Option AOpd} (hx:rOp m x=some y):y.map (·.ev ρ')=x.map (·.ev ρ):=by
  cases x with
  | none=>simp only [rOp,Option.some.injEq] at hx; rw [← hx]; rfl
  | some x =>
    obtain ⟨z,h1,hx⟩:=Option.bind_eq_some_iff.1 hx
    simp only [Option.some.injEq] at hx
    rw [← hx,Option.map_some,Option.map_some,h.opd h1]
theorem Agr.bs (h:Agr m ρ ρ'):∀ {xs ys:List (Nat × Nat × AOpd)},rB m xs=some ys→ys.map (fun p=>(p.1,p.2.1,p.2.2.ev ρ'))=xs.map (fun p=>(p.1,p.2.1,p.2.2.ev ρ))
  | [],ys,hx=>by simp only [rB,Option.some.injEq] at hx; rw [← hx]; rfl
  | (a,b,x) :: xs,ys,hx=>by
    obtain ⟨y,h1,hx⟩:=Option.bind_eq_some_iff.1 hx
    obtain ⟨zs,h2,hx⟩:=Option.bind_eq_some_iff.1 hx
    simp only [Option.some.injEq] at hx
    rw [← hx,List.map_cons,List.map_cons,h.opd h1,h.bs h2]
theorem Agr.ls (h:Agr m ρ ρ') (n:Nat):∀ {xs ys:List (Nat × AOpd)},rL m xs=some ys→ys.map (fun p=>(p.1,n,p.2.ev ρ'))=xs.map (fun p=>(p.1,n,p.2.ev ρ))
  | [],ys,hx=>by simp only [rL,Option.some.injEq] at hx; rw [← hx]; rfl
  | (a,x) :: xs,ys,hx=>by
    obtain ⟨y,h1,hx⟩:=Option.bind_eq_some_iff.1 hx
    obtain ⟨zs,h2,hx⟩:=Option.bind_eq_some_iff.1 hx
    simp only [Option.some.injEq] at hx
    rw [← hx,List.map_cons,List.map_cons,h.opd h1,h.ls n h2]
theorem wOp_ra {E:Env} (h:Agr m ρ ρ') {i i':AIns} (hi:rI m i=some i') {s:St} {K:AV→St→Prop}:wOp E i' ρ' s K↔wOp E i ρ s K:=by
  cases i <;> simp only [rI,Option.some.injEq] at hi
  case own | alloc | mkmap | alen=>subst hi; rfl
  case mov | box | load | chk | un | conv | off | fld | range | next | entry | ext | len | mlen | iface | panic =>
    obtain ⟨x,h1,hi⟩:=Option.bind_eq_some_iff.1 hi
    simp only [Option.some.injEq] at hi
    subst hi
    simp only [wOp,h.opd h1]
  case store | bin | eqs | iaddr | aidx | sidx | look | mksl | app | copy =>
    obtain ⟨x,h1,hi⟩:=Option.bind_eq_some_iff.1 hi
    obtain ⟨y,h2,hi⟩:=Option.bind_eq_some_iff.1 hi
    simp only [Option.some.injEq] at hi
    subst hi
    simp only [wOp,h.opd h1,h.opd h2]
  case pick | mupd =>
    obtain ⟨x,h1,hi⟩:=Option.bind_eq_some_iff.1 hi
    obtain ⟨y,h2,hi⟩:=Option.bind_eq_some_iff.1 hi
    obtain ⟨z,h3,hi⟩:=Option.bind_eq_some_iff.1 hi
    simp only [Option.some.injEq] at hi
    subst hi
    simp only [wOp,h.opd h1,h.opd h2,h.opd h3]
  case slc | sslc =>
    obtain ⟨x,h1,hi⟩:=Option.bind_eq_some_iff.1 hi
    obtain ⟨y,h2,hi⟩:=Option.bind_eq_some_iff.1 hi
    obtain ⟨z,h3,hi⟩:=Option.bind_eq_some_iff.1 hi
    simp only [Option.some.injEq] at hi
    subst hi
    simp only [wOp,h.opd h1,h.oopd h2,h.oopd h3]
  case build =>
    obtain ⟨x,h1,hi⟩:=Option.bind_eq_some_iff.1 hi
    simp only [Option.some.injEq] at hi
    subst hi
    simp only [wOp,h.bs h1]
  case lit =>
    obtain ⟨x,h1,hi⟩:=Option.bind_eq_some_iff.1 hi
    simp only [Option.some.injEq] at hi
    subst hi
    simp only [wOp,h.ls _ h1]
  case mkfn | call =>
    obtain ⟨x,h1,hi⟩:=Option.bind_eq_some_iff.1 hi
    simp only [Option.some.injEq] at hi
    subst hi
    simp only [wOp,h.opds h1]
  case minmax | callv =>
    obtain ⟨x,h1,hi⟩:=Option.bind_eq_some_iff.1 hi
    obtain ⟨y,h2,hi⟩:=Option.bind_eq_some_iff.1 hi
    simp only [Option.some.injEq] at hi
    subst hi
    simp only [wOp,h.opd h1,h.opds h2]
theorem lookR_filter {f:Nat × AOpd→Bool}:∀ {m:RMap} {i:Nat} {o:AOpd},lookR (m.filter f) i=some o→(i,o) ∈ m∧f (i,o)=true
  | [],i,o,h=>by simp [lookR] at h
  | (j, x) :: m,i,o,h=>by
    rw [List.filter_cons] at h
    split at h
    · rename_i hf
      simp only [lookR] at h
      split at h
      · rename_i e; simp only [Option.some.injEq] at h; subst e; subst h; exact ⟨.head _,hf⟩
      · have:=lookR_filter h; exact ⟨.tail _ this.1,this.2⟩
    · have:=lookR_filter h; exact ⟨.tail _ this.1,this.2⟩
def Uni (m:RMap):Prop:=∀ i o,(i,o) ∈ m→lookR m i=some o
theorem Uni.filter (hu:Uni m) (f:Nat × AOpd→Bool):Uni (m.filter f):=by
  induction m with
  | nil=>intro i o h; simp at h
  | cons p m ih =>
    obtain ⟨j,x⟩:=p
    have hu' : Uni m:=by
      intro i o h
      have:=hu i o (.tail _ h)
      simp only [lookR] at this
      split at this
      · rename_i e
        subst e

        simp only [Option.some.injEq] at this
        subst this

        clear ih
        have hx:∀ {m:RMap},(j,x) ∈ m→(∀ o,(j,o) ∈ m→o=x)→lookR m j=some x:=by
          intro m
          induction m with
          | nil=>intro h; cases h
          | cons q m ih2 =>
            obtain ⟨k,y⟩:=q
            intro h1 h2
            simp only [lookR]
            split
            · rename_i e; subst e; rw [h2 y (.head _)]
            · rename_i e
              refine ih2 ?_ (fun o ho=>h2 o (.tail _ ho))
              rcases List.mem_cons.1 h1 with h1 | h1
              · simp only [Prod.mk.injEq] at h1; exact absurd h1.1.symm e
              · exact h1
        refine hx h (fun o ho=>?_)
        have:=hu j o (.tail _ ho)
        simp only [lookR,if_true,Option.some.injEq] at this
        exact this.symm
      · exact this
    intro i o h
    rw [List.filter_cons] at h ⊢
    split at h
    · rename_i hf
      rw [if_pos hf]
      simp only [lookR]
      rcases List.mem_cons.1 h with h | h
      · simp only [Prod.mk.injEq] at h; rw [if_pos h.1.symm,h.2]
      · split
        · rename_i e
          subst e
          have:=hu j o (.tail _ (List.mem_filter.1 h).1)
          simp only [lookR,if_true] at this
          exact this
        · exact ih hu' i o h
    · rename_i hf
      rw [if_neg hf]
      exact ih hu' i o h
theorem Agr.filter (hu:Uni m) (h:Agr m ρ ρ') (f:Nat × AOpd→Bool):Agr (m.filter f) ρ ρ':=fun i o hi=>h i o (hu i o (lookR_filter hi).1)
theorem Uni.bind (hu:Uni m) (d:Nat) (o:AOpd):Uni (bindR m d o):=by
  intro i x h
  simp only [bindR,lookR]
  rcases List.mem_cons.1 h with h | h
  · simp only [Prod.mk.injEq] at h; rw [if_pos h.1.symm,h.2]
  · have:=(List.mem_filter.1 h).2
    simp only [Bool.not_eq_true',beq_eq_false_iff_ne,ne_eq] at this
    rw [if_neg (fun e=>this e.symm)]
    exact hu.filter _ i x h
theorem getD_set_self {l:List AV} {i:Nat} {v:AV} (h:i < l.length):(l.set i v).getD i .undef=v:=by
  simp [List.getD_eq_getElem?_getD,h]
theorem getD_set_ne {l:List AV} {i j:Nat} {v:AV} (h:i ≠ j):(l.set i v).getD j .undef=l.getD j .undef:=by
  simp [List.getD_eq_getElem?_getD,List.getElem?_set_ne h]
theorem Agr.alias (hu:Uni m) (h:Agr m ρ ρ') {d:Nat} {x o:AOpd} (hx:rO m x=some o) (hd:d < ρ.length):Agr (bindR m d o) (ρ.set d (x.ev ρ)) ρ':=by
  intro i y hi
  simp only [bindR,lookR] at hi
  split at hi
  · rename_i e
    subst e
    simp only [Option.some.injEq] at hi
    subst hi
    rw [getD_set_self hd,h.opd hx]
  · rename_i e
    rw [getD_set_ne e]
    exact h.filter hu _ i y hi
theorem Agr.put (hu:Uni m) (h:Agr m ρ ρ') {d k:Nat} (v:AV) (hd:d < ρ.length) (hk:k < ρ'.length):Agr (bindR (killS m k) d (.r k)) (ρ.set d v) (ρ'.set k v):=by
  intro i y hi
  simp only [bindR,lookR] at hi
  split at hi
  · rename_i e
    subst e
    simp only [Option.some.injEq] at hi
    subst hi
    rw [getD_set_self hd]
    exact (getD_set_self hk).symm
  · rename_i e
    rw [getD_set_ne e]
    have hi2:=(lookR_filter hi).1
    have hu2:Uni (killS m k):=hu.filter _
    have hq:=hu2 i y hi2
    have hq2:=(lookR_filter hq).2
    rw [(h.filter hu _) i y hq]
    cases y with
    | c v=>rfl
    | r j =>
      simp only [Bool.not_eq_true',beq_eq_false_iff_ne,ne_eq] at hq2
      exact (getD_set_ne (fun e=>hq2 e.symm)).symm
theorem Agr.guard (h:Agr m ρ ρ') {g g':Option (Nat × Bool)} (hg:rG m g=some g'):(g=none∧g'=none)∨∃ r b j,g=some (r,b)∧g'=some (j,b)∧ρ'.getD j .undef=ρ.getD r .undef:=by
  cases g with
  | none=>simp only [rG,Option.some.injEq] at hg; exact .inl ⟨rfl,hg.symm⟩
  | some p =>
    obtain ⟨r,b⟩:=p
    simp only [rG] at hg
    split at hg
    · rename_i j hj
      simp only [Option.some.injEq] at hg
      exact .inr ⟨r,b,j,rfl,hg.symm,(h r _ hj).symm⟩
    · cases hg
theorem wGd_ra {E:Env} (h:Agr m ρ ρ') {d d':Option Nat} {i i':AIns} {g g':Option (Nat × Bool)} (hi:rI m i=some i') (hg:rG m g=some g') {s:St} {K K':AV→St→Prop} (hK:∀ v s,K' v s→K v s) (hw:wGd E ⟨d',i',g'⟩ ρ' s K'):wGd E ⟨d,i,g⟩ ρ s K:=by
  have hm:=wGd_mono hK hw
  rcases h.guard hg with ⟨rfl,rfl⟩ | ⟨r,b,j,rfl,rfl,hv⟩
  · exact (wOp_ra h hi).1 hm
  · simp only [wGd] at hm ⊢
    rw [hv] at hm
    have he:wOp E i' ρ' s=wOp E i ρ s:=by funext K; exact propext (wOp_ra h hi)
    rw [← he]
    exact hm
theorem Agr.put' (hu:Uni m) (h:Agr m ρ ρ') {n n' d k:Nat} (v:AV) (hn:ρ.length=n) (hn':ρ'.length=n') (hd:d < n∧k < n'):Agr (bindR (killS m k) d (.r k)) (Ai.put ρ (some d) v) (Ai.put ρ' (some k) v):=by
  have h1:d < ρ.length:=by omega
  have h2:k < ρ'.length:=by omega
  exact h.put hu v h1 h2
theorem wOps_ra {E:Env} {n n':Nat} {Q Q':AExit→Regs→St→Prop}:∀ {ops:List AOp} {hs:List Nat} {m:RMap} {ops':List AOp} {m':RMap} {ρ ρ':Regs} {s:St},rOps n n' m ops hs=some (ops',m')→Uni m→Agr m ρ ρ'→ρ.length=n→ρ'.length=n' →
    (∀ ρ ρ' s,ρ.length=n→ρ'.length=n'→Uni m'→Agr m' ρ ρ'→Q' .normal ρ' s→Q .normal ρ s)→wOps E ops' ρ' s Q'→wOps E ops ρ s Q
  | [],hs,m,ops',m',ρ,ρ',s,hr,hu,ha,hn,hn',hQ,hw=>by
    simp only [rOps,Option.some.injEq,Prod.mk.injEq] at hr
    obtain ⟨rfl,rfl⟩:=hr
    exact hQ _ _ _ hn hn' hu ha hw
  | _ :: _,[],m,ops',m',ρ,ρ',s,hr,hu,ha,hn,hn',hQ,hw=>by simp [rOps] at hr
  | ⟨d, i,g⟩ :: rest,0 :: hs,m,ops',m',ρ,ρ',s,hr,hu,ha,hn,hn',hQ,hw=>by
    simp only [rOps] at hr
    split at hr
    · rename_i d x
      obtain ⟨o,h1,hr⟩:=Option.bind_eq_some_iff.1 hr
      split at hr
      · rename_i hd
        have hd':d < ρ.length:=by omega
        exact show wOps E rest (ρ.set d (x.ev ρ)) s Q from wOps_ra hr (hu.bind _ _) (ha.alias hu h1 hd') (by simpa using hn) hn' hQ hw
      · cases hr
    · cases hr
  | ⟨d, i,g⟩ :: rest,(k + 1) :: hs,m,ops',m',ρ,ρ',s,hr,hu,ha,hn,hn',hQ,hw=>by
    simp only [rOps] at hr
    obtain ⟨i',h1,hr⟩:=Option.bind_eq_some_iff.1 hr
    obtain ⟨g',h2,hr⟩:=Option.bind_eq_some_iff.1 hr
    cases d with
    | none =>
      obtain ⟨q,h3,hr⟩:=Option.bind_eq_some_iff.1 hr
      simp only [Option.some.injEq,Prod.mk.injEq] at hr
      obtain ⟨rfl,rfl⟩:=hr
      exact wGd_ra ha h1 h2 (fun v s' q=>wOps_ra h3 hu ha hn hn' hQ q) hw
    | some d =>
      dsimp only at hr
      split at hr
      · rename_i hd
        obtain ⟨q,h3,hr⟩:=Option.bind_eq_some_iff.1 hr
        simp only [Option.some.injEq,Prod.mk.injEq] at hr
        obtain ⟨rfl,rfl⟩:=hr
        exact wGd_ra ha h1 h2 (fun v s' q=>wOps_ra h3 ((hu.filter _).bind _ _) (ha.put' hu v hn hn' hd) (by simpa [Ai.put] using hn) (by simpa [Ai.put] using hn') hQ q) hw
      · cases hr
theorem wTr_noAl {E:Env}:∀ {ops:List AOp} {ρ s hs} {Q:Regs→St→List (List AObj)→Prop} {Q':AExit→Regs→St→Prop},noAl ops=true→(∀ ρ s hs,Q' .normal ρ s→Q ρ s hs)→wOps E ops ρ s Q'→wTr E ops ρ s hs Q
  | [],_,_,_,_,_,_,h,hw=>h _ _ _ hw
  | o :: rest,ρ,s,hs,Q,Q',hn,h,hw=>by
    have ha:∀ z,o.ins ≠ .alloc z:=by
      intro z hz
      obtain ⟨d,i,g⟩:=o
      dsimp only at hz
      subst hz
      simp [noAl] at hn
    have hn':noAl rest=true:=by
      obtain ⟨d,i,g⟩:=o
      cases i <;> first | exact hn | exact absurd rfl (ha _)
    rw [wTr_cons ha]
    exact wGd_mono (fun v s' q=>wTr_noAl hn' h q) hw
theorem hoist_noAl:∀ {ops:List AOp} {ρ H},noAl ops=true→hoist ops ρ H=(ρ,H)
  | [],_,_,_=>rfl
  | o :: rest,ρ,H,hn=>by
    obtain ⟨d,i,g⟩:=o
    cases i <;> first | (simp [noAl] at hn; done) | exact hoist_noAl (ops:=rest) hn
theorem same_eq {a b:AOpd} (h:AOpd.same a b=true):a=b:=by
  cases a <;> cases b <;> simp only [AOpd.same,Bool.false_eq_true,beq_iff_eq] at h
  · rw [h]
  · rw [beq_eq h]
theorem optSame_eq {a:Option AOpd} {b:AOpd} (h:optSame a b=true):a=some b:=by
  cases a with
  | none=>cases h
  | some a=>rw [same_eq h]
theorem mem_look:∀ {m:RMap} {i o},lookR m i=some o→(i,o) ∈ m
  | [],i,o,h=>by simp [lookR] at h
  | (j,x) :: m,i,o,h=>by
    simp only [lookR] at h
    split at h
    · rename_i e; simp only [Option.some.injEq] at h; subst e; subst h; exact .head _
    · exact .tail _ (mem_look h)
theorem Agr.sub {a b:RMap} (h:subR a b=true) (hb:Agr b ρ ρ'):Agr a ρ ρ':=by
  intro i o hi
  have:=List.all_eq_true.1 h (i,o) (mem_look hi)
  exact hb i o (optSame_eq this)
theorem Uni.sub {a b:RMap} (h:subR a b=true):Uni a:=by
  intro i o hm
  have hb:=optSame_eq (List.all_eq_true.1 h (i,o) hm)
  cases hl:lookR a i with
  | none =>
    exfalso
    have : ∀ {a:RMap},(i,o) ∈ a→lookR a i ≠ none:=by
      intro a
      induction a with
      | nil=>intro h; cases h
      | cons p a ih =>
        obtain ⟨j,x⟩:=p
        intro h
        simp only [lookR]
        split
        · simp
        · rename_i e
          rcases List.mem_cons.1 h with h | h
          · simp only [Prod.mk.injEq] at h; exact absurd h.1.symm e
          · exact ih h
    exact this hm hl
  | some x =>
    have hx:=optSame_eq (List.all_eq_true.1 h (i,x) (mem_look hl))
    dsimp only at hb hx
    rw [hb] at hx
    simp only [Option.some.injEq] at hx
    rw [hx]
theorem rI_alloc {m:RMap} {i i':AIns} (h:rI m i=some i') (ha:∀ z,i ≠ .alloc z):∀ z,i' ≠ .alloc z:=by
  cases i <;> simp only [rI,Option.some.injEq] at h
  case alloc=>exact absurd rfl (ha _)
  case own | mkmap | alen=>subst h; intro z hz; cases hz
  all_goals
    intro z hz
    subst hz
    simp [Option.bind_eq_some_iff] at h
theorem rDr_cons {n n':Nat} {m:RMap} {d:Option Nat} {i:AIns} {g:Option (Nat × Bool)} {rest:List AOp} {h:Nat} {hs:List Nat} {q:List AOp × RMap} (ha:∀ z,i ≠ .alloc z) (hr:rDr n n' m (⟨d,i,g⟩ :: rest) (h :: hs)=some q) :
    ∃ k i' g',h=k + 1∧rI m i=some i'∧rG m g=some g'∧((d=none∧∃ p,rDr n n' m rest hs=some p∧q=(⟨none,i',g'⟩ :: p.1,p.2)) ∨
      ∃ d0,d=some d0∧(d0 < n∧k < n')∧∃ p,rDr n n' (bindR (killS m k) d0 (.r k)) rest hs=some p∧q=(⟨some k,i',g'⟩ :: p.1,p.2)):=by
  cases h with
  | zero=>exfalso; cases i <;> first | exact absurd rfl (ha _) | simp [rDr] at hr
  | succ k =>
    cases d with
    | none =>
      have hr':((rI m i).bind fun i'=>(rG m g).bind fun g'=>(rDr n n' m rest hs).bind fun q=>some ((⟨none,i',g'⟩ :: q.1,q.2):List AOp × RMap))=some q:=by
        cases i <;> first | exact absurd rfl (ha _) | simpa only [rDr] using hr
      obtain ⟨i',h1,hr'⟩:=Option.bind_eq_some_iff.1 hr'
      obtain ⟨g',h2,hr'⟩:=Option.bind_eq_some_iff.1 hr'
      obtain ⟨p,h3,hr'⟩:=Option.bind_eq_some_iff.1 hr'
      simp only [Option.some.injEq] at hr'
      exact ⟨k,i',g',rfl,h1,h2,.inl ⟨rfl,p,h3,hr'.symm⟩⟩
    | some d =>
      have hr':((rI m i).bind fun i'=>(rG m g).bind fun g'=>if d < n∧k < n' then (rDr n n' (bindR (killS m k) d (.r k)) rest hs).bind fun q=>some ((⟨some k,i',g'⟩ :: q.1,q.2):List AOp × RMap) else none)=some q:=by
        cases i <;> first | exact absurd rfl (ha _) | simpa only [rDr] using hr
      obtain ⟨i',h1,hr'⟩:=Option.bind_eq_some_iff.1 hr'
      obtain ⟨g',h2,hr'⟩:=Option.bind_eq_some_iff.1 hr'
      split at hr'
      · rename_i hd
        obtain ⟨p,h3,hr'⟩:=Option.bind_eq_some_iff.1 hr'
        simp only [Option.some.injEq] at hr'
        exact ⟨k,i',g',rfl,h1,h2,.inr ⟨d,rfl,hd,p,h3,hr'.symm⟩⟩
      · cases hr'
theorem hoist_cons {d:Option Nat} {i:AIns} {g:Option (Nat × Bool)} {rest:List AOp} {ρ:Regs} {H:List AObj} (ha:∀ z,i ≠ .alloc z):hoist (⟨d,i,g⟩ :: rest) ρ H=hoist rest ρ H:=by
  cases i <;> first | rfl | exact absurd rfl (ha _)
theorem rHo_cons {n n':Nat} {m:RMap} {d:Option Nat} {i:AIns} {g:Option (Nat × Bool)} {rest:List AOp} {h:Nat} {hs:List Nat} (ha:∀ z,i ≠ .alloc z):rHo n n' m (⟨d,i,g⟩ :: rest) (h :: hs)=rHo n n' m rest hs:=by
  cases i <;> first | rfl | exact absurd rfl (ha _)
theorem hoist_ra {n n':Nat}:∀ {ops:List AOp} {hs:List Nat} {m m1 mx:RMap} {q:List AOp × RMap} {ρ ρ':Regs} {H:List AObj},rHo n n' m ops hs=some m1→rDr n n' mx ops hs=some q→Uni m→Agr m ρ ρ'→ρ.length=n→ρ'.length=n' →
    Uni m1∧Agr m1 (hoist ops ρ H).1 (hoist q.1 ρ' H).1∧(hoist ops ρ H).2=(hoist q.1 ρ' H).2∧(hoist ops ρ H).1.length=n∧(hoist q.1 ρ' H).1.length=n'
  | [],hs,m,m1,mx,q,ρ,ρ',H,h1,h2,hu,ha,hn,hn'=>by
    simp only [rHo,Option.some.injEq] at h1
    simp only [rDr,Option.some.injEq] at h2
    subst h1; subst h2
    exact ⟨hu,ha,rfl,hn,hn'⟩
  | o :: rest,[],m,m1,mx,q,ρ,ρ',H,h1,h2,hu,ha,hn,hn'=>by simp [rHo] at h1
  | ⟨d, i, g⟩ :: rest,h :: hs,m,m1,mx,q,ρ,ρ',H,h1,h2,hu,ha,hn,hn'=>by
    by_cases hal:∃ z,i=.alloc z
    · obtain ⟨z,rfl⟩:=hal
      simp only [rHo] at h1
      split at h1
      · rename_i d0 k
        split at h1
        · rename_i hd
          simp only [rDr] at h2
          cases g with
          | none =>
            obtain ⟨p,h3,h2⟩:=Option.bind_eq_some_iff.1 h2
            simp only [Option.some.injEq] at h2
            subst h2
            simp only [hoist]
            exact hoist_ra h1 h3 ((hu.filter _).bind _ _) (ha.put' hu _ hn hn' hd) (by simpa [Ai.put] using hn) (by simpa [Ai.put] using hn')
          | some g=>simp at h2
        · cases h1
      · cases h1
    · have hal':∀ z,i ≠ .alloc z:=fun z hz=>hal ⟨z,hz⟩
      rw [rHo_cons hal'] at h1
      obtain ⟨k,i',g',rfl,e1,e2,e3⟩:=rDr_cons hal' h2
      rw [hoist_cons hal']
      rcases e3 with ⟨rfl,p,e4,rfl⟩ | ⟨d0,rfl,hd,p,e4,rfl⟩
      · rw [hoist_cons (rI_alloc e1 hal')]
        exact hoist_ra h1 e4 hu ha hn hn'
      · rw [hoist_cons (rI_alloc e1 hal')]
        exact hoist_ra h1 e4 hu ha hn hn'
theorem rI_eff {m:RMap} {i i':AIns} (h:rI m i=some i'):i'.eff=i.eff:=by
  cases i <;> simp only [rI,Option.some.injEq] at h
  case own | mkmap | alen | alloc=>subst h; rfl
  all_goals (simp only [Option.bind_eq_some_iff,Option.some.injEq] at h)
  all_goals (repeat' (obtain ⟨_,_,h⟩:=h))
  all_goals first | rfl | (subst h; rfl)
theorem wTr_ra {E:Env} {n n':Nat} {Q Q':Regs→St→List (List AObj)→Prop}:∀ {ops:List AOp} {hs:List Nat} {m:RMap} {q:List AOp × RMap} {ρ ρ':Regs} {s:St} {hp:List (List AObj)},rDr n n' m ops hs=some q→Uni m→Agr m ρ ρ'→ρ.length=n→ρ'.length=n' →
    (∀ ρ ρ' s hp,ρ.length=n→ρ'.length=n'→Uni q.2→Agr q.2 ρ ρ'→Q' ρ' s hp→Q ρ s hp)→wTr E q.1 ρ' s hp Q'→wTr E ops ρ s hp Q
  | [],hs,m,q,ρ,ρ',s,hp,hr,hu,ha,hn,hn',hQ,hw=>by
    simp only [rDr,Option.some.injEq] at hr
    subst hr
    exact hQ _ _ _ _ hn hn' hu ha hw
  | o :: rest,[],m,q,ρ,ρ',s,hp,hr,hu,ha,hn,hn',hQ,hw=>by simp [rDr] at hr
  | ⟨d, i,g⟩ :: rest,h :: hs,m,q,ρ,ρ',s,hp,hr,hu,ha,hn,hn',hQ,hw=>by
    by_cases hal:∃ z,i=.alloc z
    · obtain ⟨z,rfl⟩:=hal
      simp only [rDr] at hr
      split at hr
      · obtain ⟨p,h3,hr⟩:=Option.bind_eq_some_iff.1 hr
        simp only [Option.some.injEq] at hr
        subst hr
        exact show wTr E rest ρ s hp Q from wTr_ra (q:=p) h3 hu ha hn hn' hQ hw
      · cases hr
    · have hal':∀ z,i ≠ .alloc z:=fun z hz=>hal ⟨z,hz⟩
      obtain ⟨k,i',g',rfl,e1,e2,e3⟩:=rDr_cons hal' hr
      rw [wTr_cons (by exact hal')]
      rcases e3 with ⟨rfl,p,e4,rfl⟩ | ⟨d0,rfl,hd,p,e4,rfl⟩
      · rw [wTr_cons (by exact rI_alloc e1 hal')] at hw
        refine wGd_ra ha e1 e2 (fun v s' qq=>?_) hw
        dsimp only at qq ⊢
        rw [rI_eff e1] at qq
        exact wTr_ra (q:=p) e4 hu ha hn hn' hQ qq
      · rw [wTr_cons (by exact rI_alloc e1 hal')] at hw
        refine wGd_ra ha e1 e2 (fun v s' qq=>?_) hw
        dsimp only at qq ⊢
        rw [rI_eff e1] at qq
        exact wTr_ra (q:=p) e4 ((hu.filter _).bind _ _) (ha.put' hu v hn hn' hd) (by simpa [Ai.put] using hn) (by simpa [Ai.put] using hn') hQ qq
theorem gSame_eq {a b:Option (Nat × Bool)} (h:rCk.gSame a b=true):a=b:=by
  cases a <;> cases b <;> simp [rCk.gSame] at h <;> simp
  rename_i p q
  obtain ⟨p1,p2⟩:=p
  obtain ⟨q1,q2⟩:=q
  simp at h
  rw [h.1,h.2]
theorem oSame_eq {a b:Option AOpd} (h:rCk.oSame a b=true):a=b:=by
  cases a <;> cases b <;> simp only [rCk.oSame,Bool.false_eq_true] at h
  · rfl
  · rw [same_eq h]
theorem insSame_eq {a b:AIns} (h:rCk.insSame a b=true):a=b:=by
  cases a <;> cases b <;> simp only [rCk.insSame,Bool.false_eq_true,Bool.and_eq_true,decide_eq_true_eq] at h
  · rw [beqL_eq h]
  · obtain ⟨rfl,h⟩:=h; rw [same_eq h]
  · obtain ⟨⟨⟨rfl,rfl⟩,h1⟩,h2⟩:=h; rw [same_eq h1,same_eq h2]
  · obtain ⟨⟨⟨rfl,h1⟩,h2⟩,h3⟩:=h; rw [same_eq h1,oSame_eq h2,oSame_eq h3]
  · obtain ⟨⟨⟨⟨h1,h2⟩,rfl⟩,h3⟩,h4⟩:=h; rw [Sh.beq_eq h1,beq_eq h2,same_eq h3,same_eq h4]
  · rw [same_eq h]
def isK:AIns→Bool
  | .load .. | .alloc _ | .iaddr .. | .mlen _ | .slc .. | .look ..=>true
  | _=>false
theorem rI_isK {m:RMap} {i i':AIns} (h:rI m i=some i'):isK i'=isK i:=by
  cases i <;> simp only [rI,Option.some.injEq] at h
  case own | mkmap | alen | alloc=>subst h; rfl
  all_goals (simp only [Option.bind_eq_some_iff,Option.some.injEq] at h)
  all_goals (repeat' (obtain ⟨_,_,h⟩:=h))
  all_goals first | rfl | (subst h; rfl)
theorem insSame_isK {a b:AIns} (h:rCk.insSame a b=true):isK a=true:=by
  cases a <;> cases b <;> first | rfl | (simp only [rCk.insSame,Bool.false_eq_true] at h)
theorem chkRead_ra {m:RMap} {ρ ρ':Regs} (ha:Agr m ρ ρ') {base:Option Nat} {o o':AOp} {hs:List (List AObj)} (hh:chkHas m o o'=true) {i':AIns} {g':Option (Nat × Bool)} (hi:rI m o.ins=some i') (hg:rG m o.guard=some g') (h1:rCk.insSame i' o'.ins=true) (h2:rCk.gSame g' o'.guard=true) :
    chkRead base ρ' o' hs=true→chkRead base ρ o hs=true:=by
  obtain ⟨d,i,g⟩:=o
  obtain ⟨d',i2,g2⟩:=o'
  dsimp only at *
  have hk:=(rI_isK hi).symm.trans (insSame_isK h1)
  have h1:=insSame_eq h1
  have h2:=gSame_eq h2
  subst h1; subst h2
  intro hc
  have hwt:wanted ρ' g'=wanted ρ g:=by
    rcases ha.guard hg with ⟨rfl,rfl⟩ | ⟨r,b,j,rfl,rfl,hv⟩
    · rfl
    · simp only [wanted,hv]
  unfold chkRead at hc ⊢
  dsimp only at hc ⊢
  rw [hwt] at hc
  split
  · rename_i hq
    rw [if_pos hq] at hc
    cases d with
    | none=>cases d' <;> simp [chkHas] at hh; exact hc
    | some d =>
      cases d' with
      | none=>simp [chkHas] at hh
      | some k =>
        have hv:ρ.getD d .undef=ρ'.getD k .undef:=ha d _ (optSame_eq hh)
        dsimp only at hc ⊢
        rw [hv]
        cases i <;> simp only [rI,Option.some.injEq] at hi
        case alloc=>subst hi; exact hc
        case load =>
          obtain ⟨x,e1,hi⟩:=Option.bind_eq_some_iff.1 hi
          simp only [Option.some.injEq] at hi
          subst hi
          simp only [evI,ha.opd e1] at hc ⊢
          exact hc
        case mlen =>
          obtain ⟨x,e1,hi⟩:=Option.bind_eq_some_iff.1 hi
          simp only [Option.some.injEq] at hi
          subst hi
          simp only [evI,ha.opd e1] at hc ⊢
          exact hc
        case iaddr =>
          obtain ⟨x,e1,hi⟩:=Option.bind_eq_some_iff.1 hi
          obtain ⟨y,e2,hi⟩:=Option.bind_eq_some_iff.1 hi
          simp only [Option.some.injEq] at hi
          subst hi
          simp only [evI,ha.opd e1,ha.opd e2] at hc ⊢
          exact hc
        case slc =>
          obtain ⟨x,e1,hi⟩:=Option.bind_eq_some_iff.1 hi
          obtain ⟨y,e2,hi⟩:=Option.bind_eq_some_iff.1 hi
          obtain ⟨z,e3,hi⟩:=Option.bind_eq_some_iff.1 hi
          simp only [Option.some.injEq] at hi
          subst hi
          simp only [evI,ha.opd e1,ha.oopd e2,ha.oopd e3] at hc ⊢
          exact hc
        case look =>
          obtain ⟨x,e1,hi⟩:=Option.bind_eq_some_iff.1 hi
          obtain ⟨y,e2,hi⟩:=Option.bind_eq_some_iff.1 hi
          simp only [Option.some.injEq] at hi
          subst hi
          simp only [evI,ha.opd e1,ha.opd e2] at hc ⊢
          exact hc
        all_goals (cases hk)
  · rfl
theorem wChk_ra {m:RMap} {ρ ρ':Regs} (ha:Agr m ρ ρ') {base:Option Nat} {ops ops':List AOp} {hs:List (List AObj)} {X Y:Prop} (hXY:X→Y):∀ {l:List (Nat × Nat × Nat)},rCk m ops ops' l=true→wChk base ρ' ops' hs l X→wChk base ρ ops hs l Y
  | [],_,h=>hXY h
  | (j, lo,hi) :: l,hc,h=>by
    simp only [rCk,Bool.and_eq_true] at hc
    obtain ⟨h1,h2⟩:=h
    refine ⟨?_,wChk_ra ha hXY hc.2 h2⟩
    obtain ⟨o',ho',hr⟩:=oM_get h1
    have hc1:=hc.1
    split at hc1
    · rename_i o o2 q1 q2
      rw [ho'] at q2
      simp only [Option.some.injEq] at q2
      subst q2
      rw [q1]
      simp only [Bool.and_eq_true] at hc1
      have hc2:=hc1.2
      split at hc2
      · rename_i i' g' e1 e2
        simp only [Bool.and_eq_true] at hc2
        exact chkRead_ra ha hc1.1 e1 e2 hc2.1 hc2.2 hr
      · cases hc2
    · cases hc1
theorem outOK_sub {o:Option RMap} {m m1:RMap} (h:outOK o m=true) (ho:o=some m1):subR m m1=true:=by rw [ho] at h; exact h
structure Aft (n n':Nat) (rt:RMap) (ex:List (Nat × RMap)) (mo:Option RMap) (Q' Q:AExit→Regs→St→Prop):Prop where
  normal:∀ m ρ ρ' s,mo=some m→ρ.length=n→ρ'.length=n'→Uni m→Agr m ρ ρ'→Q' .normal ρ' s→Q .normal ρ s
  exit:∀ i m ρ ρ' s,exOf ex i=some m→ρ.length=n→ρ'.length=n'→Uni m→Agr m ρ ρ'→Q' (.exit i) ρ' s→Q (.exit i) ρ s
  ret:∀ ρ ρ' s,ρ.length=n→ρ'.length=n'→Agr rt ρ ρ'→Q' .ret ρ' s→Q .ret ρ s
theorem wLoop_ra {W W':Regs→St→(AExit→Regs→St→Prop)→Prop} {n n':Nat} {rt mh:RMap} {ex:List (Nat × RMap)} {mo:Option RMap} {Q' Q:AExit→Regs→St→Prop} (hu:Uni mh) (hmo:outOK mo mh=true)
    (hb:∀ ρ ρ' s Q' Q,ρ.length=n→ρ'.length=n'→Agr mh ρ ρ'→Aft n n' rt ex mo Q' Q→W' ρ' s Q'→W ρ s Q) (hQ:Aft n n' rt ex none Q' Q):∀ {k:Nat} {ρ ρ':Regs} {s:St},ρ.length=n→ρ'.length=n'→Agr mh ρ ρ'→wLoop W' k ρ' s Q'→wLoop W k ρ s Q
  | 0,_,_,_,_,_,_,hw=>hw
  | k + 1,ρ,ρ',s,hn,hn',ha,hw=>by
    refine hb ρ ρ' s _ _ hn hn' ha ⟨?_,?_,?_⟩ hw
    · intro m1 ρ1 ρ1' s1 h1 h2 h3 _ h5 h6
      exact wLoop_ra hu hmo hb hQ h2 h3 (h5.sub (outOK_sub hmo h1)) h6
    · intro i m1 ρ1 ρ1' s1 h1 h2 h3 hu h4 h5; exact hQ.exit i m1 ρ1 ρ1' s1 h1 h2 h3 hu h4 h5
    · intro ρ1 ρ1' s1 h2 h3 h4 h5; exact hQ.ret ρ1 ρ1' s1 h2 h3 h4 h5
theorem WC_ra {E:Env} {n n':Nat} {rt:RMap}:∀ {c:ACode} {h:Hint} {ex:List (Nat × RMap)} {m:RMap} {c':ACode} {mo:Option RMap} {ρ ρ':Regs} {s:St} {Q' Q:AExit→Regs→St→Prop},
    rC n n' rt ex m c h=some (c',mo)→Uni m→Agr m ρ ρ'→ρ.length=n→ρ'.length=n'→Aft n n' rt ex mo Q' Q→WC E c' ρ' s Q'→WC E c ρ s Q
  | .skip,h,ex,m,c',mo,ρ,ρ',s,Q',Q,hr,hu,ha,hn,hn',hQ,hw=>by
    simp only [rC,Option.some.injEq,Prod.mk.injEq] at hr
    obtain ⟨rfl,rfl⟩:=hr
    exact hQ.normal _ _ _ _ rfl hn hn' hu ha hw
  | .exit i,h,ex,m,c',mo,ρ,ρ',s,Q',Q,hr,hu,ha,hn,hn',hQ,hw=>by
    simp only [rC] at hr
    obtain ⟨m1,h1,hr⟩:=Option.bind_eq_some_iff.1 hr
    split at hr
    · rename_i h2
      simp only [Option.some.injEq,Prod.mk.injEq] at hr
      obtain ⟨rfl,rfl⟩:=hr
      exact hQ.exit _ _ _ _ _ h1 hn hn' (Uni.sub h2) (ha.sub h2) hw
    · cases hr
  | .ret,h,ex,m,c',mo,ρ,ρ',s,Q',Q,hr,hu,ha,hn,hn',hQ,hw=>by
    simp only [rC] at hr
    split at hr
    · rename_i h2
      simp only [Option.some.injEq,Prod.mk.injEq] at hr
      obtain ⟨rfl,rfl⟩:=hr
      exact hQ.ret _ _ _ hn hn' (ha.sub h2) hw
    · cases hr
  | .reg ops,h,ex,m,c',mo,ρ,ρ',s,Q',Q,hr,hu,ha,hn,hn',hQ,hw=>by
    cases h <;> simp only [rC,reduceCtorEq] at hr
    obtain ⟨q,h1,hr⟩:=Option.bind_eq_some_iff.1 hr
    simp only [Option.some.injEq,Prod.mk.injEq] at hr
    obtain ⟨rfl,rfl⟩:=hr
    exact wOps_ra (ops':=q.1) (m':=q.2) h1 hu ha hn hn' (fun ρ ρ' s a1 a2 a3 a4 a5=>hQ.normal _ _ _ _ rfl a1 a2 a3 a4 a5) hw
  | .draw ops chk,h,ex,m,c',mo,ρ,ρ',s,Q',Q,hr,hu,ha,hn,hn',hQ,hw=>by
    cases h <;> simp only [rC,reduceCtorEq] at hr
    split at hr
    · rename_i hc
      simp only [Bool.and_eq_true,List.isEmpty_iff] at hc
      obtain ⟨hc1,rfl⟩:=hc
      obtain ⟨q,h1,hr⟩:=Option.bind_eq_some_iff.1 hr
      simp only [Option.some.injEq,Prod.mk.injEq] at hr
      obtain ⟨rfl,rfl⟩:=hr
      simp only [WC,hoist_noAl hc1]
      exact wTr_noAl hc1 (fun ρ s hs q=>q) (wOps_ra (ops':=q.1) (m':=q.2) h1 hu ha hn hn' (fun ρ ρ' s a1 a2 a3 a4 a5=>hQ.normal _ _ _ _ rfl a1 a2 a3 a4 a5) hw)
    · obtain ⟨m1,h1,hr⟩:=Option.bind_eq_some_iff.1 hr
      obtain ⟨q,h2,hr⟩:=Option.bind_eq_some_iff.1 hr
      split at hr
      · rename_i hc
        simp only [Option.some.injEq,Prod.mk.injEq] at hr
        obtain ⟨rfl,rfl⟩:=hr
        obtain ⟨k1,k2,k3,k4,k5⟩:=hoist_ra (H:=s.heap) h1 h2 hu ha hn hn'
        simp only [WC] at hw ⊢
        rw [k3]
        exact wTr_ra (q:=q) h2 k1 k2 k4 k5 (fun ρ ρ' s hp a1 a2 a3 a4 a5=>wChk_ra a4 (fun a6=>hQ.normal _ _ _ _ rfl a1 a2 a3 a4 a6) hc a5) hw
      · cases hr
  | .seq a b,h,ex,m,c',mo,ρ,ρ',s,Q',Q,hr,hu,ha,hn,hn',hQ,hw=>by
    cases h <;> simp only [rC,reduceCtorEq] at hr
    rename_i h1 h2
    obtain ⟨q,e1,hr⟩:=Option.bind_eq_some_iff.1 hr
    obtain ⟨q1,q2⟩:=q
    dsimp only at hr
    cases q2 with
    | none =>
      simp only [Option.some.injEq,Prod.mk.injEq] at hr
      obtain ⟨rfl,rfl⟩:=hr
      exact WC_ra (c:=a) e1 hu ha hn hn' ⟨(fun m ρ ρ' s he=>by cases he),hQ.exit,hQ.ret⟩ hw
    | some m1 =>
      obtain ⟨p,e2,hr⟩:=Option.bind_eq_some_iff.1 hr
      obtain ⟨p1,p2⟩:=p
      simp only [Option.some.injEq,Prod.mk.injEq] at hr
      obtain ⟨rfl,rfl⟩:=hr
      refine WC_ra (c:=a) (Q':=sK (WC E p1) Q') (Q:=sK (WC E b) Q) e1 hu ha hn hn' ⟨?_,hQ.exit,hQ.ret⟩ hw
      intro m2 ρ2 ρ2' s2 he a1 a2 a3 a4 a5
      simp only [Option.some.injEq] at he
      subst he
      exact WC_ra (c:=b) e2 a3 a4 a1 a2 hQ a5
  | .cond c t e,h,ex,m,c',mo,ρ,ρ',s,Q',Q,hr,hu,ha,hn,hn',hQ,hw=>by
    cases h <;> simp only [rC,reduceCtorEq] at hr
    rename_i mj h1 h2
    obtain ⟨x,e0,hr⟩:=Option.bind_eq_some_iff.1 hr
    obtain ⟨q,e1,hr⟩:=Option.bind_eq_some_iff.1 hr
    obtain ⟨p,e2,hr⟩:=Option.bind_eq_some_iff.1 hr
    obtain ⟨q1,q2⟩:=q
    obtain ⟨p1,p2⟩:=p
    dsimp only at hr
    have key : c'=.cond x q1 p1∧(∀ m1,q2=some m1→mo=some mj∧subR mj m1=true)∧(∀ m1,p2=some m1→mo=some mj∧subR mj m1=true):=by
      cases q2 with
      | none => cases p2 with
        | none =>
          simp only [Option.some.injEq,Prod.mk.injEq] at hr
          exact ⟨hr.1.symm,(fun _ h=>by cases h),(fun _ h=>by cases h)⟩
        | some m2 =>
          simp only at hr
          split at hr
          · rename_i hc
            simp only [Option.some.injEq,Prod.mk.injEq] at hr
            simp only [Bool.and_eq_true] at hc
            exact ⟨hr.1.symm,(fun _ h=>by cases h),fun _ h=>⟨hr.2.symm,outOK_sub hc.2 h⟩⟩
          · cases hr
      | some m1 =>
        simp only at hr
        split at hr
        · rename_i hc
          simp only [Option.some.injEq,Prod.mk.injEq] at hr
          simp only [Bool.and_eq_true] at hc
          exact ⟨hr.1.symm,(fun _ h=>⟨hr.2.symm,outOK_sub hc.1 h⟩),fun _ h=>⟨hr.2.symm,outOK_sub hc.2 h⟩⟩
        · cases hr
    obtain ⟨rfl,k1,k2⟩:=key
    simp only [WC,cM] at hw ⊢
    rw [ha.opd e0] at hw
    split at hw
    · split at hw
      · rename_i hb
        rw [if_pos hb]
        refine WC_ra (c:=t) e1 hu ha hn hn' ⟨?_,hQ.exit,hQ.ret⟩ hw
        intro m2 ρ2 ρ2' s2 he a1 a2 a3 a4 a5
        obtain ⟨b1,b2⟩:=k1 m2 he
        exact hQ.normal _ _ _ _ b1 a1 a2 (Uni.sub b2) (a4.sub b2) a5
      · rename_i hb
        rw [if_neg hb]
        refine WC_ra (c:=e) e2 hu ha hn hn' ⟨?_,hQ.exit,hQ.ret⟩ hw
        intro m2 ρ2 ρ2' s2 he a1 a2 a3 a4 a5
        obtain ⟨b1,b2⟩:=k2 m2 he
        exact hQ.normal _ _ _ _ b1 a1 a2 (Uni.sub b2) (a4.sub b2) a5
    · exact hw.elim
  | .block id b,h,ex,m,c',mo,ρ,ρ',s,Q',Q,hr,hu,ha,hn,hn',hQ,hw=>by
    cases h <;> simp only [rC,reduceCtorEq] at hr
    rename_i mb h1
    obtain ⟨q,e1,hr⟩:=Option.bind_eq_some_iff.1 hr
    obtain ⟨q1,q2⟩:=q
    split at hr
    · rename_i hc
      simp only [Option.some.injEq,Prod.mk.injEq] at hr
      obtain ⟨rfl,rfl⟩:=hr
      have hum:∀ m1,q2=some m1→subR mb m1=true:=fun m1 h=>outOK_sub hc h
      refine WC_ra (c:=b) (Q':=bK id Q') (Q:=bK id Q) e1 hu ha hn hn' ⟨?_,?_,hQ.ret⟩ hw
      · intro m2 ρ2 ρ2' s2 he a1 a2 a3 a4 a5
        exact hQ.normal _ _ _ _ rfl a1 a2 (Uni.sub (hum m2 he)) (a4.sub (hum m2 he)) a5
      · intro i m2 ρ2 ρ2' s2 he a1 a2 a3 a4 a5
        simp only [exOf] at he
        split at he
        · rename_i hid
          simp only [Option.some.injEq] at he
          subst he
          simp only [bK,if_pos hid.symm] at a5 ⊢
          exact hQ.normal _ _ _ _ rfl a1 a2 a3 a4 a5
        · rename_i hid
          simp only [bK] at a5 ⊢
          rw [if_neg (fun e=>hid e.symm)] at a5 ⊢
          exact hQ.exit _ _ _ _ _ he a1 a2 a3 a4 a5
    · cases hr
  | .loop b,h,ex,m,c',mo,ρ,ρ',s,Q',Q,hr,hu,ha,hn,hn',hQ,hw=>by
    cases h <;> simp only [rC,reduceCtorEq] at hr
    rename_i mh h1
    split at hr
    · rename_i hs
      obtain ⟨q,e1,hr⟩:=Option.bind_eq_some_iff.1 hr
      obtain ⟨q1,q2⟩:=q
      split at hr
      · rename_i hc
        simp only [Option.some.injEq,Prod.mk.injEq] at hr
        obtain ⟨rfl,rfl⟩:=hr
        exact wLoop_ra (W:=WC E b) (W':=WC E q1) (Uni.sub hs) hc (fun ρ ρ' s Q' Q a1 a2 a3 a4 a5=>WC_ra (c:=b) e1 (Uni.sub hs) a3 a1 a2 a4 a5) hQ hn hn' (ha.sub hs) hw
      · cases hr
    · cases hr
  | .rangeF _ _ _ _,h,ex,m,c',mo,ρ,ρ',s,Q',Q,hr,hu,ha,hn,hn',hQ,hw=>by simp [rC] at hr
theorem frzL_ra:∀ {rs:List ARes} {ks:List Nat} {q:List ARes × RMap} (base:Nat) (H:List AObj) (vs:List AV),rRes rs ks=some q→frzL base H q.1 vs=frzL base H rs vs
  | [],[],q,_,_,_,h=>by simp only [rRes,Option.some.injEq] at h; subst h; rfl
  | [],_ :: _,q,_,_,_,h=>by simp [rRes] at h
  | _ :: _,[],q,_,_,_,h=>by simp [rRes] at h
  | r :: rs,k :: ks,q,base,H,vs,h=>by
    obtain ⟨p,h1,h⟩:=Option.bind_eq_some_iff.1 h
    simp only [Option.some.injEq] at h
    subst h
    cases vs with
    | nil=>rfl
    | cons v vs=>simp only [frzL,frzL_ra base H vs h1]
theorem lenRes_ra:∀ {rs:List ARes} {ks:List Nat} {q:List ARes × RMap},rRes rs ks=some q→q.1.length=rs.length
  | [],[],q,h=>by simp only [rRes,Option.some.injEq] at h; subst h; rfl
  | [],_ :: _,q,h=>by simp [rRes] at h
  | _ :: _,[],q,h=>by simp [rRes] at h
  | r :: rs,k :: ks,q,h=>by
    obtain ⟨p,h1,h⟩:=Option.bind_eq_some_iff.1 h
    simp only [Option.some.injEq] at h
    subst h
    simp [lenRes_ra h1]
theorem leave_ra {rs:List ARes} {ks:List Nat} {q:List ARes × RMap} (base:Nat) (lk:Bool) (vs:List AV) (s:St) (h:rRes rs ks=some q):leave base lk q.1 vs s=leave base lk rs vs s:=by
  unfold leave
  rw [frzL_ra _ _ _ h,lenRes_ra h]
theorem res_ra {ρ ρ':Regs} (H:List AObj):∀ {rs:List ARes} {ks:List Nat} {q:List ARes × RMap},rRes rs ks=some q→(∀ i o,(i,o) ∈ q.2→ρ.getD i .undef=o.ev ρ')→resultsOf ρ' H q.1=resultsOf ρ H rs
  | [],[],q,h,_=>by simp only [rRes,Option.some.injEq] at h; subst h; rfl
  | [],_ :: _,q,h,_=>by simp [rRes] at h
  | _ :: _,[],q,h,_=>by simp [rRes] at h
  | r :: rs,k :: ks,q,h,ha=>by
    obtain ⟨p,h1,h⟩:=Option.bind_eq_some_iff.1 h
    simp only [Option.some.injEq] at h
    subst h
    have h0:ρ.getD r.reg .undef=ρ'.getD k .undef:=ha _ _ (.head _)
    simp only [resultsOf,resultOf,h0,res_ra H h1 (fun i o hm=>ha i o (.tail _ hm))]
def uniB (m:RMap):Bool:=m.all fun p=>optSame (lookR m p.1) p.2
theorem uniB_uni {m:RMap} (h:uniB m=true):Uni m:=fun i o hm=>optSame_eq (List.all_eq_true.1 h (i,o) hm)
theorem RK_ra {rs:List ARes} {ks:List Nat} {q:List ARes × RMap} (h:rRes rs ks=some q) (hu:uniB q.2=true) {H:Nat} {lk:Bool} {K:AV→St→Prop} {ρ ρ':Regs} {s:St} (ha:Agr q.2 ρ ρ') :
    RK H lk q.1 K .ret ρ' s→RK H lk rs K .ret ρ s:=by
  intro hr
  simp only [RK] at hr ⊢
  rw [res_ra s.heap h (fun i o hm=>ha i o (uniB_uni hu i o hm))] at hr
  obtain ⟨vs,h1,h2⟩:=oM_get hr
  rw [h1]
  simp only [leave_ra _ _ _ _ h] at h2
  exact h2
theorem look_pars (f:Nat→Nat):∀ (l:List Nat) (i:Nat) (o:AOpd),lookR (l.map fun i=>(i,AOpd.r (f i))) i=some o→o=.r (f i)∧i ∈ l
  | [],i,o,h=>by simp [lookR] at h
  | j :: l,i,o,h=>by
    simp only [List.map_cons,lookR] at h
    split at h
    · rename_i e; subst e; simp only [Option.some.injEq] at h; exact ⟨h.symm,.head _⟩
    · have:=look_pars f l i o h; exact ⟨this.1,.tail _ this.2⟩
theorem uni_pars:∀ (l:List Nat),Uni (l.map fun i=>(i,AOpd.r i)):=by
  intro l i o hm
  obtain ⟨j,hj,he⟩:=List.mem_map.1 hm
  simp only [Prod.mk.injEq] at he
  obtain ⟨rfl,rfl⟩:=he
  clear hm
  induction l with
  | nil=>cases hj
  | cons k l ih =>
    simp only [List.map_cons,lookR]
    split
    · rename_i e; rw [e]
    · rename_i e
      rcases List.mem_cons.1 hj with h | h
      · exact absurd h.symm e
      · exact ih h
theorem VC_ra {P:AProg} {k:Nat} {b:Option Nat} {f:FuncId} {F F':AFunc} {n':Nat} {ks:List Nat} {hint:Hint} {args:List AV} {s:St} {K:AV→St→Prop} (hf:P f=some (.code F)) (hra:raFn F n' ks hint=some F') (hul:((rRes F.results ks).all fun q=>uniB q.2)=true) (hn:args.length=F'.np)
    (hw:WC ⟨P,k,some s.heap.length⟩ F'.body (args ++ List.replicate (F'.ntmps - F'.np) .undef) { s with leak:=false } (RK s.heap.length s.leak F'.results K)):VC ⟨P,k + 1,b⟩ f args s K:=by
  unfold raFn at hra
  obtain ⟨q,h1,hra⟩:=Option.bind_eq_some_iff.1 hra
  split at hra
  · rename_i hnp
    obtain ⟨p,h2,hra⟩:=Option.bind_eq_some_iff.1 hra
    obtain ⟨c',mo⟩:=p
    split at hra
    · rename_i hc
      simp only [Option.some.injEq] at hra
      subst hra
      dsimp only at hn hw hc
      have hu:uniB q.2=true:=by rw [h1] at hul; simpa using hul
      refine VC_enter hf hn ?_
      refine WC_ra (Q':=RK s.heap.length s.leak q.1 K) h2 (uni_pars _) ?_ (by simp; omega) (by simp; omega) ⟨?_,(fun i m ρ ρ' s he=>by cases he),?_⟩ hw
      · intro i o hi
        obtain ⟨rfl,hm⟩:=look_pars id _ _ _ hi
        have hm:=List.mem_range.1 hm
        simp only [AOpd.ev,id_eq,List.getD_eq_getElem?_getD]
        rw [List.getElem?_append_left (by omega),List.getElem?_append_left (by omega)]
      · intro m ρ ρ' s he a1 a2 a3 a4 a5
        exact RK_ra h1 hu (a4.sub (outOK_sub hc he)) a5
      · intro ρ ρ' s a1 a2 a4 a5
        exact RK_ra h1 hu a4 a5
    · cases hra
  · cases hra
theorem getD_some {α:Type} {o:Option α} {d:α} (h:o.isSome=true):o=some (o.getD d):=by
  cases o with
  | none=>cases h
  | some a=>rfl
end
end Go.W
end
