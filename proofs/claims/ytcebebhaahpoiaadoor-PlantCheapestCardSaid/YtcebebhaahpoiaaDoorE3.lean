/- PlantCheapest: for every plant, schedule, and change of it the law answers true and turns nothing, with no condition. Part 3 of 5. -/
import Derived.Shelf.Spec.TrailingZeros
import Derived.Lib.LaidU8
import Derived.Test.YtcebebhaahpoiaaDoorTie
import Derived.Test.YtcebebhaahpoiaaDoorCards
import Derived.ProofKit
import Derived.Lay
import Derived.SevenTiedAt
import Derived.Test.YtcebebhaahpoiaaDoorE2
set_option maxHeartbeats 2000000
set_option linter.unusedSimpArgs false
set_option linter.unusedVariables false
set_option linter.deprecated false
set_option linter.all false
section
namespace Go.W
open Go Go.Ai
theorem VC_iff {E:Env} {f:FuncId} {args:List AV} {s s':St} {v:AV} {K:AV→St→Prop} (h:VC E f args s fun v' s''=>v'=v∧s''=s'):VC E f args s K=K v s':=by
  refine propext ⟨fun hk=>?_,fun hk=>VC_mono (fun _ _ q=>by rw [q.1,q.2]; exact hk) h⟩
  unfold VC at h hk
  obtain ⟨p,hp⟩:=(show ∃ p:Ret × St,(match p.1 with | Ret.val v'=>v'=v∧p.2=s' | .panic _=>False)∧(match p.1 with | Ret.val v'=>K v' p.2 | .panic _=>False) from by
    generalize ev E.P E.k (.fn f) args s=r at h hk
    clear s
    induction r with
    | ok a=>exact ⟨a,h,hk⟩
    | fail=>exact h.elim
    | pick n g ih=>exact ih 0 (h.2 0 h.1) (hk.2 0 h.1))
  obtain ⟨h1,h2⟩:=hp
  cases hr:p.1 with
  | val v'=>rw [hr] at h1 h2; obtain ⟨rfl,rfl⟩:=h1; exact h2
  | panic v'=>rw [hr] at h1; exact h1.elim
section
variable {E:Env} {ρ:Regs} {s:St} {Q:AExit→Regs→St→Prop} {W:Regs→St→(AExit→Regs→St→Prop)→Prop} {J:Nat→Regs→St→Prop}
theorem oM_s {α:Type} {a:α} {f:α→Prop}:oM (some a) f=f a:=rfl
theorem oM_n {α:Type} {f:α→Prop}:oM none f=False:=rfl
theorem oM_b {α β:Type} {o:Option α} {g:α→Option β} {f:β→Prop}:oM (o.bind g) f=oM o fun a=>oM (g a) f:=by cases o <;> rfl
theorem oM_if {α:Type} {c:Prop} [Decidable c] {a:α} {f:α→Prop}:oM (if c then some a else none) f=(c∧f a):=by
  split
  · rename_i h; exact propext ⟨fun q=>⟨h,q⟩,fun q=>q.2⟩
  · rename_i h; exact propext ⟨fun q=>q.elim,fun q=>h q.1⟩
theorem sK_n:sK W Q .normal ρ s=W ρ s Q:=rfl
theorem sK_e {i}:sK W Q (.exit i) ρ s=Q (.exit i) ρ s:=rfl
theorem sK_r:sK W Q .ret ρ s=Q .ret ρ s:=rfl
theorem bK_n {i}:bK i Q .normal ρ s=Q .normal ρ s:=rfl
theorem bK_e {i j}:bK i Q (.exit j) ρ s=if j=i then Q .normal ρ s else Q (.exit j) ρ s:=rfl
theorem bK_r {i}:bK i Q .ret ρ s=Q .ret ρ s:=rfl
theorem LK_e {i m}:LK J m Q (.exit i) ρ s=Q (.exit i) ρ s:=rfl
theorem LK_r {m}:LK J m Q .ret ρ s=Q .ret ρ s:=rfl
theorem cM_b {t:Bool} {T F:Prop}:cM (.bool t) T F=if t=true then T else F:=rfl
theorem WC_block {i b}:WC E (.block i b) ρ s Q=WC E b ρ s (bK i Q):=rfl
theorem WC_seq {a b}:WC E (.seq a b) ρ s Q=WC E a ρ s (sK (WC E b) Q):=rfl
theorem WC_skip:WC E .skip ρ s Q=Q .normal ρ s:=rfl
theorem WC_exit {i}:WC E (.exit i) ρ s Q=Q (.exit i) ρ s:=rfl
theorem WC_ret:WC E .ret ρ s Q=Q .ret ρ s:=rfl
theorem gO_t {X:(AV→St→Prop)→Prop} {K:AV→St→Prop}:gO (.bool true) true s X K=X K:=rfl
theorem gO_f {X:(AV→St→Prop)→Prop} {K:AV→St→Prop}:gO (.bool false) true s X K=K .undef s:=rfl
theorem gO_t' {X:(AV→St→Prop)→Prop} {K:AV→St→Prop}:gO (.bool true) false s X K=K .undef s:=rfl
theorem gO_f' {X:(AV→St→Prop)→Prop} {K:AV→St→Prop}:gO (.bool false) false s X K=X K:=rfl
theorem vPick_t {a b:AV}:vPick (.bool true) a b=some a:=rfl
theorem vPick_f {a b:AV}:vPick (.bool false) a b=some b:=rfl
theorem VV_fn {f caps args} {K:AV→St→Prop}:VV E (.fn f caps) args s K=VC E f (args ++ caps) s K:=rfl
variable {k:IntKind} {a b:Int}
theorem b_add:evBin .add (.int k a) (.int k b)=some (.int k (k.wrap (a + b))):=by simp [evBin]
theorem b_sub:evBin .sub (.int k a) (.int k b)=some (.int k (k.wrap (a - b))):=by simp [evBin]
theorem b_mul:evBin .mul (.int k a) (.int k b)=some (.int k (k.wrap (a * b))):=by simp [evBin]
theorem b_quo:evBin .quo (.int k a) (.int k b)=if b=0 then none else some (.int k (k.wrap (a.tdiv b))):=by simp [evBin]
theorem b_rem:evBin .rem (.int k a) (.int k b)=if b=0 then none else some (.int k (a.tmod b)):=by simp [evBin]
theorem b_and:evBin .and (.int k a) (.int k b)=some (.int k (k.wrap (BitVec.ofInt k.bits a &&& BitVec.ofInt k.bits b).toNat)):=by simp [evBin]
theorem b_or:evBin .or (.int k a) (.int k b)=some (.int k (k.wrap (BitVec.ofInt k.bits a ||| BitVec.ofInt k.bits b).toNat)):=by simp [evBin]
theorem b_andNot:evBin .andNot (.int k a) (.int k b)=some (.int k (k.wrap (BitVec.ofInt k.bits a &&& ~~~BitVec.ofInt k.bits b).toNat)):=by simp [evBin]
theorem b_shl {j:IntKind}:evBin .shl (.int k a) (.int j b)=if b < 0 then none else some (.int k (k.wrap (a * 2 ^ (min b.toNat k.bits)))):=rfl
theorem b_shr {j:IntKind}:evBin .shr (.int k a) (.int j b)=if b < 0 then none else some (.int k (a.fdiv (2 ^ (min b.toNat k.bits)))):=rfl
theorem b_eql:evBin .eql (.int k a) (.int k b)=some (.bool (decide (a=b))):=by simp [evBin]; rfl
theorem b_neq:evBin .neq (.int k a) (.int k b)=some (.bool (!decide (a=b))):=by simp [evBin]; rfl
theorem b_lss:evBin .lss (.int k a) (.int k b)=some (.bool (decide (a < b))):=by simp [evBin]
theorem b_leq:evBin .leq (.int k a) (.int k b)=some (.bool (decide (a≤b))):=by simp [evBin]
theorem b_gtr:evBin .gtr (.int k a) (.int k b)=some (.bool (decide (b < a))):=by simp [evBin]
theorem b_geq:evBin .geq (.int k a) (.int k b)=some (.bool (decide (b≤a))):=by simp [evBin]
theorem u_not {t:Bool}:evUn .not (.bool t)=some (.bool (!t)):=rfl
theorem u_neg:evUn .neg (.int k a)=some (.int k (k.wrap (0 - a))):=rfl
theorem m_nil {mx:Bool} {x:AV}:evMinMax mx x []=some x:=by cases x <;> rfl
theorem m_max {r:List AV}:evMinMax true (.int k a) (.int k b :: r)=evMinMax true (.int k (max a b)) r:=by
  simp only [evMinMax,if_true]
  congr 2
  split <;> omega
theorem m_min {r:List AV}:evMinMax false (.int k a) (.int k b :: r)=evMinMax false (.int k (min a b)) r:=by
  simp only [evMinMax,if_true,Bool.false_eq_true,if_false]
  congr 2
  split <;> omega
theorem conv_i {j:IntKind}:vConv j (.int k a)=some (.int j (j.wrap a)):=rfl
theorem len_slice {f z es}:vLen false (.slice f z es)=some (.int .i64 (es.length:Nat)):=rfl
theorem len_sref {b o l v z}:vLen false (.sref b o l v z)=some (.int .i64 (l:Nat)):=rfl
theorem ext_t {i vs}:vExt i (.tup vs)=vs[i]?:=rfl
theorem off_p {o b f v}:vOff o (.ptr b f v)=some (.ptr b (f + o) v):=rfl
theorem off_v {o cs f}:vOff o (.vptr cs f)=some (.vptr cs (f + o)):=rfl
theorem fld_a {o agg cs}:vFld o agg (.agg cs)=rdc cs o agg:=rfl
theorem rdc_n {cs:List AV} {o:Nat}:rdc cs o none=cs[o]?:=rfl
theorem rdc_s {cs:List AV} {o n:Nat}:rdc cs o (some n)=if o + n≤cs.length then some (.agg ((cs.drop o).take n)) else none:=rfl
theorem ld_p {H agg b o v}:ld H agg (.ptr b o v)=(row H b v).bind fun cs=>rdc cs o agg:=rfl
theorem ld_v {H agg cs o}:ld H agg (.vptr cs o)=rdc cs o agg:=rfl
theorem row_of {H:List AObj} {b:Nat} {cs:List AV} (h:H[b]?=some (.cells cs)) {v:Nat} (hv:cs.length=v):row H b v=some cs:=by
  simp only [row,h,hv,if_true]
theorem get_end {H L:List AObj} {i:Nat}:(H ++ L)[H.length + i]?=L[i]?:=by rw [List.getElem?_append_right (by omega)]; congr 1; omega
theorem get_end0 {H L:List AObj}:(H ++ L)[H.length]?=L[0]?:=by rw [List.getElem?_append_right (by omega)]; congr 1; omega
theorem row_end {H L:List AObj} {i v:Nat}:row (H ++ L) (H.length + i) v=row L i v:=by unfold row; rw [get_end]
theorem row_end0 {H L:List AObj} {v:Nat}:row (H ++ L) H.length v=row L 0 v:=by unfold row; rw [get_end0]
theorem row_cons {o:AObj} {L:List AObj} {i v:Nat}:row (o :: L) (i + 1) v=row L i v:=by simp [row]
theorem row_hd {cs:List AV} {L:List AObj} {v:Nat}:row (.cells cs :: L) 0 v=if cs.length=v then some cs else none:=by simp [row]
theorem row_app {H L:List AObj} {b v:Nat} {cs:List AV} (h:row H b v=some cs):row (H ++ L) b v=some cs:=by
  unfold row at h ⊢
  split at h
  · rename_i c hc
    rw [List.getElem?_append_left (by exact (List.getElem?_eq_some_iff.1 hc).1),hc]
    exact h
  · cases h
theorem get_app {H L:List AObj} {b:Nat} {o:AObj} (h:H[b]?=some o):(H ++ L)[b]?=some o:=by
  rw [List.getElem?_append_left (by exact (List.getElem?_eq_some_iff.1 h).1),h]
theorem set_end {H L:List AObj} {i:Nat} {o:AObj}:(H ++ L).set (H.length + i) o=H ++ L.set i o:=by rw [List.set_append_right _ _ (by omega)]; congr 2; omega
theorem set_end0 {H L:List AObj} {o:AObj}:(H ++ L).set H.length o=H ++ L.set 0 o:=by rw [List.set_append_right _ _ (by omega)]; congr 2; omega
theorem push_mk {H:List AObj} {lk:Bool} {o:AObj}:push ⟨H,lk⟩ o=⟨H ++ [o],lk⟩:=rfl
theorem idx_i {n:Nat} {i:Nat}:idxOf n (.int k (i:Nat))=if i < n then some i else none:=by
  simp only [idxOf]
  by_cases h:i < n
  · rw [if_pos h,if_pos ⟨by omega,by omega⟩]; simp
  · rw [if_neg h,if_neg (by omega)]
theorem iaddr_slice {H n f es i}:vIaddr H n none (.slice f n es) i=(idxOf es.length i).bind fun j=>(es[j]?).bind fun e=>some (.vptr e 0):=by
  simp [vIaddr]
theorem iaddr_sref {H n b o l v i}:vIaddr H n none (.sref b o l v n) i=(row H b v).bind fun _=>(idxOf l i).bind fun j=>some (.ptr b (o + j * n) v):=by
  simp [vIaddr]
theorem iaddr_arr {H n m b o v i}:vIaddr H n (some m) (.ptr b o v) i=(idxOf m i).bind fun j=>some (.ptr b (o + j * n) v):=rfl
theorem iaddr_varr {H n m cs o i}:vIaddr H n (some m) (.vptr cs o) i=(idxOf m i).bind fun j=>some (.vptr cs (o + j * n)):=rfl
theorem cells_agg {cs}:AV.cells (.agg cs)=cs:=rfl
theorem cells_int:AV.cells (.int k a)=[.int k a]:=rfl
theorem cells_sref {b o l v z}:AV.cells (.sref b o l v z)=[.sref b o l v z]:=rfl
theorem cells_ptr {b o v}:AV.cells (.ptr b o v)=[.ptr b o v]:=rfl
theorem cells_np:AV.cells .nilptr=[.nilptr]:=rfl
theorem cells_slice {f z es}:AV.cells (.slice f z es)=[.slice f z es]:=rfl
theorem cells_map {b}:AV.cells (.map b)=[.map b]:=rfl
theorem cells_fn {f c}:AV.cells (.fn f c)=[.fn f c]:=rfl
theorem one_np:AV.one .nilptr=true:=rfl
theorem one_fn {f c}:AV.one (.fn f c)=true:=rfl
theorem cells_bool {t}:AV.cells (.bool t)=[.bool t]:=rfl
abbrev iv (n:Int):AV:=.int .i64 n
structure Sl {α:Type} (H:List AObj) (n:Nat) (f:α→List AV) (v:AV) (xs:List α):Prop where
  pos:0 < n
  size:∀ x,(f x).length=n
  how:(∃ fl z,v=.slice fl z (xs.map f)∧(z=n∨xs=[]))∨∃ b o ver cs,v=.sref b o xs.length ver n∧row H b ver=some cs∧(cs.drop o).take (xs.length * n)=(xs.map f).flatten
def adr (n:Nat) (v:AV) (i o:Nat):AV:=match v with
  | .slice _ _ es=>.vptr (es.getD i []) o
  | .sref b f _ ver _=>.ptr b (f + i * n + o) ver
  | _=>.undef
abbrev ic (n:Int):List AV:=[iv n]
abbrev SI (H:List AObj) (v:AV) (xs:List Int):Prop:=Sl H 1 ic v xs
section
variable {α:Type} {n:Nat} {f:α→List AV} {v:AV} {xs:List α} {H:List AObj}
theorem flat_len (hf:∀ x,(f x).length=n):∀ xs:List α,(xs.map f).flatten.length=xs.length * n
  | []=>by simp
  | x :: xs=>by simp [flat_len hf xs,hf x,Nat.add_mul,Nat.add_comm]
theorem flat_at (hf:∀ x,(f x).length=n):∀ (xs:List α) (i o:Nat) (h:i < xs.length),o < n→(xs.map f).flatten[i * n + o]?=(f xs[i])[o]?
  | x :: xs,0,o,h,ho=>by
    simp only [List.map_cons,List.flatten_cons,Nat.zero_mul,Nat.zero_add,List.getElem_cons_zero]
    rw [List.getElem?_append_left (by rw [hf]; exact ho)]
  | x :: xs,i + 1,o,h,ho=>by
    simp only [List.map_cons,List.flatten_cons,List.getElem_cons_succ]
    rw [List.getElem?_append_right (by rw [hf,Nat.add_mul]; omega),hf]
    have:=flat_at hf xs i o (by simpa using h) ho
    rw [← this]
    congr 1
    rw [Nat.add_mul]
    omega
theorem flat_cut (hf:∀ x,(f x).length=n):∀ (xs:List α) (i:Nat) (h:i < xs.length),((xs.map f).flatten.drop (i * n)).take n=f xs[i]
  | x :: xs,0,h=>by rw [← hf x]; simp
  | x :: xs,i + 1,h=>by
    simp only [List.map_cons,List.flatten_cons,List.getElem_cons_succ]
    rw [List.drop_append,List.drop_of_length_le (by rw [hf,Nat.add_mul]; omega),hf]
    have:=flat_cut hf xs i (by simpa using h)
    rw [← this]
    simp only [List.nil_append]
    congr 2
    rw [Nat.add_mul]
    omega
theorem Sl.val {fl:Bool} (h0:0 < n) (hf:∀ x,(f x).length=n):Sl H n f (.slice fl n (xs.map f)) xs:=⟨h0,hf,.inl ⟨fl,n,rfl,.inl rfl⟩⟩
theorem Sl.lit {fl:Bool} {es:List (List AV)} (h0:0 < n) (hf:∀ x,(f x).length=n) (he:es=xs.map f):Sl H n f (.slice fl n es) xs:=⟨h0,hf,.inl ⟨fl,n,by rw [he],.inl rfl⟩⟩
theorem Sl.nil {fl:Bool} {z:Nat} (h0:0 < n) (hf:∀ x,(f x).length=n):Sl H n f (.slice fl z []) []:=⟨h0,hf,.inl ⟨fl,z,rfl,.inr rfl⟩⟩
theorem Sl.app (h:Sl H n f v xs) {L:List AObj}:Sl (H ++ L) n f v xs:=by
  refine ⟨h.pos,h.size,?_⟩
  rcases h.how with ⟨fl,z,rfl,hz⟩ | ⟨b,o,ver,cs,rfl,hr,hc⟩
  · exact .inl ⟨fl,z,rfl,hz⟩
  · exact .inr ⟨b,o,ver,cs,rfl,row_app hr,hc⟩
theorem Sl.len (h:Sl H n f v xs):vLen false v=some (.int .i64 (xs.length:Nat)):=by
  rcases h.how with ⟨fl,z,rfl,hz⟩ | ⟨b,o,ver,cs,rfl,hr,hc⟩
  · simp [vLen]
  · rfl
theorem Sl.at {k:IntKind} {i:Nat} {K:AV→Prop} (h:Sl H n f v xs):oM (vIaddr H n none v (.int k (i:Nat))) K=(i < xs.length∧K (adr n v i 0)):=by
  rcases h.how with ⟨fl,z,rfl,hz⟩ | ⟨b,o,ver,cs,rfl,hr,hc⟩
  · rcases hz with rfl | rfl
    rotate_left
    · simp [vIaddr,idx_i,oM]
    simp only [iaddr_slice,idx_i,List.length_map,oM_b]
    by_cases hi:i < xs.length
    · simp [hi,oM,adr]
    · simp [hi,oM]
  · simp only [iaddr_sref,hr,idx_i,Option.bind_some,oM_b]
    by_cases hi:i < xs.length
    · simp [hi,oM,adr]
    · simp [hi,oM]
theorem Sl.off (h:Sl H n f v xs) {i o o':Nat}:vOff o (adr n v i o')=some (adr n v i (o' + o)):=by
  rcases h.how with ⟨fl,z,rfl,hz⟩ | ⟨b,o,ver,cs,rfl,hr,hc⟩
  · rfl
  · simp [vOff,adr,Nat.add_assoc]
theorem cut_get {cs:List AV} {o m j:Nat} (hj:j < m):((cs.drop o).take m)[j]?=cs[o + j]?:=by
  rw [List.getElem?_take_of_lt hj,List.getElem?_drop]
theorem Sl.ld (h:Sl H n f v xs) {i o:Nat} (hi:i < xs.length) (ho:o < n):ld H none (adr n v i o)=(f xs[i])[o]?:=by
  rcases h.how with ⟨fl,z,rfl,hz⟩ | ⟨b,o',ver,cs,rfl,hr,hc⟩
  · simp [adr,ld_v,rdc,List.getD_eq_getElem?_getD,hi]
  · simp only [adr,ld_p,hr,Option.bind_some,rdc]
    have hlt:i * n + o < xs.length * n:=by
      have:(i + 1) * n≤xs.length * n:=Nat.mul_le_mul_right _ hi
      rw [Nat.add_mul] at this
      omega
    rw [← flat_at h.size xs i o hi ho,← hc,cut_get hlt]
    congr 1
    omega
theorem Sl.lda (h:Sl H n f v xs) {i:Nat} (hi:i < xs.length):Ai.ld H (some n) (adr n v i 0)=some (.agg (f xs[i])):=by
  rcases h.how with ⟨fl,z,rfl,hz⟩ | ⟨b,o',ver,cs,rfl,hr,hc⟩
  · simp [adr,ld_v,rdc,List.getD_eq_getElem?_getD,hi,h.size]
    rw [← h.size xs[i]]; simp
  · have hle:(i + 1) * n≤xs.length * n:=Nat.mul_le_mul_right _ hi
    rw [Nat.add_mul,Nat.one_mul] at hle
    have hl:((cs.drop o').take (xs.length * n)).length=xs.length * n:=by rw [hc,flat_len h.size]
    simp only [List.length_take,List.length_drop] at hl
    simp only [adr,ld_p,hr,Option.bind_some,rdc,Nat.add_zero]
    have hle2:o' + i * n + n≤cs.length:=by
      have:=h.pos
      omega
    rw [if_pos hle2]
    congr 2
    rw [← flat_cut h.size xs i hi,← hc]
    rw [List.drop_take,List.take_take,List.drop_drop]
    congr 1
    omega
end
theorem st_p {base:Option Nat} {H:List AObj} {lk:Bool} {n b o v:Nat} {x:AV}:eStore base ⟨H,lk⟩ n (.ptr b o v) x=(row H b v).bind fun cs=>if x.cells.length=n∧o + n≤cs.length∧x.cells.all AV.one=true then some ⟨H.set b (.cells (setAt cs o x.cells)),lk || leaks base b x.cells⟩ else none:=rfl
theorem sa_nil {cs o}:setAt cs o []=cs:=rfl
theorem sa_cons {cs o v vs}:setAt cs o (v :: vs)=setAt (cs.set o v) (o + 1) vs:=rfl
theorem lk_end {H:List AObj} {i vs}:leaks (some H.length) (H.length + i) vs=false:=by simp [leaks]; omega
theorem lk_end0 {H:List AObj} {vs}:leaks (some H.length) H.length vs=false:=by simp [leaks]
theorem one_int:AV.one (.int k a)=true:=rfl
theorem one_bool {t}:AV.one (.bool t)=true:=rfl
theorem one_slice {f z es}:AV.one (.slice f z es)=true:=rfl
theorem one_map {b}:AV.one (.map b)=true:=rfl
theorem one_sref {b o l v z}:AV.one (.sref b o l v z)=true:=rfl
theorem one_ptr {b o v}:AV.one (.ptr b o v)=true:=rfl
theorem Sl.one {α:Type} {H:List AObj} {n:Nat} {f:α→List AV} {v:AV} {xs:List α} (h:Sl H n f v xs):AV.one v=true:=by
  rcases h.how with ⟨fl,z,rfl,hz⟩ | ⟨b,o,ver,cs,rfl,hr,hc⟩ <;> rfl
theorem Sl.cells {α:Type} {H:List AObj} {n:Nat} {f:α→List AV} {v:AV} {xs:List α} (h:Sl H n f v xs):AV.cells v=[v]:=by
  rcases h.how with ⟨fl,z,rfl,hz⟩ | ⟨b,o,ver,cs,rfl,hr,hc⟩ <;> rfl
theorem cl_int:AV.clean (.int k a)=true:=rfl
theorem cl_bool {t}:AV.clean (.bool t)=true:=rfl
theorem cl_slice {f z es}:AV.clean (.slice f z es)=true:=rfl
theorem cl_map {b}:AV.clean (.map b)=false:=rfl
theorem cl_sref {b o l v z}:AV.clean (.sref b o l v z)=false:=rfl
theorem cl_ptr {b o v}:AV.clean (.ptr b o v)=false:=rfl
theorem cl_nil:cleanL []=true:=rfl
theorem cl_cons {c cs}:cleanL (c :: cs)=(c.clean && cleanL cs):=rfl
theorem ck_z {n l}:chunk n 0 l=[]:=rfl
theorem ck_s {n m l}:chunk n (m + 1) l=l.take n :: chunk n m (l.drop n):=rfl
theorem bx {s:St} {n:Nat} {x:AV}:eBox s n x=if x.cells.length=n∧x.cells.all AV.one=true then some (.ptr s.heap.length 0 n,push s (.cells x.cells)) else none:=rfl
theorem fl_nil {cs}:fillA cs []=some cs:=rfl
theorem fl_cons {cs o n v r}:fillA cs ((o,n,v) :: r)=if v.cells.length=n∧o + n≤cs.length then fillA (setAt cs o v.cells) r else none:=rfl
theorem lit_def {s:St} {size cells parts rw auto}:eLit s size cells parts rw auto=(fillA cells parts).bind fun cs =>
    if cs.all AV.one=true then
      if rw || (auto && !cleanL cs) then some (.sref s.heap.length 0 (cs.length / size) cs.length size,push s (.cells cs))
      else if cleanL cs then some (.slice true size (chunk size (cs.length / size) cs),s) else none
    else none:=rfl
theorem lv_def {n:Nat} {lk:Bool} {rs:List ARes} {vs:List AV} {H:List AObj}:leave n lk rs vs ⟨H,false⟩=if underL n (frzL n H rs vs)=true∧vs.length=rs.length then (packR (frzL n H rs vs),⟨H.take n,lk⟩) else (packR vs,⟨H,lk⟩):=by
  simp [leave]
theorem fz_nil {n H vs}:frzL n H [] vs=[]:=by cases vs <;> rfl
theorem fz_none {n H r c rs v vs}:frzL n H (⟨r,c,none⟩ :: rs) (v :: vs)=v :: frzL n H rs vs:=rfl
theorem fz_some {n H r c z rs v vs}:frzL n H (⟨r,c,some z⟩ :: rs) (v :: vs)=frz n H z v :: frzL n H rs vs:=rfl
theorem fz_slice {n H z f y es}:frz n H z (.slice f y es)=.slice f y es:=rfl
theorem fz_int {n H z}:frz n H z (.int k a)=.int k a:=rfl
theorem ul_nil {n}:underL n []=true:=rfl
theorem ul_cons {n c cs}:underL n (c :: cs)=(c.under n && underL n cs):=rfl
theorem pk_one {v:AV}:packR [v]=v:=rfl
theorem pk_two {v w:AV} {vs}:packR (v :: w :: vs)=.tup (v :: w :: vs):=rfl
theorem pk_nil:packR []=.tup []:=rfl
theorem take_all {H:List AObj}:H.take H.length=H:=List.take_length
theorem take_app {H L:List AObj}:(H ++ L).take H.length=H:=List.take_left' rfl
theorem under_int {n:Nat}:AV.under n (.int k a)=true:=rfl
theorem under_slice {n f z es}:AV.under n (.slice f z es)=true:=rfl
theorem under_np {n}:AV.under n .nilptr=true:=rfl
theorem under_bool {n:Nat} {t}:AV.under n (.bool t)=true:=rfl
theorem lk_clean {base:Option Nat} {c:Nat} {vs:List AV} (h:cleanL vs=true):leaks base c vs=false:=by
  cases base <;> simp [leaks,h]
section
variable {α:Type} {n:Nat} {f:α→List AV} {xs:List α} {H:List AObj} {lk fl:Bool} {base:Option Nat} {c:Nat}
theorem flat_app {x:α}:((xs ++ [x]).map f).flatten=(xs.map f).flatten ++ f x:=by simp
theorem app_own_g {bytes:Nat} {x:α} {v:Nat} {y:AV} (h0:0 < n) (hf:∀ x,(f x).length=n) (h1:(f x).all AV.one=true) (hc:leaks base c (f x)=false) (hv:v=xs.length * n) (hb:row H c v=some (xs.map f).flatten) (hz:(xs.length + 1) * bytes≤140737488355328) (hy:rowOf H n y=some (1,f x)) :
    eApp base ⟨H,lk⟩ n bytes (.sref c 0 xs.length v n) y=some (.sref c 0 (xs.length + 1) ((xs.length + 1) * n) n,⟨H.set c (.cells ((xs ++ [x]).map f).flatten),lk⟩):=by
  subst hv
  have hlen:=flat_len hf xs
  have hr:appRow (xs.map f).flatten (f x) (xs.length * n) (xs.length * n)=((xs ++ [x]).map f).flatten:=by
    unfold appRow
    rw [if_neg (by rw [hf]; omega),flat_app,← hlen,List.take_length]
  have hl2:((xs ++ [x]).map f).flatten.length=(xs.length + 1) * n:=by rw [flat_len hf]; simp
  simp only [eApp,hy,Option.bind_some,hb,Nat.succ_ne_zero,if_false,hr,hl2]
  rw [if_pos ⟨trivial,trivial,hz,by rw [hf]; omega,h1,by omega⟩,hc,Bool.or_false]
theorem app_own {bytes:Nat} {x:α} {v:Nat} (h0:0 < n) (hf:∀ x,(f x).length=n) (h1:(f x).all AV.one=true) (hc:cleanL (f x)=true) (hv:v=xs.length * n) (hb:row H c v=some (xs.map f).flatten) (hz:(xs.length + 1) * bytes≤140737488355328) :
    eApp base ⟨H,lk⟩ n bytes (.sref c 0 xs.length v n) (.slice fl n [f x])=some (.sref c 0 (xs.length + 1) ((xs.length + 1) * n) n,⟨H.set c (.cells ((xs ++ [x]).map f).flatten),lk⟩) :=
  app_own_g h0 hf h1 (lk_clean hc) hv hb hz (by simp [rowOf])
theorem chunk_flat (hf:∀ x,(f x).length=n):∀ xs:List α,chunk n xs.length (xs.map f).flatten=xs.map f
  | []=>rfl
  | x :: xs=>by
    simp only [List.length_cons,List.map_cons,List.flatten_cons,chunk]
    rw [← hf x,List.take_left' rfl,List.drop_left' rfl,hf x,chunk_flat hf xs]
theorem clean_flat (hc:∀ x,cleanL (f x)=true):∀ xs:List α,cleanL (xs.map f).flatten=true
  | []=>rfl
  | x :: xs=>by
    have happ:∀ (l r:List AV),cleanL l=true→cleanL r=true→cleanL (l ++ r)=true:=by
      intro l
      induction l with
      | nil=>intro r _ h; exact h
      | cons a l ih =>
        intro r h1 h2
        simp only [cleanL,Bool.and_eq_true,List.cons_append] at h1 ⊢
        exact ⟨h1.1,ih r h1.2 h2⟩
    simp only [List.map_cons,List.flatten_cons]
    exact happ _ _ (hc x) (clean_flat hc xs)
theorem fz_own {m v:Nat} (h0:0 < n) (hf:∀ x,(f x).length=n) (hc:∀ x,cleanL (f x)=true) (hv:v=xs.length * n) (hb:row H c v=some (xs.map f).flatten) (hm:m≤c):frz m H n (.sref c 0 xs.length v n)=.slice false n (xs.map f):=by
  have ht:((xs.map f).flatten.drop 0).take (xs.length * n)=(xs.map f).flatten:=by
    rw [List.drop_zero,← flat_len hf xs,List.take_length]
  simp only [frz,hb,ht]
  rw [if_pos ⟨trivial,hm,clean_flat hc xs,by rw [flat_len hf]; omega,h0⟩,chunk_flat hf]
end
theorem ic_len (x:Int):(ic x).length=1:=rfl
theorem ic_clean (x:Int):cleanL (ic x)=true:=rfl
theorem ic_one (x:Int):(ic x).all AV.one=true:=rfl
mutual
theorem beq_rf:∀ a:AV,a.beq a=true
  | .int .. | .bool _ | .str _ | .sref .. | .ptr .. | .nilptr | .map _ | .nilmap | .yield _ | .nilfn | .nilIface | .iter _ | .undef=>by simp [AV.beq]
  | .agg cs=>by simp only [AV.beq]; exact beqL_rf cs
  | .tup cs=>by simp only [AV.beq]; exact beqL_rf cs
  | .slice f z es=>by simp only [AV.beq]; simp [beqLL_rf es]
  | .vptr cs o=>by simp only [AV.beq]; simp [beqL_rf cs]
  | .fn f cs=>by simp only [AV.beq]; simp [beqL_rf cs]
  | .iface t v=>by simp only [AV.beq]; simp [beq_rf v]
theorem beqL_rf:∀ a:List AV,beqL a a=true
  | []=>rfl
  | a :: as1=>by simp only [beqL]; simp [beq_rf a,beqL_rf as1]
theorem beqLL_rf:∀ a:List (List AV),beqLL a a=true
  | []=>rfl
  | a :: as1=>by simp only [beqLL]; simp [beqL_rf a,beqLL_rf as1]
end
theorem ck_nl {base ρ d a x}:(chkRead base ρ ⟨some d,.load a x,none⟩ []=true)=True:=by simp [chkRead,wanted]
theorem ck_ni {base ρ d n a x i}:(chkRead base ρ ⟨some d,.iaddr n a x i,none⟩ []=true)=True:=by simp [chkRead,wanted]
def ckA (z:List AV) (x:AV) (hs:List (List AObj)):Prop:=match x with
  | .ptr b _ _=>∀ h,h ∈ hs→h[b]?=some (.cells z)
  | _=>False
theorem ck_aa {base ρ d z hs}:(chkRead base ρ ⟨some d,.alloc z,none⟩ hs=true)=ckA z (ρ.getD d .undef) hs:=by
  refine propext ?_
  simp only [chkRead,wanted,if_true]
  cases hx:ρ.getD d .undef with
  | ptr b o v =>
    simp only [ckA,List.all_eq_true]
    refine forall_congr' fun h=>imp_congr_right fun _=>?_
    split
    · rename_i cs hc; rw [hc]; simp only [Option.some.injEq,AObj.cells.injEq]; exact ⟨beqL_eq,fun e=>by rw [e]; exact beqL_rf _⟩
    · rename_i hc; simp only [Bool.false_eq_true,false_iff]; exact hc z
  | _=>simp [ckA]
theorem ckA_nil {z b o v}:ckA z (.ptr b o v) []=True:=by simp [ckA]
theorem ckA_cons {z b o v h hs}:ckA z (.ptr b o v) (h :: hs)=(h[b]?=some (.cells z)∧ckA z (.ptr b o v) hs):=by simp [ckA]
theorem ck_ld {base ρ d agg x h hs}:(chkRead base ρ ⟨some d,.load agg x,none⟩ (h :: hs)=true)=(Ai.ld h agg (x.ev ρ)=some (ρ.getD d .undef)∧chkRead base ρ ⟨some d,.load agg x,none⟩ hs=true):=by
  refine propext ?_
  simp only [chkRead,wanted,if_true,List.all_cons,Bool.and_eq_true]
  refine and_congr ?_ Iff.rfl
  simp only [evI]
  cases h1:Ai.ld h agg (x.ev ρ) with
  | none=>simp
  | some v=>simp only [Option.bind_some,Option.some.injEq]; exact ⟨beq_eq,fun e=>by rw [e]; exact beq_rf _⟩
theorem ck_ia {base ρ d n arr x i h hs}:(chkRead base ρ ⟨some d,.iaddr n arr x i,none⟩ (h :: hs)=true)=(vIaddr h n arr (x.ev ρ) (i.ev ρ)=some (ρ.getD d .undef)∧chkRead base ρ ⟨some d,.iaddr n arr x i,none⟩ hs=true):=by
  refine propext ?_
  have key : ∀ h,(evI base ρ ⟨h,false⟩ (.iaddr n arr x i)).map (·.1)=vIaddr h n arr (x.ev ρ) (i.ev ρ):=by
    intro h
    simp only [evI,vIaddr]
    cases arr <;> cases hx:x.ev ρ <;> simp only [Option.map_none]
    · rename_i f z es
      cases idxOf es.length (i.ev ρ) with
      | none=>rfl
      | some j =>
        simp only [Option.bind_some]
        cases es[j]? with
        | none=>rfl
        | some e=>simp only [Option.bind_some]; split <;> rfl
    · rename_i b o l v z
      split
      · cases row h b v with
        | none=>rfl
        | some cs =>
          simp only [Option.bind_some]
          cases idxOf l (i.ev ρ) with
          | none=>rfl
          | some j=>rfl
      · rfl
    · rename_i m b o v
      cases idxOf m (i.ev ρ) with
      | none=>rfl
      | some j=>rfl
    · rename_i m cs o
      cases idxOf m (i.ev ρ) with
      | none=>rfl
      | some j=>rfl
  simp only [chkRead,wanted,if_true,List.all_cons,Bool.and_eq_true]
  refine and_congr ?_ Iff.rfl
  rw [← key h]
  cases h1:evI base ρ ⟨h,false⟩ (.iaddr n arr x i) with
  | none=>simp
  | some v=>obtain ⟨v,s'⟩:=v; simp only [Option.map_some,Option.some.injEq]; exact ⟨beq_eq,fun e=>by rw [e]; exact beq_rf _⟩
theorem ev_r {ρ:Regs} {i:Nat}:AOpd.ev ρ (.r i)=ρ.getD i .undef:=rfl
theorem ev_c {ρ:Regs} {v:AV}:AOpd.ev ρ (.c v)=v:=rfl
theorem Sl.at' {α:Type} {H:List AObj} {n:Nat} {f:α→List AV} {v:AV} {xs:List α} {k:IntKind} {i:Nat} (h:Sl H n f v xs) (hi:i < xs.length):vIaddr H n none v (.int k (i:Nat))=some (adr n v i 0):=by
  rcases h.how with ⟨fl,z,rfl,hz⟩ | ⟨b,o,ver,cs,rfl,hr,hc⟩
  · rcases hz with rfl | rfl
    · simp [iaddr_slice,idx_i,hi,adr]
    · simp at hi
  · simp [iaddr_sref,hr,idx_i,hi,adr]
theorem lk_some {n c:Nat} {vs:List AV}:leaks (some n) c vs=(decide (c < n) && !cleanL vs):=rfl
theorem nlt_add {n i:Nat}:(n + i < n)=False:=by simp
theorem nlt_self {n:Nat}:(n < n)=False:=by simp
theorem chk_p {b o v}:vChk (.ptr b o v)=some (.ptr b o v):=rfl
theorem rowOf_slice {H:List AObj} {n:Nat} {f z es}:rowOf H n (.slice f z es)=if z=n∨es=[] then some (es.length,es.flatten) else none:=rfl
theorem app_nil {base:Option Nat} {H:List AObj} {lk fl:Bool} {n bytes:Nat} {c:List AV} (hn:c.length=n) (h1:c.all AV.one=true) (hz:bytes≤140737488355328) :
    eApp base ⟨H,lk⟩ n bytes (.slice true 0 []) (.slice fl n [c])=some (.sref H.length 0 1 (1 * n) n,⟨H ++ [.cells c],lk⟩):=by
  simp [eApp,rowOf,hn,push,hz]
  simpa using h1
theorem fdiv_nat {a b:Nat}:(a:Int).fdiv (b:Int)=((a / b:Nat):Int):=by
  rw [Int.fdiv_eq_ediv_of_nonneg _ (by omega)]
  rfl
theorem wrapu {n:Nat} (h:n < 18446744073709551616):IntKind.u64.wrap (n:Int)=(n:Int):=by
  have e1:(2:Int) ^ 64=18446744073709551616:=by decide
  simp only [IntKind.wrap,IntKind.signed,IntKind.bits,e1,Bool.false_and,Bool.false_eq_true,if_false]
  omega
theorem and_nat {x y:Nat} (hx:x < 18446744073709551616) (hy:y < 18446744073709551616):(BitVec.ofInt IntKind.u64.bits (x:Int) &&& BitVec.ofInt IntKind.u64.bits (y:Int)).toNat=x &&& y:=by
  have e:((2 ^ 64:Nat):Int)=18446744073709551616:=by decide
  have h (z:Nat) (hz:z < 18446744073709551616):(BitVec.ofInt 64 (z:Int)).toNat=z:=by rw [BitVec.toNat_ofInt,e]; omega
  show (BitVec.ofInt 64 (x:Int) &&& BitVec.ofInt 64 (y:Int)).toNat=_
  rw [BitVec.toNat_and,h x hx,h y hy]
def clrB (x i:Nat):Nat:=(BitVec.ofNat 64 x &&& ~~~BitVec.ofNat 64 (2 ^ i)).toNat
theorem ofInt_nat {x:Nat}:BitVec.ofInt 64 (x:Int)=BitVec.ofNat 64 x:=by
  apply BitVec.eq_of_toNat_eq
  rw [BitVec.toNat_ofInt,BitVec.toNat_ofNat]
  omega
theorem andNot_nat {x y:Nat}:(BitVec.ofInt IntKind.u64.bits (x:Int) &&& ~~~BitVec.ofInt IntKind.u64.bits (y:Int)).toNat=(BitVec.ofNat 64 x &&& ~~~BitVec.ofNat 64 y).toNat:=by
  show (BitVec.ofInt 64 (x:Int) &&& ~~~BitVec.ofInt 64 (y:Int)).toNat=_
  rw [ofInt_nat,ofInt_nat]
theorem andNot_i64 {x y:Nat}:(BitVec.ofInt IntKind.i64.bits (x:Int) &&& ~~~BitVec.ofInt IntKind.i64.bits (y:Int)).toNat=(BitVec.ofNat 64 x &&& ~~~BitVec.ofNat 64 y).toNat:=by
  show (BitVec.ofInt 64 (x:Int) &&& ~~~BitVec.ofInt 64 (y:Int)).toNat=_
  rw [ofInt_nat,ofInt_nat]
theorem tb_andNot {x y j:Nat} (hx:x < 18446744073709551616):(BitVec.ofNat 64 x &&& ~~~BitVec.ofNat 64 y).toNat.testBit j=(x.testBit j && !y.testBit j):=by
  rw [BitVec.testBit_toNat,BitVec.getLsbD_and,BitVec.getLsbD_not,BitVec.getLsbD_ofNat,BitVec.getLsbD_ofNat]
  rcases Nat.lt_or_ge j 64 with h | h
  · simp [h]
  · have:x.testBit j=false:=Nat.testBit_lt_two_pow (Nat.lt_of_lt_of_le hx (by
      have:=Nat.pow_le_pow_right (show 0 < 2 by omega) h
      have e:(2:Nat) ^ 64=18446744073709551616:=by decide
      omega))
    simp [this]
theorem tb_clr {x i j:Nat} (hx:x < 18446744073709551616):(clrB x i).testBit j=(x.testBit j && !decide (i=j)):=by
  unfold clrB
  rw [tb_andNot hx,Nat.testBit_two_pow]
theorem clrB_lt {x i:Nat} (hx:x < 18446744073709551616) (h:x.testBit i=true):clrB x i < x:=by
  have hne:clrB x i ≠ x:=by
    intro e
    have:=tb_clr (i:=i) (j:=i) hx
    rw [e,h] at this
    simp at this
  have hle:clrB x i≤x:=by
    have:clrB x i=x &&& (~~~BitVec.ofNat 64 (2 ^ i)).toNat:=by
      unfold clrB
      rw [BitVec.toNat_and,BitVec.toNat_ofNat,Nat.mod_eq_of_lt hx]
    rw [this]
    exact Nat.and_le_left
  omega
theorem ctzN_spec:∀ (n x:Nat),x ≠ 0→x < 2 ^ n→x.testBit (ctzN n x)=true∧∀ j,j < ctzN n x→x.testBit j=false
  | 0,x,h0,h=>by simp at h; exact absurd h h0
  | n + 1,x,h0,h=>by
    unfold ctzN
    split
    · rename_i h1
      exact ⟨by rw [Nat.testBit_zero]; simpa using h1,fun j hj=>absurd hj (by omega)⟩
    · rename_i h1
      have:=ctzN_spec n (x / 2) (by omega) (by rw [Nat.pow_succ] at h; omega)
      refine ⟨by rw [Nat.testBit_succ]; exact this.1,fun j hj=>?_⟩
      cases j with
      | zero=>rw [Nat.testBit_zero]; simpa using h1
      | succ j=>rw [Nat.testBit_succ]; exact this.2 j (by omega)
theorem ctzN_lt {n x:Nat} (h0:x ≠ 0) (h:x < 2 ^ n):ctzN n x < n:=by
  rcases Nat.lt_or_ge (ctzN n x) n with hl | hl
  · exact hl
  · have h1:=(ctzN_spec n x h0 h).1
    have h2:=Nat.ge_two_pow_of_testBit h1
    have h3:=Nat.pow_le_pow_right (show 0 < 2 by omega) hl
    omega
theorem wrap64 {n:Int} (h:-9223372036854775808≤n∧n≤9223372036854775807):IntKind.i64.wrap n=n:=by
  have e1:(2:Int) ^ 64=18446744073709551616:=by decide
  have e2:(2:Int) ^ (64 - 1)=9223372036854775808:=by decide
  simp only [IntKind.wrap,IntKind.signed,IntKind.bits,e1,e2,Bool.true_and,decide_eq_true_eq]
  split <;> omega
end
theorem VC_ext1 {P:AProg} {k:Nat} {b:Option Nat} {f:FuncId} {g:List AV→Option AV} {args:List AV} {s:St} {K:AV→St→Prop} {v:AV} (hf:P f=some (.ext g)) (hg:g args=some v) (hk:K v s):VC ⟨P,k + 1,b⟩ f args s K:=VC_ext hf (by rw [hg]; exact hk)
end Go.W
end
section
namespace Go.Proofs
open Go.Shelf
def Tryd.tzRen:Ren:={ f:=fun x=>match x with | 29=>88 | n=>n,t:=fun x=>match x with | 22=>150 | 3=>3 | 4=>4 | 25=>90 | 54=>154 | 0=>0 | 5=>5 | n=>n,g:=fun x=>match x with | 1=>1 | n=>n }
theorem Tryd.tzLays:Lays7.n29 Tryd.prog Tryd.tzRen :=
  { mixed:=by kernel_rfl,f29:=Tryd.func88.trans (congrArg some (by kernel_rfl)),
    t0:=Tryd.underlying0,a0:=Tryd.isAgg0,z0:=Tryd.sizeOf0,v0:=Tryd.zeroValue0,i0:=by kernel_rfl,
    t3:=Tryd.underlying3,a3:=Tryd.isAgg3,z3:=Tryd.sizeOf3,v3:=Tryd.zeroValue3,i3:=by kernel_rfl,
    t4:=Tryd.underlying4,a4:=Tryd.isAgg4,z4:=Tryd.sizeOf4,v4:=Tryd.zeroValue4,i4:=by kernel_rfl,
    t5:=Tryd.underlying5,a5:=Tryd.isAgg5,z5:=Tryd.sizeOf5,v5:=Tryd.zeroValue5,i5:=by kernel_rfl,
    t22:=Tryd.underlying150,a22:=Tryd.isAgg150,z22:=Tryd.sizeOf150,v22:=Tryd.zeroValue150,i22:=by kernel_rfl,
    t25:=Tryd.underlying90,a25:=Tryd.isAgg90,z25:=Tryd.sizeOf90,v25:=Tryd.zeroValue90,i25:=by kernel_rfl,
    t54:=Tryd.underlying154,a54:=Tryd.isAgg154,z54:=Tryd.sizeOf154,g1:=by kernel_rfl }
namespace YtcebebhaahpoiaaDoor
open Go Go.Ai Go.W Go.RowKit
theorem ctz_eq:∀ (n x:Nat),Lib.ctzFrom n x=ctzN n x
  | 0,_=>rfl
  | n + 1,x=>by simp -implicitDefEqProofs only [Lib.ctzFrom,ctzN,ctz_eq n]; split <;> omega
theorem ctz_eq0:∀ n,ctzN n 0=n
  | 0=>rfl
  | n + 1=>by simp -implicitDefEqProofs only [ctzN,Nat.zero_mod,Nat.zero_div,ctz_eq0 n]; simp
theorem ctz_all (x:Nat):Lib.ctz 64 x=ctzN 64 x:=by
  unfold Lib.ctz
  split
  · rename_i h; rw [h,ctz_eq0]
  · exact ctz_eq 64 x
def TabObj (o:Obj):Prop:=∃ c t f,o=.cells c t f∧∀ j,j < Lib.deBruijn64tab.length→c[j]?=some (.int .u8 (Lib.deBruijn64tab.getD j 0))
theorem ext88 {o:Obj} (ho:TabObj o):ExtOK [(1,o)] Tryd.prog 88 ctz64:=by
  refine ⟨⟨_,Tryd.func88,by kernel_rfl,of_decide_eq_true (by kernel_rfl)⟩,?_⟩
  intro args v G H w us n hg hR hT hL
  unfold ctz64 at hg
  split at hg
  · rename_i x
    split at hg
    · rename_i hx
      simp -implicitDefEqProofs only [Option.some.injEq] at hg
      subst hg
      obtain ⟨m,rfl⟩:=Int.eq_ofNat_of_zero_le hx.1
      obtain ⟨hl1,hl2⟩:=hL
      match us,hl1 with
      | [u],_ =>
        have h1:=(hl2 0 _ u rfl rfl).int_inv
        subst h1
        have hTab:TabAt 1 Lib.deBruijn64tab w:=by
          intro j hj
          obtain ⟨c,t,f,rfl,hc⟩:=ho
          have:=(hT _ (.head _)).2
          unfold World.cell?
          dsimp only at this ⊢
          rw [this]
          exact hc j hj
        have hc:=Any7.bits_TrailingZeros64 Tryd.tzLays m (by omega) w (fun _=>hTab)
        refine CallsIn.mono (callsIn_wide.2 hc) ?_
        rintro e w' ⟨rfl,rfl⟩
        refine ⟨_,rfl,hR,Ext.refl _ _ _,?_⟩
        rw [ctz_all]
        exact .pure _ _ (.int _ _)
    · cases hg
  · cases hg
end YtcebebhaahpoiaaDoor
end Go.Proofs
end
section
namespace Go.Proofs.YtcebebhaahpoiaaDoor
open Go Go.Ai Go.W
set_option maxRecDepth 100000
set_option linter.unusedVariables false
theorem code_at {f:FuncId} {F0 F:AFunc} (h2:prog f=some (.code F0)) (h:prog f=some (.code F)):F0=F:=by rw [h2] at h; simpa using h
theorem none_at {f:FuncId} {F:AFunc} {X:Prop} (h2:prog f=none) (h:prog f=some (.code F)):X:=by rw [h2] at h; cases h
theorem ext_at {f:FuncId} {g:List AV→Option AV} {F:AFunc} {X:Prop} (h2:prog f=some (.ext g)) (h:prog f=some (.code F)):X:=by rw [h2] at h; simp at h
theorem ext_none {f:FuncId} {g:List AV→Option AV} {X:Prop} (h2:prog f=none) (h:prog f=some (.ext g)):X:=by rw [h2] at h; cases h
theorem ext_code {f:FuncId} {g:List AV→Option AV} {F:AFunc} {X:Prop} (h2:prog f=some (.code F)) (h:prog f=some (.ext g)):X:=by rw [h2] at h; simp at h
theorem ext_eq {f:FuncId} {g g0:List AV→Option AV} (h2:prog f=some (.ext g0)) (h:prog f=some (.ext g)):g=g0:=by rw [h2] at h; simp at h; exact h.symm
theorem ok_at {f:FuncId} {fn:Func} {own:List Nat} {rows:List Nat} {fz:List (Option Nat)} {F0 F:AFunc} (hf:Tryd.prog.funcs[f]?=some fn) (hok:compileFn Tryd.prog own rows fz fn=some F0) (h2:prog f=some (.code F0)) (h:prog f=some (.code F)):∃ fn own rows fz,Tryd.prog.funcs[f]?=some fn∧compileFn Tryd.prog own rows fz fn=some F:=⟨fn,own,rows,fz,hf,by rw [← code_at h2 h]; exact hok⟩
attribute [local irreducible] prog tab
theorem codeOK:∀ (f:FuncId) (F:AFunc),prog f=some (.code F)→∃ fn own rows fz,Tryd.prog.funcs[f]?=some fn∧compileFn Tryd.prog own rows fz fn=some F:=by
  intro f F h
  match f,h with
  | 0,h=>exact none_at (by kernel_rfl) h
  | 1,h=>exact none_at (by kernel_rfl) h
  | 2,h=>exact none_at (by kernel_rfl) h
  | 3,h=>exact none_at (by kernel_rfl) h
  | 4,h=>exact ok_at Tryd.func4 fq1.ok (by kernel_rfl) h
  | 5,h=>exact none_at (by kernel_rfl) h
  | 6,h=>exact none_at (by kernel_rfl) h
  | 7,h=>exact none_at (by kernel_rfl) h
  | 8,h=>exact none_at (by kernel_rfl) h
  | 9,h=>exact none_at (by kernel_rfl) h
  | 10,h=>exact none_at (by kernel_rfl) h
  | 11,h=>exact ok_at Tryd.func11 fq2.ok (by kernel_rfl) h
  | 12,h=>exact ok_at Tryd.func12 fq9.ok (by kernel_rfl) h
  | 13,h=>exact none_at (by kernel_rfl) h
  | 14,h=>exact ok_at Tryd.func14 fq45.ok (by kernel_rfl) h
  | 15,h=>exact ok_at Tryd.func15 fq46.ok (by kernel_rfl) h
  | 16,h=>exact ok_at Tryd.func16 fq48.ok (by kernel_rfl) h
  | 17,h=>exact ok_at Tryd.func17 fq47.ok (by kernel_rfl) h
  | 18,h=>exact ok_at Tryd.func18 fq3.ok (by kernel_rfl) h
  | 19,h=>exact ok_at Tryd.func19 fq12.ok (by kernel_rfl) h
  | 20,h=>exact none_at (by kernel_rfl) h
  | 21,h=>exact ok_at Tryd.func21 fq50.ok (by kernel_rfl) h
  | 22,h=>exact none_at (by kernel_rfl) h
  | 23,h=>exact none_at (by kernel_rfl) h
  | 24,h=>exact none_at (by kernel_rfl) h
  | 25,h=>exact ok_at Tryd.func25 fq15.ok (by kernel_rfl) h
  | 26,h=>exact none_at (by kernel_rfl) h
  | 27,h=>exact ok_at Tryd.func27 fq7.ok (by kernel_rfl) h
  | 28,h=>exact none_at (by kernel_rfl) h
  | 29,h=>exact none_at (by kernel_rfl) h
  | 30,h=>exact none_at (by kernel_rfl) h
  | 31,h=>exact ok_at Tryd.func31 fq11.ok (by kernel_rfl) h
  | 32,h=>exact none_at (by kernel_rfl) h
  | 33,h=>exact ok_at Tryd.func33 fq6.ok (by kernel_rfl) h
  | 34,h=>exact ok_at Tryd.func34 fq17.ok (by kernel_rfl) h
  | 35,h=>exact ok_at Tryd.func35 fq10.ok (by kernel_rfl) h
  | 36,h=>exact ok_at Tryd.func36 fq24.ok (by kernel_rfl) h
  | 37,h=>exact ok_at Tryd.func37 fq25.ok (by kernel_rfl) h
  | 38,h=>exact ok_at Tryd.func38 fq27.ok (by kernel_rfl) h
  | 39,h=>exact none_at (by kernel_rfl) h
  | 40,h=>exact ok_at Tryd.func40 fq52.ok (by kernel_rfl) h
  | 41,h=>exact ok_at Tryd.func41 fq54.ok (by kernel_rfl) h
  | 42,h=>exact ok_at Tryd.func42 fq55.ok (by kernel_rfl) h
  | 43,h=>exact ok_at Tryd.func43 fq56.ok (by kernel_rfl) h
  | 44,h=>exact ok_at Tryd.func44 fq53.ok (by kernel_rfl) h
  | 45,h=>exact ok_at Tryd.func45 fq51.ok (by kernel_rfl) h
  | 46,h=>exact ok_at Tryd.func46 fq58.ok (by kernel_rfl) h
  | 47,h=>exact ok_at Tryd.func47 fq13.ok (by kernel_rfl) h
  | 48,h=>exact ok_at Tryd.func48 fq20.ok (by kernel_rfl) h
  | 49,h=>exact ok_at Tryd.func49 fq14.ok (by kernel_rfl) h
  | 50,h=>exact ok_at Tryd.func50 fq38.ok (by kernel_rfl) h
  | 51,h=>exact ok_at Tryd.func51 fq39.ok (by kernel_rfl) h
  | 52,h=>exact ok_at Tryd.func52 fq40.ok (by kernel_rfl) h
  | 53,h=>exact none_at (by kernel_rfl) h
  | 54,h=>exact none_at (by kernel_rfl) h
  | 55,h=>exact ok_at Tryd.func55 fq16.ok (by kernel_rfl) h
  | 56,h=>exact ok_at Tryd.func56 fq37.ok (by kernel_rfl) h
  | 57,h=>exact ok_at Tryd.func57 fq34.ok (by kernel_rfl) h
  | 58,h=>exact none_at (by kernel_rfl) h
  | 59,h=>exact ok_at Tryd.func59 fq43.ok (by kernel_rfl) h
  | 60,h=>exact ok_at Tryd.func60 fq60.ok (by kernel_rfl) h
  | 61,h=>exact ok_at Tryd.func61 fq8.ok (by kernel_rfl) h
  | 62,h=>exact ok_at Tryd.func62 fq35.ok (by kernel_rfl) h
  | 63,h=>exact ok_at Tryd.func63 fq36.ok (by kernel_rfl) h
  | 64,h=>exact ok_at Tryd.func64 fq29.ok (by kernel_rfl) h
  | 65,h=>exact ok_at Tryd.func65 fq26.ok (by kernel_rfl) h
  | 66,h=>exact ok_at Tryd.func66 fq19.ok (by kernel_rfl) h
  | 67,h=>exact ok_at Tryd.func67 fq18.ok (by kernel_rfl) h
  | 68,h=>exact ok_at Tryd.func68 fq41.ok (by kernel_rfl) h
  | 69,h=>exact ok_at Tryd.func69 fq22.ok (by kernel_rfl) h
  | 70,h=>exact ok_at Tryd.func70 fq23.ok (by kernel_rfl) h
  | 71,h=>exact ok_at Tryd.func71 fq32.ok (by kernel_rfl) h
  | 72,h=>exact ok_at Tryd.func72 fq28.ok (by kernel_rfl) h
  | 73,h=>exact ok_at Tryd.func73 fq49.ok (by kernel_rfl) h
  | 74,h=>exact ok_at Tryd.func74 fq44.ok (by kernel_rfl) h
  | 75,h=>exact ok_at Tryd.func75 fq62.ok (by kernel_rfl) h
  | 76,h=>exact ok_at Tryd.func76 fq59.ok (by kernel_rfl) h
  | 77,h=>exact ok_at Tryd.func77 fq21.ok (by kernel_rfl) h
  | 78,h=>exact ok_at Tryd.func78 fq0.ok (by kernel_rfl) h
  | 79,h=>exact none_at (by kernel_rfl) h
  | 80,h=>exact ok_at Tryd.func80 fq64.ok (by kernel_rfl) h
  | 81,h=>exact ok_at Tryd.func81 fq30.ok (by kernel_rfl) h
  | 82,h=>exact ok_at Tryd.func82 fq33.ok (by kernel_rfl) h
  | 83,h=>exact ok_at Tryd.func83 fq31.ok (by kernel_rfl) h
  | 84,h=>exact ok_at Tryd.func84 fq4.ok (by kernel_rfl) h
  | 85,h=>exact ok_at Tryd.func85 fq42.ok (by kernel_rfl) h
  | 86,h=>exact ok_at Tryd.func86 fq63.ok (by kernel_rfl) h
  | 87,h=>exact none_at (by kernel_rfl) h
  | 88,h=>exact ext_at (g:=ctz64) (by kernel_rfl) h
  | 89,h=>exact ok_at Tryd.func89 fq57.ok (by kernel_rfl) h
  | 90,h=>exact ok_at Tryd.func90 fq5.ok (by kernel_rfl) h
  | 91,h=>exact ok_at Tryd.func91 fq61.ok (by kernel_rfl) h
  | n + 92,h=>exact none_at (by kernel_rfl) h
theorem extOK:∀ (f:FuncId) (g:List AV→Option AV),prog f=some (.ext g)→(f=88∧g=ctz64):=by
  intro f g h
  match f,h with
  | 0,h=>exact ext_none (by kernel_rfl) h
  | 1,h=>exact ext_none (by kernel_rfl) h
  | 2,h=>exact ext_none (by kernel_rfl) h
  | 3,h=>exact ext_none (by kernel_rfl) h
  | 4,h=>exact ext_code (F:=fq1.fn0) (by kernel_rfl) h
  | 5,h=>exact ext_none (by kernel_rfl) h
  | 6,h=>exact ext_none (by kernel_rfl) h
  | 7,h=>exact ext_none (by kernel_rfl) h
  | 8,h=>exact ext_none (by kernel_rfl) h
  | 9,h=>exact ext_none (by kernel_rfl) h
  | 10,h=>exact ext_none (by kernel_rfl) h
  | 11,h=>exact ext_code (F:=fq2.fn0) (by kernel_rfl) h
  | 12,h=>exact ext_code (F:=fq9.fn0) (by kernel_rfl) h
  | 13,h=>exact ext_none (by kernel_rfl) h
  | 14,h=>exact ext_code (F:=fq45.fn0) (by kernel_rfl) h
  | 15,h=>exact ext_code (F:=fq46.fn0) (by kernel_rfl) h
  | 16,h=>exact ext_code (F:=fq48.fn0) (by kernel_rfl) h
  | 17,h=>exact ext_code (F:=fq47.fn0) (by kernel_rfl) h
  | 18,h=>exact ext_code (F:=fq3.fn0) (by kernel_rfl) h
  | 19,h=>exact ext_code (F:=fq12.fn0) (by kernel_rfl) h
  | 20,h=>exact ext_none (by kernel_rfl) h
  | 21,h=>exact ext_code (F:=fq50.fn0) (by kernel_rfl) h
  | 22,h=>exact ext_none (by kernel_rfl) h
  | 23,h=>exact ext_none (by kernel_rfl) h
  | 24,h=>exact ext_none (by kernel_rfl) h
  | 25,h=>exact ext_code (F:=fq15.fn0) (by kernel_rfl) h
  | 26,h=>exact ext_none (by kernel_rfl) h
  | 27,h=>exact ext_code (F:=fq7.fn0) (by kernel_rfl) h
  | 28,h=>exact ext_none (by kernel_rfl) h
  | 29,h=>exact ext_none (by kernel_rfl) h
  | 30,h=>exact ext_none (by kernel_rfl) h
  | 31,h=>exact ext_code (F:=fq11.fn0) (by kernel_rfl) h
  | 32,h=>exact ext_none (by kernel_rfl) h
  | 33,h=>exact ext_code (F:=fq6.fn0) (by kernel_rfl) h
  | 34,h=>exact ext_code (F:=fq17.fn0) (by kernel_rfl) h
  | 35,h=>exact ext_code (F:=fq10.fn0) (by kernel_rfl) h
  | 36,h=>exact ext_code (F:=fq24.fn0) (by kernel_rfl) h
  | 37,h=>exact ext_code (F:=fq25.fn0) (by kernel_rfl) h
  | 38,h=>exact ext_code (F:=fq27.fn0) (by kernel_rfl) h
  | 39,h=>exact ext_none (by kernel_rfl) h
  | 40,h=>exact ext_code (F:=fq52.fn0) (by kernel_rfl) h
  | 41,h=>exact ext_code (F:=fq54.fn0) (by kernel_rfl) h
  | 42,h=>exact ext_code (F:=fq55.fn0) (by kernel_rfl) h
  | 43,h=>exact ext_code (F:=fq56.fn0) (by kernel_rfl) h
  | 44,h=>exact ext_code (F:=fq53.fn0) (by kernel_rfl) h
  | 45,h=>exact ext_code (F:=fq51.fn0) (by kernel_rfl) h
  | 46,h=>exact ext_code (F:=fq58.fn0) (by kernel_rfl) h
  | 47,h=>exact ext_code (F:=fq13.fn0) (by kernel_rfl) h
  | 48,h=>exact ext_code (F:=fq20.fn0) (by kernel_rfl) h
  | 49,h=>exact ext_code (F:=fq14.fn0) (by kernel_rfl) h
  | 50,h=>exact ext_code (F:=fq38.fn0) (by kernel_rfl) h
  | 51,h=>exact ext_code (F:=fq39.fn0) (by kernel_rfl) h
  | 52,h=>exact ext_code (F:=fq40.fn0) (by kernel_rfl) h
  | 53,h=>exact ext_none (by kernel_rfl) h
  | 54,h=>exact ext_none (by kernel_rfl) h
  | 55,h=>exact ext_code (F:=fq16.fn0) (by kernel_rfl) h
  | 56,h=>exact ext_code (F:=fq37.fn0) (by kernel_rfl) h
  | 57,h=>exact ext_code (F:=fq34.fn0) (by kernel_rfl) h
  | 58,h=>exact ext_none (by kernel_rfl) h
  | 59,h=>exact ext_code (F:=fq43.fn0) (by kernel_rfl) h
  | 60,h=>exact ext_code (F:=fq60.fn0) (by kernel_rfl) h
  | 61,h=>exact ext_code (F:=fq8.fn0) (by kernel_rfl) h
  | 62,h=>exact ext_code (F:=fq35.fn0) (by kernel_rfl) h
  | 63,h=>exact ext_code (F:=fq36.fn0) (by kernel_rfl) h
  | 64,h=>exact ext_code (F:=fq29.fn0) (by kernel_rfl) h
  | 65,h=>exact ext_code (F:=fq26.fn0) (by kernel_rfl) h
  | 66,h=>exact ext_code (F:=fq19.fn0) (by kernel_rfl) h
  | 67,h=>exact ext_code (F:=fq18.fn0) (by kernel_rfl) h
  | 68,h=>exact ext_code (F:=fq41.fn0) (by kernel_rfl) h
  | 69,h=>exact ext_code (F:=fq22.fn0) (by kernel_rfl) h
  | 70,h=>exact ext_code (F:=fq23.fn0) (by kernel_rfl) h
  | 71,h=>exact ext_code (F:=fq32.fn0) (by kernel_rfl) h
  | 72,h=>exact ext_code (F:=fq28.fn0) (by kernel_rfl) h
  | 73,h=>exact ext_code (F:=fq49.fn0) (by kernel_rfl) h
  | 74,h=>exact ext_code (F:=fq44.fn0) (by kernel_rfl) h
  | 75,h=>exact ext_code (F:=fq62.fn0) (by kernel_rfl) h
  | 76,h=>exact ext_code (F:=fq59.fn0) (by kernel_rfl) h
  | 77,h=>exact ext_code (F:=fq21.fn0) (by kernel_rfl) h
  | 78,h=>exact ext_code (F:=fq0.fn0) (by kernel_rfl) h
  | 79,h=>exact ext_none (by kernel_rfl) h
  | 80,h=>exact ext_code (F:=fq64.fn0) (by kernel_rfl) h
  | 81,h=>exact ext_code (F:=fq30.fn0) (by kernel_rfl) h
  | 82,h=>exact ext_code (F:=fq33.fn0) (by kernel_rfl) h
  | 83,h=>exact ext_code (F:=fq31.fn0) (by kernel_rfl) h
  | 84,h=>exact ext_code (F:=fq4.fn0) (by kernel_rfl) h
  | 85,h=>exact ext_code (F:=fq42.fn0) (by kernel_rfl) h
  | 86,h=>exact ext_code (F:=fq63.fn0) (by kernel_rfl) h
  | 87,h=>exact ext_none (by kernel_rfl) h
  | 88,h=>have h2:=ext_eq (g0:=ctz64) (by kernel_rfl) h; simp [h2]
  | 89,h=>exact ext_code (F:=fq57.fn0) (by kernel_rfl) h
  | 90,h=>exact ext_code (F:=fq5.fn0) (by kernel_rfl) h
  | 91,h=>exact ext_code (F:=fq61.fn0) (by kernel_rfl) h
  | n + 92,h=>exact ext_none (by kernel_rfl) h
end Go.Proofs.YtcebebhaahpoiaaDoor
end
section
namespace Go.Proofs.YtcebebhaahpoiaaDoor
open Go Go.Ai Go.W Go.RowKit Go.ChangeShapes Go.WideShapes Go.ChangeAt Go.Lib
set_option maxRecDepth 100000
theorem own:ownKnob Tryd.prog.godebug=none:=by kernel_rfl
theorem laidOutP:laidOutB Tryd.prog=true:=by kernel_rfl
theorem mixedP:Tryd.prog.follows .mixedOrders=true:=by kernel_rfl
theorem progOK {o:Obj} (ho:TabObj o):ProgOK [(1,o)] Tryd.prog prog :=
  ⟨codeOK,fun f g h=>by obtain ⟨rfl,rfl⟩:=extOK f g h; exact ext88 ho⟩
def laidL : List (String × DataW Unit) := [("math/bits.deBruijn32tab", Rows.laid_math_bits_deBruijn32tab), ("math/bits.deBruijn64tab", Rows.laid_math_bits_deBruijn64tab)]
theorem tabData_eq:(Rows.laid_math_bits_deBruijn64tab:DataW Unit)=tabData .u8 (Lib.deBruijn64tab.map fun (n:Nat)=>(n:Int)):=by kernel_rfl
theorem tab_of_laid {W:World} (h:laidMet Tryd.prog laidL W):∃ o,W.heap[1]?=some o∧TabObj o:=by
  obtain ⟨g, t, cs, fuel, p, h1, h2, h3, h4⟩ := laidMet.reads h (n := "math/bits.deBruijn64tab") (d := Rows.laid_math_bits_deBruijn64tab) (.tail _ (.head _))
  have hg : Tryd.prog.globalNamed "math/bits.deBruijn64tab" = some 1 := by kernel_rfl
  rw [hg] at h1
  simp -implicitDefEqProofs only [Option.some.injEq] at h1
  subst h1
  have ht:(Tryd.prog.globals[1]?).map (·.type)=some 154:=by kernel_rfl
  rw [ht] at h2
  simp -implicitDefEqProofs only [Option.some.injEq] at h2
  subst h2
  unfold World.var? at h3
  rw [hg] at h3
  simp -implicitDefEqProofs only [Option.bind_some] at h3
  split at h3
  · rename_i c ty f hc
    simp -implicitDefEqProofs only [Option.some.injEq] at h3
    subst h3
    refine ⟨_,hc,c,ty,f,rfl,?_⟩
    rw [tabData_eq] at h4
    have:=cells_of_tab (n:=64) (e:=5) Tryd.underlying154 Tryd.underlying5 (by kernel_rfl) (by kernel_rfl) h4
    intro j hj
    have e:c[j]?=c.toList[j]?:=by simp
    rw [e,this]
    simp [hj]
  · cases h3
theorem trodAll_len {X:Type} {enc:TypeId × Value→X} {P:Program} {w:World} {base:Nat} {sp:Nat→Bool} {held:Bool}:∀ {ts:List TypeId} {vs:List Value} {ds:List (DataW X)} {ps:List MemPlace},DataW.TrodAll enc P w base sp held ts vs ds ps→ds.length=ts.length
  | [],[],[],_,_=>rfl
  | _ :: _,_ :: _,_ :: _,_,h=>by obtain ⟨p,q,_,h2,_⟩:=h; simp [trodAll_len h2]
  | [],_ :: _,_,_,h | [],[],_ :: _,_,h | _ :: _,[],_,_,h | _ :: _,_ :: _,[],_,h=>by cases h
end Go.Proofs.YtcebebhaahpoiaaDoor
end
section
namespace Go.Proofs.YtcebebhaahpoiaaDoor
open Go Go.Ai Go.W
set_option maxRecDepth 100000
set_option linter.unusedVariables false
variable {E:Env} {s:St} {Q:AExit→Regs→St→Prop} {a c d f g i j l o p q r t u w y z A B C D F G H L M N P R T U V W X Y Z a0 a1 a2 a3 a4 a5 a6 a7 a8 a9 c0 c1 c2 c3 c4 c5 c6 c7 c8 c9 d0 d1 d2 d3 d4 d5 d6 d7 d8 d9 f0:AV}
theorem fq1.enter {k:Nat} {b:Option Nat} {K:AV→St→Prop} (h:WC ⟨prog,k,some s.heap.length⟩ fq1.n0 [a,c,d,f,g,.undef,.undef,.undef,.undef,.undef,.undef,.undef,.undef,.undef,.undef,.undef,.undef,.undef,.undef,.undef,.undef,.undef,.undef] { s with leak:=false } (RK s.heap.length s.leak fq1.res K)):VC ⟨prog,k + 1,b⟩ F_fq1 [a,c,d,f,g] s K:=VC_ra (P:=prog) (F':=fq1.fn) rfl fq1.ra fq1.ul rfl h
theorem fq1.ret {n:Nat} {lk:Bool} {K:AV→St→Prop}:RK n lk fq1.res K .ret [a,c,d,f,g,i,j,l,o,p,q,r,t,u,w,y,z,A,B,C,D,F,G] s=(K (leave n lk [⟨5,none,none⟩] [i] s).1 (leave n lk [⟨5,none,none⟩] [i] s).2):=by kernel_rfl
theorem fq1.n0_w:WC E fq1.n0 [a,c,d,f,g,i,j,l,o,p,q,r,t,u,w,y,z,A,B,C,D,F,G] s Q=(oM (eBox s 6 a) fun v1=>oM (eBox (v1.2) 2 d) fun v3=>oM (eBox (v3.2) 3 f) fun v5=>oM (vOff 3 v1.1) fun v7=>oM (ld (v5.2).heap none v7) fun v8=>oM (vLen false v8) fun v9=>oM (evBin .gtr v9 (.int .i64 24)) fun v10=>gO v10 false (v5.2) (fun k11=>oM (vOff 4 v1.1) fun v12=>k11 v12 v5.2) fun v13 s13=>gO v10 false s13 (fun k14=>oM (ld s13.heap none v13) fun v15=>k14 v15 s13) fun v16 s16=>gO v10 false s16 (fun k17=>oM (vLen false v16) fun v18=>k17 v18 s16) fun v19 s19=>gO v10 false s19 (fun k20=>oM (evBin .gtr v19 (.int .i64 24)) fun v21=>k20 v21 s19) fun v22 s22=>oM (vPick v10 (.bool true) v22) fun v23=>gO v23 false s22 (fun k24=>oM (vOff 5 v1.1) fun v25=>k24 v25 s22) fun v26 s26=>gO v23 false s26 (fun k27=>oM (ld s26.heap none v26) fun v28=>k27 v28 s26) fun v29 s29=>gO v23 false s29 (fun k30=>oM (vLen false v29) fun v31=>k30 v31 s29) fun v32 s32=>gO v23 false s32 (fun k33=>oM (evBin .gtr v32 (.int .i64 3)) fun v34=>k33 v34 s32) fun v35 s35=>oM (vPick v23 (.bool true) v35) fun v36=>gO v36 false s35 (fun k37=>oM (vOff 2 v1.1) fun v38=>k37 v38 s35) fun v39 s39=>gO v36 false s39 (fun k40=>oM (ld s39.heap none v39) fun v41=>k40 v41 s39) fun v42 s42=>gO v36 false s42 (fun k43=>oM (vOff 1 v1.1) fun v44=>k43 v44 s42) fun v45 s45=>gO v36 false s45 (fun k46=>oM (ld s45.heap none v45) fun v47=>k46 v47 s45) fun v48 s48=>gO v36 false s48 (fun k49=>oM (evBin .sub v42 v48) fun v50=>k49 v50 s48) fun v51 s51=>gO v36 false s51 (fun k52=>oM (evBin .gtr v51 (.int .i64 300)) fun v53=>k52 v53 s51) fun v54 s54=>oM (vPick v36 (.bool true) v54) fun v55=>cM v55 (WC E fq1.n1 [v1.1,c,v3.1,v5.1,g,(.bool false),j,l,o,p,q,r,v55,v54,v48,y,z,A,B,C,D,F,G] s54 (sK (WC E fq1.n2) Q)) ((sK (WC E fq1.n2) Q) .normal [v1.1,c,v3.1,v5.1,g,(.bool false),j,l,o,p,q,r,v55,v54,v48,y,z,A,B,C,D,F,G] s54)):=by kernel_rfl
theorem fq1.n1_w:WC E fq1.n1 [a,c,d,f,g,i,j,l,o,p,q,r,t,u,w,y,z,A,B,C,D,F,G] s Q=(VC E F_fq2 [] s fun v1 s2=>Q .ret [v1,c,d,f,g,v1,j,l,o,p,q,r,t,u,w,y,z,A,B,C,D,F,G] s2):=by kernel_rfl
theorem fq1.n2_w:WC E fq1.n2 [a,c,d,f,g,i,j,l,o,p,q,r,t,u,w,y,z,A,B,C,D,F,G] s Q=(oM (ld s.heap (some 6) a) fun v1=>VC E F_fq9 [v1] s fun v2 s3=>oM (vExt 0 v2) fun v4=>oM (vExt 1 v2) fun v5=>oM (vExt 2 v2) fun v6=>oM (evBin .eql v6 (.int .i64 2)) fun v7=>cM v7 (WC E fq1.n3 [a,c,d,f,g,i,j,l,o,p,q,r,v6,v4,v5,v7,z,A,B,C,D,F,G] s3 (sK (WC E fq1.n4) Q)) ((sK (WC E fq1.n4) Q) .normal [a,c,d,f,g,i,j,l,o,p,q,r,v6,v4,v5,v7,z,A,B,C,D,F,G] s3)):=by kernel_rfl
theorem fq1.n3_w:WC E fq1.n3 [a,c,d,f,g,i,j,l,o,p,q,r,t,u,w,y,z,A,B,C,D,F,G] s Q=(oM (ld s.heap (some 6) a) fun v1=>VC E F_fq46 [v1] s fun v2 s3=>oM (evUn .not v2) fun v4=>gO v4 true s3 (fun k5=>VC E F_fq2 [] s3 fun v6 s7=>k5 v6 s7) fun v8 s8=>oM (vPick v4 v8 (.bool false)) fun v9=>Q .ret [v9,v8,d,f,g,v9,j,l,o,p,q,r,t,u,w,y,z,A,B,C,D,F,G] s8):=by kernel_rfl
theorem fq1.n4_w:WC E fq1.n4 [a,c,d,f,g,i,j,l,o,p,q,r,t,u,w,y,z,A,B,C,D,F,G] s Q=((sK (WC E (.block 0 fq1.n5)) (sK (WC E fq1.n12) Q)) .normal [a,c,d,f,g,i,(.sref s.heap.length 0 0 0 1),(.int .i64 0),o,p,q,r,t,u,w,y,z,A,B,C,D,F,G] (push s (.cells []))):=by kernel_rfl
theorem fq1.n6_w:WC E fq1.n6 [a,c,d,f,g,i,j,l,o,p,q,r,t,u,w,y,z,A,B,C,D,F,G] s Q=(oM (vOff 3 a) fun v1=>oM (ld s.heap none v1) fun v2=>oM (vLen false v2) fun v3=>oM (evBin .lss l v3) fun v4=>cM v4 ((sK (WC E fq1.n8) Q) .normal [a,c,d,f,g,i,j,l,o,p,q,r,t,u,w,v4,z,A,B,C,D,F,G] s) ((sK (WC E fq1.n8) Q) (.exit 0) [a,c,d,f,g,i,j,l,o,p,q,r,t,u,w,v4,z,A,B,C,D,F,G] s)):=by kernel_rfl
theorem fq1.n8_w:WC E fq1.n8 [a,c,d,f,g,i,j,l,o,p,q,r,t,u,w,y,z,A,B,C,D,F,G] s Q=(oM (vLen false c) fun v1=>oM (evBin .gtr v1 (.int .i64 0)) fun v2=>cM v2 (WC E fq1.n9 [a,c,d,f,g,i,j,l,(.int .i64 0),p,q,r,t,u,w,v2,z,A,B,C,D,F,G] s (sK (WC E fq1.n10) (bK 1 (sK (WC E fq1.n11) Q)))) ((sK (WC E fq1.n10) (bK 1 (sK (WC E fq1.n11) Q))) .normal [a,c,d,f,g,i,j,l,(.int .i64 0),p,q,r,t,u,w,v2,z,A,B,C,D,F,G] s)):=by kernel_rfl
theorem fq1.n9_w:WC E fq1.n9 [a,c,d,f,g,i,j,l,o,p,q,r,t,u,w,y,z,A,B,C,D,F,G] s Q=(oM (vLen false c) fun v1=>oM (evBin .rem l v1) fun v2=>oM (vIaddr s.heap 1 none c v2) fun v3=>oM (ld s.heap none v3) fun v4=>oM (vConv .i64 v4) fun v5=>Q .normal [a,c,d,f,g,i,j,l,v5,p,q,r,t,u,w,v5,z,A,B,C,D,F,G] s):=by kernel_rfl
theorem fq1.n10_w:WC E fq1.n10 [a,c,d,f,g,i,j,l,o,p,q,r,t,u,w,y,z,A,B,C,D,F,G] s Q=(oM (vOff 5 a) fun v1=>oM (ld s.heap none v1) fun v2=>oM (vLen false v2) fun v3=>oM (evBin .shl (.int .i64 1) v3) fun v4=>oM (evBin .rem o v4) fun v5=>oM (eLit s 1 [(.int .i64 0)] [(0,1,v5)] false true) fun v6=>oM (eApp E.base (v6.2) 1 8 j v6.1) fun v8=>Q .normal [a,c,d,f,g,i,v8.1,l,o,p,q,r,t,u,w,v8.1,z,A,B,C,D,F,G] (v8.2)):=by kernel_rfl
theorem fq1.n11_w:WC E fq1.n11 [a,c,d,f,g,i,j,l,o,p,q,r,t,u,w,y,z,A,B,C,D,F,G] s Q=(oM (evBin .add l (.int .i64 1)) fun v1=>Q .normal [a,c,d,f,g,i,j,v1,o,p,q,r,t,u,w,v1,z,A,B,C,D,F,G] s):=by kernel_rfl
theorem fq1.n12_w:WC E fq1.n12 [a,c,d,f,g,i,j,l,o,p,q,r,t,u,w,y,z,A,B,C,D,F,G] s Q=(oM (ld s.heap (some 6) a) fun v1=>VC E F_fq48 [v1,j] s fun v2 s3=>oM (vExt 0 v2) fun v4=>oM (vExt 1 v2) fun v5=>oM (ld s3.heap (some 6) a) fun v6=>VC E F_fq47 [v6,j] s3 fun v7 s8=>oM (vExt 0 v7) fun v9=>oM (vExt 1 v7) fun v10=>oM (evBin .eql v5 (.int .i64 0)) fun v11=>(sK (WC E (.block 2 fq1.n13)) (sK (WC E fq1.n17) Q)) .normal [a,v11,d,f,g,i,j,l,o,v11,(.int .i64 0),r,t,u,w,v4,v10,v9,B,C,D,F,G] s8):=by kernel_rfl
theorem fq1.n14_w:WC E fq1.n14 [a,c,d,f,g,i,j,l,o,p,q,r,t,u,w,y,z,A,B,C,D,F,G] s Q=(oM (vLen false y) fun v1=>oM (evBin .lss q v1) fun v2=>cM v2 ((sK (WC E fq1.n16) Q) .normal [a,v2,d,f,g,i,j,l,o,p,q,r,t,u,w,y,z,A,B,C,D,F,G] s) ((sK (WC E fq1.n16) Q) (.exit 2) [a,v2,d,f,g,i,j,l,o,p,q,r,t,u,w,y,z,A,B,C,D,F,G] s)):=by kernel_rfl
theorem fq1.n16_w:WC E fq1.n16 [a,c,d,f,g,i,j,l,o,p,q,r,t,u,w,y,z,A,B,C,D,F,G] s Q=(gO p true s (fun k1=>k1 y s) fun v2 s2=>gO p true s2 (fun k3=>k3 q s2) fun v4 s4=>gO p true s4 (fun k5=>oM (vIaddr s4.heap 1 none v2 v4) fun v6=>k5 v6 s4) fun v7 s7=>gO p true s7 (fun k8=>oM (ld s7.heap none v7) fun v9=>k8 v9 s7) fun v10 s10=>gO p true s10 (fun k11=>oM (vOff 2 a) fun v12=>k11 v12 s10) fun v13 s13=>gO p true s13 (fun k14=>oM (ld s13.heap none v13) fun v15=>k14 v15 s13) fun v16 s16=>gO p true s16 (fun k17=>oM (evBin .leq v10 v16) fun v18=>k17 v18 s16) fun v19 s19=>oM (vPick p v19 (.bool false)) fun v20=>oM (evBin .add q (.int .i64 1)) fun v21=>Q .normal [a,v21,d,f,g,i,j,l,o,v20,v21,r,t,u,w,y,v16,A,B,C,D,F,G] s19):=by kernel_rfl
theorem fq1.n17_w:WC E fq1.n17 [a,c,d,f,g,i,j,l,o,p,q,r,t,u,w,y,z,A,B,C,D,F,G] s Q=(oM (evBin .eql t (.int .i64 7)) fun v1=>cM v1 (WC E fq1.n18 [a,v1,d,f,g,i,j,l,o,p,q,r,t,u,w,y,z,A,B,C,D,F,G] s (sK (WC E fq1.n19) Q)) ((sK (WC E fq1.n19) Q) .normal [a,v1,d,f,g,i,j,l,o,p,q,r,t,u,w,y,z,A,B,C,D,F,G] s)):=by kernel_rfl
theorem fq1.n18_w:WC E fq1.n18 [a,c,d,f,g,i,j,l,o,p,q,r,t,u,w,y,z,A,B,C,D,F,G] s Q=(oM (evUn .not p) fun v1=>gO v1 true s (fun k2=>VC E F_fq2 [] s fun v3 s4=>k2 v3 s4) fun v5 s5=>oM (vPick v1 v5 (.bool false)) fun v6=>Q .ret [v6,v5,d,f,g,v6,j,l,o,p,q,r,t,u,w,y,z,A,B,C,D,F,G] s5):=by kernel_rfl
theorem fq1.n19_w:WC E fq1.n19 [a,c,d,f,g,i,j,l,o,p,q,r,t,u,w,y,z,A,B,C,D,F,G] s Q=(oM (evBin .neq t (.int .i64 0)) fun v1=>gO v1 false s (fun k2=>k2 p s) fun v3 s3=>gO v1 false s3 (fun k4=>k4 v3 s3) fun v5 s5=>gO v5 true s5 (fun k6=>k6 A s5) fun v7 s7=>gO v5 true s7 (fun k8=>k8 w s7) fun v9 s9=>gO v5 true s9 (fun k10=>oM (evBin .lss v7 v9) fun v11=>k10 v11 s9) fun v12 s12=>gO v1 false s12 (fun k13=>oM (vPick v5 v12 (.bool false)) fun v14=>k13 v14 s12) fun v15 s15=>oM (vPick v1 (.bool true) v15) fun v16=>cM v16 (WC E fq1.n20 [a,v16,d,f,g,i,j,l,o,p,q,r,v15,u,w,v12,v9,A,B,C,D,F,G] s15 (sK (WC E fq1.n21) Q)) ((sK (WC E fq1.n21) Q) .normal [a,v16,d,f,g,i,j,l,o,p,q,r,v15,u,w,v12,v9,A,B,C,D,F,G] s15)):=by kernel_rfl
theorem fq1.n21_w:WC E fq1.n21 [a,c,d,f,g,i,j,l,o,p,q,r,t,u,w,y,z,A,B,C,D,F,G] s Q=(oM (ld s.heap (some 6) a) fun v1=>VC E F_fq48 [v1,u] s fun v2 s3=>oM (vExt 0 v2) fun v4=>oM (vExt 1 v2) fun v5=>oM (ld s3.heap (some 6) a) fun v6=>VC E F_fq47 [v6,u] s3 fun v7 s8=>oM (vExt 0 v7) fun v9=>oM (vExt 1 v7) fun v10=>oM (evBin .neq v5 (.int .i64 0)) fun v11=>gO v11 false s8 (fun k12=>k12 v9 s8) fun v13 s13=>gO v11 false s13 (fun k14=>k14 w s13) fun v15 s15=>gO v11 false s15 (fun k16=>oM (evBin .neq v13 v15) fun v17=>k16 v17 s15) fun v18 s18=>oM (vPick v11 (.bool true) v18) fun v19=>cM v19 (WC E fq1.n22 [a,v19,d,f,g,i,j,l,o,p,q,r,v4,v18,w,v15,z,A,B,C,D,F,G] s18 (sK (WC E fq1.n23) Q)) ((sK (WC E fq1.n23) Q) .normal [a,v19,d,f,g,i,j,l,o,p,q,r,v4,v18,w,v15,z,A,B,C,D,F,G] s18)):=by kernel_rfl
theorem fq1.n23_w:WC E fq1.n23 [a,c,d,f,g,i,j,l,o,p,q,r,t,u,w,y,z,A,B,C,D,F,G] s Q=((sK (WC E (.block 4 fq1.n24)) (sK (WC E fq1.n30) Q)) .normal [a,c,d,f,g,i,j,l,o,p,q,(.int .i64 0),t,u,w,y,z,A,B,C,D,F,G] s):=by kernel_rfl
theorem fq1.n25_w:WC E fq1.n25 [a,c,d,f,g,i,j,l,o,p,q,r,t,u,w,y,z,A,B,C,D,F,G] s Q=(oM (vLen false t) fun v1=>oM (evBin .lss r v1) fun v2=>cM v2 ((sK (WC E fq1.n27) Q) .normal [a,v2,d,f,g,i,j,l,o,p,q,r,t,u,w,y,z,A,B,C,D,F,G] s) ((sK (WC E fq1.n27) Q) (.exit 4) [a,v2,d,f,g,i,j,l,o,p,q,r,t,u,w,y,z,A,B,C,D,F,G] s)):=by kernel_rfl
theorem fq1.n27_w:WC E fq1.n27 [a,c,d,f,g,i,j,l,o,p,q,r,t,u,w,y,z,A,B,C,D,F,G] s Q=(oM (vIaddr s.heap 1 none t r) fun v1=>oM (ld s.heap none v1) fun v2=>oM (vOff 2 a) fun v3=>oM (ld s.heap none v3) fun v4=>oM (evBin .gtr v2 v4) fun v5=>cM v5 (WC E fq1.n28 [a,v5,d,f,g,i,j,l,o,p,q,r,t,v4,w,y,z,A,B,C,D,F,G] s (bK 5 (sK (WC E fq1.n29) Q))) ((bK 5 (sK (WC E fq1.n29) Q)) .normal [a,v5,d,f,g,i,j,l,o,p,q,r,t,v4,w,y,z,A,B,C,D,F,G] s)):=by kernel_rfl
theorem fq1.n29_w:WC E fq1.n29 [a,c,d,f,g,i,j,l,o,p,q,r,t,u,w,y,z,A,B,C,D,F,G] s Q=(oM (evBin .add r (.int .i64 1)) fun v1=>Q .normal [a,v1,d,f,g,i,j,l,o,p,q,v1,t,u,w,y,z,A,B,C,D,F,G] s):=by kernel_rfl
theorem fq1.n30_w:WC E fq1.n30 [a,c,d,f,g,i,j,l,o,p,q,r,t,u,w,y,z,A,B,C,D,F,G] s Q=(oM (ld s.heap (some 6) a) fun v1=>oM (eStore E.base ((push s (.cells [(.int .i64 0),(.int .i64 0),(.int .i64 0),(.slice true 0 []),(.slice true 0 []),(.slice true 0 [])]))) 6 (.ptr s.heap.length 0 6) v1) fun s2=>oM (vOff 1 a) fun v3=>oM (ld s2.heap none v3) fun v4=>oM (evBin .add v4 (.int .i64 300)) fun v5=>oM (vOff 2 a) fun v6=>oM (ld s2.heap none v6) fun v7=>oM (evMinMax false (.int .i64 1000) [g]) fun v8=>oM (evMinMax true (.int .i64 0) [v8]) fun v9=>oM (evBin .add v7 v9) fun v10=>oM (evMinMax false v5 [v10]) fun v11=>oM (vOff 2 (.ptr s.heap.length 0 6)) fun v12=>oM (eStore E.base s2 1 v12 v11) fun s13=>oM (vOff 5 a) fun v14=>oM (ld s13.heap none v14) fun v15=>oM (vLen false v15) fun v16=>oM (evBin .lss v16 (.int .i64 3)) fun v17=>cM v17 (WC E fq1.n31 [a,v17,d,f,v12,i,j,l,o,p,q,r,(.ptr s.heap.length 0 6),v7,w,y,z,A,B,C,D,F,G] s13 (sK (WC E fq1.n32) Q)) ((sK (WC E fq1.n32) Q) .normal [a,v17,d,f,v12,i,j,l,o,p,q,r,(.ptr s.heap.length 0 6),v7,w,y,z,A,B,C,D,F,G] s13)):=by kernel_rfl
theorem fq1.n31_w:WC E fq1.n31 [a,c,d,f,g,i,j,l,o,p,q,r,t,u,w,y,z,A,B,C,D,F,G] s Q=(oM (eLit s 3 [] [] false false) fun v1=>oM (vOff 5 a) fun v3=>oM (ld (v1.2).heap none v3) fun v4=>oM (eApp E.base (v1.2) 3 24 v1.1 v4) fun v5=>oM (ld (v5.2).heap (some 3) f) fun v7=>oM (eLit (v5.2) 3 [(.int .i64 0),(.int .i64 0),(.int .i64 0)] [(0,3,v7)] false false) fun v8=>oM (eApp E.base (v8.2) 3 24 v5.1 v8.1) fun v10=>oM (vOff 5 t) fun v12=>oM (eStore E.base (v10.2) 1 v12 v10.1) fun s13=>(chkRead E.base [a,v1.1,d,f,v3,i,j,l,o,p,q,r,t,v4,w,v5.1,v7,v8.1,v10.1,v12,D,F,G] ⟨(some 16),(.load (some 3) (.r 3)),none⟩ [s.heap,(v5.2).heap]=true)∧Q .normal [a,v1.1,d,f,v3,i,j,l,o,p,q,r,t,v4,w,v5.1,v7,v8.1,v10.1,v12,D,F,G] s13):=by kernel_rfl
theorem fq1.n32_w:WC E fq1.n32 [a,c,d,f,g,i,j,l,o,p,q,r,t,u,w,y,z,A,B,C,D,F,G] s Q=(oM (vOff 3 a) fun v1=>oM (ld s.heap none v1) fun v2=>oM (vIaddr s.heap 1 (some 2) d (.int .i64 0)) fun v3=>oM (ld s.heap none v3) fun v4=>VC E F_fq3 [v2,v4] s fun v5 s6=>oM (vOff 4 a) fun v7=>oM (ld s6.heap none v7) fun v8=>oM (vIaddr s6.heap 1 (some 2) d (.int .i64 1)) fun v9=>oM (ld s6.heap none v9) fun v10=>VC E F_fq3 [v8,v10] s6 fun v11 s12=>oM (vOff 3 t) fun v13=>oM (eStore E.base s12 1 v13 v5) fun s14=>oM (vOff 4 t) fun v15=>oM (eStore E.base s14 1 v15 v11) fun s16=>(chkRead E.base [a,v1,d,v2,v3,i,j,l,o,p,q,r,t,v4,w,v5,v7,v8,v9,v10,v11,v13,v15] ⟨(some 17),(.load none (.r 16)),none⟩ [s.heap,s6.heap]=true)∧(chkRead E.base [a,v1,d,v2,v3,i,j,l,o,p,q,r,t,v4,w,v5,v7,v8,v9,v10,v11,v13,v15] ⟨(some 19),(.load none (.r 18)),none⟩ [s.heap,s6.heap]=true)∧oM (ld s16.heap (some 6) t) fun v17=>VC E F_fq46 [v17] s16 fun v18 s19=>oM (evUn .not v18) fun v20=>cM v20 (WC E fq1.n33 [v20,v1,d,v2,v3,i,j,l,o,p,q,r,t,v4,w,v5,v7,v8,v9,v10,v11,v13,v15] s19 (sK (WC E fq1.n34) Q)) ((sK (WC E fq1.n34) Q) .normal [v20,v1,d,v2,v3,i,j,l,o,p,q,r,t,v4,w,v5,v7,v8,v9,v10,v11,v13,v15] s19)):=by kernel_rfl
theorem fq1.n33_w:WC E fq1.n33 [a,c,d,f,g,i,j,l,o,p,q,r,t,u,w,y,z,A,B,C,D,F,G] s Q=(VC E F_fq2 [] s fun v1 s2=>Q .ret [v1,c,d,f,g,v1,j,l,o,p,q,r,t,u,w,y,z,A,B,C,D,F,G] s2):=by kernel_rfl
theorem fq1.n34_w:WC E fq1.n34 [a,c,d,f,g,i,j,l,o,p,q,r,t,u,w,y,z,A,B,C,D,F,G] s Q=(oM (ld s.heap (some 6) t) fun v1=>VC E F_fq9 [v1] s fun v2 s3=>oM (vExt 0 v2) fun v4=>oM (vExt 1 v2) fun v5=>oM (vExt 2 v2) fun v6=>oM (evBin .eql v6 (.int .i64 0)) fun v7=>gO v7 true s3 (fun k8=>k8 v5 s3) fun v9 s9=>gO v7 true s9 (fun k10=>k10 w s9) fun v11 s11=>gO v7 true s11 (fun k12=>oM (evBin .leq v9 v11) fun v13=>k12 v13 s11) fun v14 s14=>oM (vPick v7 v14 (.bool false)) fun v15=>gO v15 true s14 (fun k16=>VC E F_fq2 [] s14 fun v17 s18=>k16 v17 s18) fun v19 s19=>oM (vPick v15 v19 (.bool false)) fun v20=>Q .ret [v20,v19,v11,f,g,v20,j,l,o,p,q,r,t,u,w,y,z,A,B,C,D,F,G] s19):=by kernel_rfl
def fq1.n5_J (a c d f g i p q r t u w z A B C D F G:AV) (I:Nat→AV→AV→St→Prop) (m:Nat) (ρ:Regs) (s:St):Prop:=∃ j l o y:AV,ρ=[a,c,d,f,g,i,j,l,o,p,q,r,t,u,w,y,z,A,B,C,D,F,G]∧I m j l s
theorem fq1.n5_go {I:Nat→AV→AV→St→Prop} {m m':Nat} (hm:m' < m) (h:I m' j l s):LK (fq1.n5_J a c d f g i p q r t u w z A B C D F G I) m Q .normal [a,c,d,f,g,i,j,l,o,p,q,r,t,u,w,y,z,A,B,C,D,F,G] s:=⟨m',hm,_,_,_,_,rfl,h⟩
theorem fq1.n5_l (I:Nat→AV→AV→St→Prop) (m:Nat) (hm:m < E.k) (h0:I m j l s) (step:∀ (m:Nat) (j l o y:AV) (s:St),I m j l s→WC E fq1.n6 [a,c,d,f,g,i,j,l,o,p,q,r,t,u,w,y,z,A,B,C,D,F,G] s (LK (fq1.n5_J a c d f g i p q r t u w z A B C D F G I) m Q)):WC E fq1.n5 [a,c,d,f,g,i,j,l,o,p,q,r,t,u,w,y,z,A,B,C,D,F,G] s Q:=WC_loop (J:=fq1.n5_J a c d f g i p q r t u w z A B C D F G I) m hm ⟨_,_,_,_,rfl,h0⟩ (fun m ρ s ⟨j,l,o,y,e,h⟩=>by rw [e]; exact step m j l o y s h)
def fq1.n13_J (a d f g i j l o r t u w y A B C D F G:AV) (I:Nat→AV→AV→St→Prop) (m:Nat) (ρ:Regs) (s:St):Prop:=∃ c p q z:AV,ρ=[a,c,d,f,g,i,j,l,o,p,q,r,t,u,w,y,z,A,B,C,D,F,G]∧I m p q s
theorem fq1.n13_go {I:Nat→AV→AV→St→Prop} {m m':Nat} (hm:m' < m) (h:I m' p q s):LK (fq1.n13_J a d f g i j l o r t u w y A B C D F G I) m Q .normal [a,c,d,f,g,i,j,l,o,p,q,r,t,u,w,y,z,A,B,C,D,F,G] s:=⟨m',hm,_,_,_,_,rfl,h⟩
theorem fq1.n13_l (I:Nat→AV→AV→St→Prop) (m:Nat) (hm:m < E.k) (h0:I m p q s) (step:∀ (m:Nat) (c p q z:AV) (s:St),I m p q s→WC E fq1.n14 [a,c,d,f,g,i,j,l,o,p,q,r,t,u,w,y,z,A,B,C,D,F,G] s (LK (fq1.n13_J a d f g i j l o r t u w y A B C D F G I) m Q)):WC E fq1.n13 [a,c,d,f,g,i,j,l,o,p,q,r,t,u,w,y,z,A,B,C,D,F,G] s Q:=WC_loop (J:=fq1.n13_J a d f g i j l o r t u w y A B C D F G I) m hm ⟨_,_,_,_,rfl,h0⟩ (fun m ρ s ⟨c,p,q,z,e,h⟩=>by rw [e]; exact step m c p q z s h)
def fq1.n24_J (a d f g j l o p q t w y z A B C D F G:AV) (I:Nat→AV→St→Prop) (m:Nat) (ρ:Regs) (s:St):Prop:=∃ c i r u:AV,ρ=[a,c,d,f,g,i,j,l,o,p,q,r,t,u,w,y,z,A,B,C,D,F,G]∧I m r s
theorem fq1.n24_go {I:Nat→AV→St→Prop} {m m':Nat} (hm:m' < m) (h:I m' r s):LK (fq1.n24_J a d f g j l o p q t w y z A B C D F G I) m Q .normal [a,c,d,f,g,i,j,l,o,p,q,r,t,u,w,y,z,A,B,C,D,F,G] s:=⟨m',hm,_,_,_,_,rfl,h⟩
theorem fq1.n24_l (I:Nat→AV→St→Prop) (m:Nat) (hm:m < E.k) (h0:I m r s) (step:∀ (m:Nat) (c i r u:AV) (s:St),I m r s→WC E fq1.n25 [a,c,d,f,g,i,j,l,o,p,q,r,t,u,w,y,z,A,B,C,D,F,G] s (LK (fq1.n24_J a d f g j l o p q t w y z A B C D F G I) m Q)):WC E fq1.n24 [a,c,d,f,g,i,j,l,o,p,q,r,t,u,w,y,z,A,B,C,D,F,G] s Q:=WC_loop (J:=fq1.n24_J a d f g j l o p q t w y z A B C D F G I) m hm ⟨_,_,_,_,rfl,h0⟩ (fun m ρ s ⟨c,i,r,u,e,h⟩=>by rw [e]; exact step m c i r u s h)
theorem fq2.enter {k:Nat} {b:Option Nat} {K:AV→St→Prop} (h:WC ⟨prog,k,some s.heap.length⟩ fq2.n0 [.undef,.undef,.undef,.undef,.undef,.undef,.undef,.undef,.undef,.undef,.undef,.undef,.undef,.undef,.undef,.undef,.undef,.undef] { s with leak:=false } (RK s.heap.length s.leak fq2.res K)):VC ⟨prog,k + 1,b⟩ F_fq2 [] s K:=VC_ra (P:=prog) (F':=fq2.fn) rfl fq2.ra fq2.ul rfl h
theorem fq2.ret {n:Nat} {lk:Bool} {K:AV→St→Prop}:RK n lk fq2.res K .ret [a,c,d,f,g,i,j,l,o,p,q,r,t,u,w,y,z,A] s=(K (leave n lk [⟨0,none,none⟩] [a] s).1 (leave n lk [⟨0,none,none⟩] [a] s).2):=by kernel_rfl
theorem fq2.n0_w:WC E fq2.n0 [a,c,d,f,g,i,j,l,o,p,q,r,t,u,w,y,z,A] s Q=(oM (eLit s 1 [(.int .i64 0),(.int .i64 0),(.int .i64 0)] [(0,1,(.int .i64 4)),(1,1,(.int .i64 4)),(2,1,(.int .i64 4))] false true) fun v1=>oM (eLit (v1.2) 1 [(.int .i64 0),(.int .i64 0),(.int .i64 0)] [(0,1,(.int .i64 1)),(1,1,(.int .i64 3)),(2,1,(.int .i64 1))] false true) fun v3=>oM (fillA [(.int .i64 0),(.int .i64 0),(.int .i64 0)] [(0,1,(.int .i64 6)),(1,1,(.int .i64 2)),(2,1,(.int .i64 1))]) fun v5=>oM (eLit (v3.2) 3 [(.int .i64 0),(.int .i64 0),(.int .i64 0)] [(0,3,(.agg v5))] false true) fun v6=>oM (fillA [(.int .i64 0),(.int .i64 0),(.int .i64 0),(.slice true 0 []),(.slice true 0 []),(.slice true 0 [])] [(0,1,(.int .i64 5)),(2,1,(.int .i64 10)),(3,1,v1.1),(4,1,v3.1),(5,1,v6.1)]) fun v8=>oM (eStore E.base ((push (v6.2) (.cells [(.int .i64 0),(.int .i64 0),(.int .i64 0),(.slice true 0 []),(.slice true 0 []),(.slice true 0 [])]))) 6 (.ptr (v6.2).heap.length 0 6) (.agg v8)) fun s9=>oM (ld s9.heap (some 6) (.ptr (v6.2).heap.length 0 6)) fun v10=>VC E F_fq9 [v10] s9 fun v11 s12=>oM (vExt 0 v11) fun v13=>oM (vExt 1 v11) fun v14=>oM (vExt 2 v11) fun v15=>oM (ld s12.heap (some 6) (.ptr (v6.2).heap.length 0 6)) fun v16=>oM (eLit s12 1 [(.int .i64 0),(.int .i64 0),(.int .i64 0)] [(0,1,(.int .i64 1)),(1,1,(.int .i64 0)),(2,1,(.int .i64 1))] false true) fun v17=>VC E F_fq11 [v16,v17.1] (v17.2) fun v19 s20=>oM (vExt 0 v19) fun v21=>oM (vExt 1 v19) fun v22=>oM (fillA [(.int .i64 0),(.int .i64 0),(.int .i64 0)] [(2,1,(.int .i64 3))]) fun v23=>oM (fillA [(.int .i64 0),(.int .i64 0),(.int .i64 0)] [(0,1,(.int .i64 1)),(2,1,(.int .i64 2))]) fun v24=>oM (fillA [(.int .i64 0),(.int .i64 0),(.int .i64 0)] [(0,1,(.int .i64 2)),(1,1,(.int .i64 1)),(2,1,(.int .i64 2))]) fun v25=>oM (eLit s20 3 [(.int .i64 0),(.int .i64 0),(.int .i64 0),(.int .i64 0),(.int .i64 0),(.int .i64 0),(.int .i64 0),(.int .i64 0),(.int .i64 0)] [(0,3,(.agg v23)),(3,3,(.agg v24)),(6,3,(.agg v25))] false true) fun v26=>VC E F_fq17 [v26.1,(.int .i64 1)] (v26.2) fun v28 s29=>oM (vExt 0 v28) fun v30=>oM (vExt 1 v28) fun v31=>oM (fillA [(.int .i64 0),(.int .i64 0),(.int .i64 0)] [(2,1,(.int .i64 1))]) fun v32=>oM (fillA [(.int .i64 0),(.int .i64 0),(.int .i64 0)] [(0,1,(.int .i64 1)),(2,1,(.int .i64 1))]) fun v33=>oM (eLit s29 3 [(.int .i64 0),(.int .i64 0),(.int .i64 0),(.int .i64 0),(.int .i64 0),(.int .i64 0)] [(0,3,(.agg v32)),(3,3,(.agg v33))] false true) fun v34=>VC E F_fq17 [v34.1,(.int .i64 1)] (v34.2) fun v36 s37=>oM (vExt 0 v36) fun v38=>oM (vExt 1 v36) fun v39=>oM (fillA [(.int .i64 0),(.int .i64 0),(.int .i64 0)] [(2,1,(.int .i64 1))]) fun v40=>oM (fillA [(.int .i64 0),(.int .i64 0),(.int .i64 0)] [(0,1,(.int .i64 1)),(2,1,(.int .i64 1))]) fun v41=>oM (eLit s37 3 [(.int .i64 0),(.int .i64 0),(.int .i64 0),(.int .i64 0),(.int .i64 0),(.int .i64 0)] [(0,3,(.agg v40)),(3,3,(.agg v41))] false true) fun v42=>VC E F_fq10 [v42.1,(.int .i64 1)] (v42.2) fun v44 s45=>oM (vExt 0 v44) fun v46=>oM (vExt 1 v44) fun v47=>oM (vExt 2 v44) fun v48=>oM (fillA [(.int .i64 0),(.int .i64 0)] []) fun v49=>oM (fillA [(.int .i64 0),(.int .i64 0)] [(0,1,(.int .i64 10))]) fun v50=>oM (fillA [(.int .i64 0),(.int .i64 0)] [(0,1,(.int .i64 11))]) fun v51=>oM (fillA [(.int .i64 0),(.int .i64 0)] [(0,1,(.int .i64 1))]) fun v52=>oM (eLit s45 2 [(.int .i64 0),(.int .i64 0),(.int .i64 0),(.int .i64 0),(.int .i64 0),(.int .i64 0),(.int .i64 0),(.int .i64 0)] [(0,2,(.agg v49)),(2,2,(.agg v50)),(4,2,(.agg v51)),(6,2,(.agg v52))] false true) fun v53=>VC E F_fq12 [v53.1] (v53.2) fun v55 s56=>oM (vExt 0 v55) fun v57=>oM (vExt 1 v55) fun v58=>oM (vExt 2 v55) fun v59=>oM (eLit s56 1 [(.int .i64 0),(.int .i64 0)] [(0,1,(.int .i64 0)),(1,1,(.int .i64 1))] false true) fun v60=>oM (eLit (v60.2) 1 [(.slice true 0 [])] [(0,1,v60.1)] false true) fun v62=>VC E F_fq15 [(.int .i64 2),v62.1] (v62.2) fun v64 s65=>oM (vExt 0 v64) fun v66=>oM (vExt 1 v64) fun v67=>oM (eLit s65 1 [(.int .i64 0),(.int .i64 0),(.int .i64 0)] [(0,1,(.int .i64 1)),(1,1,(.int .i64 0)),(2,1,(.int .i64 1))] false true) fun v68=>VC E F_fq45 [v13,v68.1] (v68.2) fun v70 s71=>gO v70 true s71 (fun k72=>k72 v14 s71) fun v73 s73=>gO v70 true s73 (fun k74=>oM (evBin .eql v73 (.int .i64 6)) fun v75=>k74 v75 s73) fun v76 s76=>oM (vPick v70 v76 (.bool false)) fun v77=>gO v77 true s76 (fun k78=>k78 v15 s76) fun v79 s79=>gO v77 true s79 (fun k80=>oM (evBin .eql v79 (.int .i64 0)) fun v81=>k80 v81 s79) fun v82 s82=>oM (vPick v77 v82 (.bool false)) fun v83=>gO v83 true s82 (fun k84=>k84 v21 s82) fun v85 s85=>gO v83 true s85 (fun k86=>oM (eLit s85 1 [(.int .i64 0),(.int .i64 0),(.int .i64 0)] [(0,1,(.int .i64 3)),(1,1,(.int .i64 7)),(2,1,(.int .i64 5))] false true) fun v87=>k86 v87.1 v87.2) fun v89 s89=>gO v83 true s89 (fun k90=>VC E F_fq45 [v85,v89] s89 fun v91 s92=>k90 v91 s92) fun v93 s93=>oM (vPick v83 v93 (.bool false)) fun v94=>gO v94 true s93 (fun k95=>k95 v22 s93) fun v96 s96=>gO v94 true s96 (fun k97=>oM (evBin .eql v96 (.int .i64 0)) fun v98=>k97 v98 s96) fun v99 s99=>oM (vPick v94 v99 (.bool false)) fun v100=>gO v100 true s99 (fun k101=>k101 v30 s99) fun v102 s102=>gO v100 true s102 (fun k103=>oM (eLit s102 1 [(.int .i64 0),(.int .i64 0),(.int .i64 0)] [(0,1,(.int .i64 2)),(1,1,(.int .i64 0)),(2,1,(.int .i64 1))] false true) fun v104=>k103 v104.1 v104.2) fun v106 s106=>gO v100 true s106 (fun k107=>VC E F_fq45 [v102,v106] s106 fun v108 s109=>k107 v108 s109) fun v110 s110=>oM (vPick v100 v110 (.bool false)) fun v111=>gO v111 true s110 (fun k112=>k112 v31 s110) fun v113 s113=>gO v111 true s113 (fun k114=>oM (evBin .eql v113 (.int .i64 0)) fun v115=>k114 v115 s113) fun v116 s116=>oM (vPick v111 v116 (.bool false)) fun v117=>gO v117 true s116 (fun k118=>k118 v39 s116) fun v119 s119=>gO v117 true s119 (fun k120=>oM (evBin .eql v119 (.int .i64 7)) fun v121=>k120 v121 s119) fun v122 s122=>oM (vPick v117 v122 (.bool false)) fun v123=>gO v123 true s122 (fun k124=>k124 v46 s122) fun v125 s125=>gO v123 true s125 (fun k126=>oM (evBin .eql v125 (.int .i64 0)) fun v127=>k126 v127 s125) fun v128 s128=>oM (vPick v123 v128 (.bool false)) fun v129=>gO v129 true s128 (fun k130=>k130 v47 s128) fun v131 s131=>gO v129 true s131 (fun k132=>oM (evBin .eql v131 (.int .i64 1)) fun v133=>k132 v133 s131) fun v134 s134=>oM (vPick v129 v134 (.bool false)) fun v135=>gO v135 true s134 (fun k136=>k136 v48 s134) fun v137 s137=>gO v135 true s137 (fun k138=>oM (evBin .eql v137 (.int .i64 0)) fun v139=>k138 v139 s137) fun v140 s140=>oM (vPick v135 v140 (.bool false)) fun v141=>gO v141 true s140 (fun k142=>k142 v57 s140) fun v143 s143=>gO v141 true s143 (fun k144=>oM (fillA [(.int .i64 0),(.int .i64 0)] [(0,1,(.int .i64 0)),(1,1,(.int .i64 3))]) fun v145=>k144 (.agg v145) s143) fun v146 s146=>gO v141 true s146 (fun k147=>oM (fillA [(.int .i64 0),(.int .i64 0)] [(0,1,(.int .i64 1)),(1,1,(.int .i64 2))]) fun v148=>k147 (.agg v148) s146) fun v149 s149=>gO v141 true s149 (fun k150=>oM (eLit s149 2 [(.int .i64 0),(.int .i64 0),(.int .i64 0),(.int .i64 0)] [(0,2,v146),(2,2,v149)] false true) fun v151=>k150 v151.1 v151.2) fun v153 s153=>gO v141 true s153 (fun k154=>VC E F_fq50 [v143,v153] s153 fun v155 s156=>k154 v155 s156) fun v157 s157=>oM (vPick v141 v157 (.bool false)) fun v158=>gO v158 true s157 (fun k159=>k159 v58 s157) fun v160 s160=>gO v158 true s160 (fun k161=>oM (evBin .eql v160 (.int .i64 2)) fun v162=>k161 v162 s160) fun v163 s163=>oM (vPick v158 v163 (.bool false)) fun v164=>gO v164 true s163 (fun k165=>k165 v59 s163) fun v166 s166=>gO v164 true s166 (fun k167=>oM (evBin .eql v166 (.int .i64 0)) fun v168=>k167 v168 s166) fun v169 s169=>oM (vPick v164 v169 (.bool false)) fun v170=>gO v170 true s169 (fun k171=>k171 v66 s169) fun v172 s172=>gO v170 true s172 (fun k173=>oM (eLit s172 1 [(.int .i64 0),(.int .i64 0)] [(0,1,(.int .i64 1)),(1,1,(.int .i64 0))] false true) fun v174=>k173 v174.1 v174.2) fun v176 s176=>gO v170 true s176 (fun k177=>VC E F_fq45 [v172,v176] s176 fun v178 s179=>k177 v178 s179) fun v180 s180=>oM (vPick v170 v180 (.bool false)) fun v181=>gO v181 true s180 (fun k182=>k182 v67 s180) fun v183 s183=>gO v181 true s183 (fun k184=>oM (evBin .eql v183 (.int .i64 0)) fun v185=>k184 v185 s183) fun v186 s186=>oM (vPick v181 v186 (.bool false)) fun v187=>Q .ret [v187,v187,v186,v176,v149,v21,v31,v30,v39,v48,v46,v47,v59,v57,v58,v67,v66,v68.1] s186):=by kernel_rfl
theorem fq9.enter {k:Nat} {b:Option Nat} {K:AV→St→Prop} (h:WC ⟨prog,k,some s.heap.length⟩ fq9.n0 [a,.undef,.undef,.undef,.undef,.undef,.undef,.undef,.undef,.undef,.undef,.undef,.undef,.undef,.undef,.undef,.undef,.undef] { s with leak:=false } (RK s.heap.length s.leak fq9.res K)):VC ⟨prog,k + 1,b⟩ F_fq9 [a] s K:=VC_ra (P:=prog) (F':=fq9.fn) rfl fq9.ra fq9.ul rfl h
theorem fq9.ret {n:Nat} {lk:Bool} {K:AV→St→Prop}:RK n lk fq9.res K .ret [a,c,d,f,g,i,j,l,o,p,q,r,t,u,w,y,z,A] s=(K (leave n lk [⟨1,none,(some 1)⟩,⟨2,none,none⟩,⟨3,none,none⟩] [c,d,f] s).1 (leave n lk [⟨1,none,(some 1)⟩,⟨2,none,none⟩,⟨3,none,none⟩] [c,d,f] s).2):=by kernel_rfl
theorem fq9.n0_w:WC E fq9.n0 [a,c,d,f,g,i,j,l,o,p,q,r,t,u,w,y,z,A] s Q=(oM (eBox s 6 a) fun v1=>oM (ld ((push (v1.2) (.cells []))).heap (some 6) v1.1) fun v3=>VC E F_fq24 [v3] ((push (v1.2) (.cells []))) fun v4 s5=>oM (vExt 0 v4) fun v6=>oM (vExt 1 v4) fun v7=>oM (evUn .not v7) fun v8=>cM v8 (WC E fq9.n1 [v1.1,(.sref (v1.2).heap.length 0 0 0 1),(.int .i64 0),(.int .i64 0),g,v8,v6,l,o,p,q,r,t,u,w,y,z,A] s5 (sK (WC E fq9.n2) Q)) ((sK (WC E fq9.n2) Q) .normal [v1.1,(.sref (v1.2).heap.length 0 0 0 1),(.int .i64 0),(.int .i64 0),g,v8,v6,l,o,p,q,r,t,u,w,y,z,A] s5)):=by kernel_rfl
theorem fq9.n1_w:WC E fq9.n1 [a,c,d,f,g,i,j,l,o,p,q,r,t,u,w,y,z,A] s Q=(Q .ret [a,(.sref s.heap.length 0 0 0 1),(.int .i64 0),(.int .i64 2),g,i,j,l,o,p,q,r,t,u,w,y,z,A] (push s (.cells []))):=by kernel_rfl
theorem fq9.n2_w:WC E fq9.n2 [a,c,d,f,g,i,j,l,o,p,q,r,t,u,w,y,z,A] s Q=(VC E F_fq25 [j] s fun v1 s2=>oM (vOff 0 a) fun v3=>oM (ld s2.heap none v3) fun v4=>oM (fillA [(.int .i64 0),(.int .i64 0)] [(0,1,v4),(1,1,(.int .i64 0))]) fun v5=>oM (eStore E.base ((push s2 (.cells [(.int .i64 0),(.int .i64 0)]))) 2 (.ptr s2.heap.length 0 2) (.agg v5)) fun s6=>oM (vIaddr ((push s6 (.cells [(.int .i64 0),(.int .i64 0)]))).heap 1 none v1 (.int .i64 0)) fun v7=>oM (ld ((push s6 (.cells [(.int .i64 0),(.int .i64 0)]))).heap none v7) fun v8=>oM (ld ((push s6 (.cells [(.int .i64 0),(.int .i64 0)]))).heap (some 2) (.ptr s2.heap.length 0 2)) fun v9=>oM (vLook ((push s6 (.cells [(.int .i64 0),(.int .i64 0)]))).heap (.mk true [(.int .i64),(.int .i64)]) (.agg [(.int .i64 0),(.int .i64 0)]) true v8 v9) fun v10=>oM (vExt 0 v10) fun v11=>oM (vExt 1 v10) fun v12=>oM (eStore E.base ((push s6 (.cells [(.int .i64 0),(.int .i64 0)]))) 2 (.ptr s6.heap.length 0 2) v11) fun s13=>(chkRead E.base [a,c,d,f,g,v1,j,(.ptr s6.heap.length 0 2),(.ptr s2.heap.length 0 2),v1,v7,v8,v9,v10,v10,v11,v12,v12] ⟨(some 7),(.alloc [(.int .i64 0),(.int .i64 0)]),none⟩ [((push s6 (.cells [(.int .i64 0),(.int .i64 0)]))).heap]=true)∧oM (evUn .not v12) fun v14=>cM v14 (WC E fq9.n3 [a,c,d,f,g,v1,j,(.ptr s6.heap.length 0 2),(.ptr s2.heap.length 0 2),v14,v7,v8,v9,v10,v10,v11,v12,v12] s13 (sK (WC E fq9.n4) Q)) ((sK (WC E fq9.n4) Q) .normal [a,c,d,f,g,v1,j,(.ptr s6.heap.length 0 2),(.ptr s2.heap.length 0 2),v14,v7,v8,v9,v10,v10,v11,v12,v12] s13)):=by kernel_rfl
theorem fq9.n3_w:WC E fq9.n3 [a,c,d,f,g,i,j,l,o,p,q,r,t,u,w,y,z,A] s Q=(Q .ret [a,(.sref s.heap.length 0 0 0 1),(.int .i64 0),(.int .i64 7),g,i,j,l,o,p,q,r,t,u,w,y,z,A] (push s (.cells []))):=by kernel_rfl
theorem fq9.n4_w:WC E fq9.n4 [a,c,d,f,g,i,j,l,o,p,q,r,t,u,w,y,z,A] s Q=(oM (vOff 3 a) fun v1=>oM (ld s.heap none v1) fun v2=>oM (vLen false v2) fun v3=>(sK (WC E (.block 0 fq9.n5)) (sK (WC E fq9.n9) Q)) .normal [v3,c,d,f,(.int .i64 0),i,j,l,o,p,q,r,t,u,w,y,z,A] s):=by kernel_rfl
theorem fq9.n6_w:WC E fq9.n6 [a,c,d,f,g,i,j,l,o,p,q,r,t,u,w,y,z,A] s Q=(oM (evBin .lss g a) fun v1=>cM v1 ((sK (WC E fq9.n8) Q) .normal [a,c,d,f,g,i,j,l,o,v1,q,r,t,u,w,y,z,A] s) ((sK (WC E fq9.n8) Q) (.exit 0) [a,c,d,f,g,i,j,l,o,v1,q,r,t,u,w,y,z,A] s)):=by kernel_rfl
theorem fq9.n8_w:WC E fq9.n8 [a,c,d,f,g,i,j,l,o,p,q,r,t,u,w,y,z,A] s Q=(oM (vIaddr s.heap 1 none i g) fun v1=>oM (ld s.heap none v1) fun v2=>oM (ld s.heap (some 2) o) fun v3=>oM (vLook s.heap (.mk true [(.int .i64),(.int .i64)]) (.agg [(.int .i64 0),(.int .i64 0)]) false v2 v3) fun v4=>oM (vFld 1 none v4) fun v5=>oM (eLit s 1 [(.int .i64 0)] [(0,1,v5)] false true) fun v6=>oM (eApp E.base (v6.2) 1 8 c v6.1) fun v8=>oM (vOff 0 o) fun v10=>oM (ld (v8.2).heap none v10) fun v11=>VC E F_fq27 [j,g,v11,v5] (v8.2) fun v12 s13=>oM (fillA [(.int .i64 0),(.int .i64 0)] [(0,1,v12),(1,1,v5)]) fun v14=>oM (eStore E.base s13 2 o (.agg v14)) fun s15=>oM (evBin .add g (.int .i64 1)) fun v16=>Q .normal [a,v8.1,d,f,v16,i,j,l,o,v16,v12,r,t,u,w,y,z,A] s15):=by kernel_rfl
theorem fq9.n9_w:WC E fq9.n9 [a,c,d,f,g,i,j,l,o,p,q,r,t,u,w,y,z,A] s Q=(oM (vOff 0 l) fun v1=>oM (ld s.heap none v1) fun v2=>Q .ret [v2,c,v2,(.int .i64 0),g,i,j,l,o,p,q,r,t,u,w,y,z,A] s):=by kernel_rfl
def fq9.n5_J (a d f i j l o r t u w y z A:AV) (I:Nat→AV→AV→St→Prop) (m:Nat) (ρ:Regs) (s:St):Prop:=∃ c g p q:AV,ρ=[a,c,d,f,g,i,j,l,o,p,q,r,t,u,w,y,z,A]∧I m c g s
theorem fq9.n5_go {I:Nat→AV→AV→St→Prop} {m m':Nat} (hm:m' < m) (h:I m' c g s):LK (fq9.n5_J a d f i j l o r t u w y z A I) m Q .normal [a,c,d,f,g,i,j,l,o,p,q,r,t,u,w,y,z,A] s:=⟨m',hm,_,_,_,_,rfl,h⟩
theorem fq9.n5_l (I:Nat→AV→AV→St→Prop) (m:Nat) (hm:m < E.k) (h0:I m c g s) (step:∀ (m:Nat) (c g p q:AV) (s:St),I m c g s→WC E fq9.n6 [a,c,d,f,g,i,j,l,o,p,q,r,t,u,w,y,z,A] s (LK (fq9.n5_J a d f i j l o r t u w y z A I) m Q)):WC E fq9.n5 [a,c,d,f,g,i,j,l,o,p,q,r,t,u,w,y,z,A] s Q:=WC_loop (J:=fq9.n5_J a d f i j l o r t u w y z A I) m hm ⟨_,_,_,_,rfl,h0⟩ (fun m ρ s ⟨c,g,p,q,e,h⟩=>by rw [e]; exact step m c g p q s h)
theorem fq45.enter {k:Nat} {b:Option Nat} {K:AV→St→Prop} (h:WC ⟨prog,k,some s.heap.length⟩ fq45.n0 [a,c,.undef,.undef,.undef,.undef] { s with leak:=false } (RK s.heap.length s.leak fq45.res K)):VC ⟨prog,k + 1,b⟩ F_fq45 [a,c] s K:=VC_ra (P:=prog) (F':=fq45.fn) rfl fq45.ra fq45.ul rfl h
theorem fq45.ret {n:Nat} {lk:Bool} {K:AV→St→Prop}:RK n lk fq45.res K .ret [a,c,d,f,g,i] s=(K (leave n lk [⟨2,none,none⟩] [d] s).1 (leave n lk [⟨2,none,none⟩] [d] s).2):=by kernel_rfl
theorem fq45.n0_w:WC E fq45.n0 [a,c,d,f,g,i] s Q=(oM (vLen false a) fun v1=>oM (vLen false c) fun v2=>oM (evBin .neq v1 v2) fun v3=>cM v3 (WC E fq45.n1 [a,c,(.bool false),f,v3,v2] s (sK (WC E fq45.n2) Q)) ((sK (WC E fq45.n2) Q) .normal [a,c,(.bool false),f,v3,v2] s)):=by kernel_rfl
theorem fq45.n1_w:WC E fq45.n1 [a,c,d,f,g,i] s Q=(Q .ret [a,c,(.bool false),f,g,i] s):=by kernel_rfl
theorem fq45.n2_w:WC E fq45.n2 [a,c,d,f,g,i] s Q=((sK (WC E (.block 0 fq45.n3)) (sK (WC E fq45.n9) Q)) .normal [a,c,d,(.int .i64 0),g,i] s):=by kernel_rfl
theorem fq45.n4_w:WC E fq45.n4 [a,c,d,f,g,i] s Q=(oM (vLen false a) fun v1=>oM (evBin .lss f v1) fun v2=>cM v2 ((sK (WC E fq45.n6) Q) .normal [a,c,d,f,v2,i] s) ((sK (WC E fq45.n6) Q) (.exit 0) [a,c,d,f,v2,i] s)):=by kernel_rfl
theorem fq45.n6_w:WC E fq45.n6 [a,c,d,f,g,i] s Q=(oM (vIaddr s.heap 1 none a f) fun v1=>oM (ld s.heap none v1) fun v2=>oM (vIaddr s.heap 1 none c f) fun v3=>oM (ld s.heap none v3) fun v4=>oM (evBin .neq v2 v4) fun v5=>cM v5 (WC E fq45.n7 [a,c,d,f,v5,v4] s (bK 1 (sK (WC E fq45.n8) Q))) ((bK 1 (sK (WC E fq45.n8) Q)) .normal [a,c,d,f,v5,v4] s)):=by kernel_rfl
theorem fq45.n7_w:WC E fq45.n7 [a,c,d,f,g,i] s Q=(Q .ret [a,c,(.bool false),f,g,i] s):=by kernel_rfl
theorem fq45.n8_w:WC E fq45.n8 [a,c,d,f,g,i] s Q=(oM (evBin .add f (.int .i64 1)) fun v1=>Q .normal [a,c,d,v1,v1,i] s):=by kernel_rfl
theorem fq45.n9_w:WC E fq45.n9 [a,c,d,f,g,i] s Q=(Q .ret [a,c,(.bool true),f,g,i] s):=by kernel_rfl
def fq45.n3_J (a c:AV) (I:Nat→AV→St→Prop) (m:Nat) (ρ:Regs) (s:St):Prop:=∃ d f g i:AV,ρ=[a,c,d,f,g,i]∧I m f s
theorem fq45.n3_go {I:Nat→AV→St→Prop} {m m':Nat} (hm:m' < m) (h:I m' f s):LK (fq45.n3_J a c I) m Q .normal [a,c,d,f,g,i] s:=⟨m',hm,_,_,_,_,rfl,h⟩
theorem fq45.n3_l (I:Nat→AV→St→Prop) (m:Nat) (hm:m < E.k) (h0:I m f s) (step:∀ (m:Nat) (d f g i:AV) (s:St),I m f s→WC E fq45.n4 [a,c,d,f,g,i] s (LK (fq45.n3_J a c I) m Q)):WC E fq45.n3 [a,c,d,f,g,i] s Q:=WC_loop (J:=fq45.n3_J a c I) m hm ⟨_,_,_,_,rfl,h0⟩ (fun m ρ s ⟨d,f,g,i,e,h⟩=>by rw [e]; exact step m d f g i s h)
theorem fq46.enter {k:Nat} {b:Option Nat} {K:AV→St→Prop} (h:WC ⟨prog,k,some s.heap.length⟩ fq46.n0 [a,.undef,.undef,.undef,.undef,.undef,.undef] { s with leak:=false } (RK s.heap.length s.leak fq46.res K)):VC ⟨prog,k + 1,b⟩ F_fq46 [a] s K:=VC_ra (P:=prog) (F':=fq46.fn) rfl fq46.ra fq46.ul rfl h
theorem fq46.ret {n:Nat} {lk:Bool} {K:AV→St→Prop}:RK n lk fq46.res K .ret [a,c,d,f,g,i,j] s=(K (leave n lk [⟨1,none,none⟩] [c] s).1 (leave n lk [⟨1,none,none⟩] [c] s).2):=by kernel_rfl
theorem fq46.n0_w:WC E fq46.n0 [a,c,d,f,g,i,j] s Q=(oM (eBox s 6 a) fun v1=>oM (vOff 1 v1.1) fun v3=>oM (ld (v1.2).heap none v3) fun v4=>VC E F_fq56 [v4,(.int .i64 (-1000000)),(.int .i64 1000000)] (v1.2) fun v5 s6=>oM (evUn .not v5) fun v7=>gO v7 false s6 (fun k8=>oM (vOff 2 v1.1) fun v9=>k8 v9 s6) fun v10 s10=>gO v7 false s10 (fun k11=>oM (ld s10.heap none v10) fun v12=>k11 v12 s10) fun v13 s13=>gO v7 false s13 (fun k14=>oM (vOff 1 v1.1) fun v15=>k14 v15 s13) fun v16 s16=>gO v7 false s16 (fun k17=>oM (ld s16.heap none v16) fun v18=>k17 v18 s16) fun v19 s19=>gO v7 false s19 (fun k20=>oM (evBin .lss v13 v19) fun v21=>k20 v21 s19) fun v22 s22=>oM (vPick v7 (.bool true) v22) fun v23=>gO v23 false s22 (fun k24=>oM (vOff 2 v1.1) fun v25=>k24 v25 s22) fun v26 s26=>gO v23 false s26 (fun k27=>oM (ld s26.heap none v26) fun v28=>k27 v28 s26) fun v29 s29=>gO v23 false s29 (fun k30=>oM (vOff 1 v1.1) fun v31=>k30 v31 s29) fun v32 s32=>gO v23 false s32 (fun k33=>oM (ld s32.heap none v32) fun v34=>k33 v34 s32) fun v35 s35=>gO v23 false s35 (fun k36=>oM (evBin .add v35 (.int .i64 1000)) fun v37=>k36 v37 s35) fun v38 s38=>gO v23 false s38 (fun k39=>oM (evBin .gtr v29 v38) fun v40=>k39 v40 s38) fun v41 s41=>oM (vPick v23 (.bool true) v41) fun v42=>gO v42 false s41 (fun k43=>oM (vOff 0 v1.1) fun v44=>k43 v44 s41) fun v45 s45=>gO v42 false s45 (fun k46=>oM (ld s45.heap none v45) fun v47=>k46 v47 s45) fun v48 s48=>gO v42 false s48 (fun k49=>oM (vOff 1 v1.1) fun v50=>k49 v50 s48) fun v51 s51=>gO v42 false s51 (fun k52=>oM (ld s51.heap none v51) fun v53=>k52 v53 s51) fun v54 s54=>gO v42 false s54 (fun k55=>oM (vOff 2 v1.1) fun v56=>k55 v56 s54) fun v57 s57=>gO v42 false s57 (fun k58=>oM (ld s57.heap none v57) fun v59=>k58 v59 s57) fun v60 s60=>gO v42 false s60 (fun k61=>VC E F_fq56 [v48,v54,v60] s60 fun v62 s63=>k61 v62 s63) fun v64 s64=>gO v42 false s64 (fun k65=>oM (evUn .not v64) fun v66=>k65 v66 s64) fun v67 s67=>oM (vPick v42 (.bool true) v67) fun v68=>cM v68 (WC E fq46.n1 [v1.1,(.bool false),d,v68,v67,v54,v60] s67 (sK (WC E fq46.n2) Q)) ((sK (WC E fq46.n2) Q) .normal [v1.1,(.bool false),d,v68,v67,v54,v60] s67)):=by kernel_rfl
theorem fq46.n1_w:WC E fq46.n1 [a,c,d,f,g,i,j] s Q=(Q .ret [a,(.bool false),d,f,g,i,j] s):=by kernel_rfl
theorem fq46.n2_w:WC E fq46.n2 [a,c,d,f,g,i,j] s Q=(oM (vOff 3 a) fun v1=>oM (ld s.heap none v1) fun v2=>oM (vLen false v2) fun v3=>oM (vOff 4 a) fun v4=>oM (ld s.heap none v4) fun v5=>oM (vLen false v5) fun v6=>oM (evBin .neq v3 v6) fun v7=>gO v7 false s (fun k8=>oM (vOff 3 a) fun v9=>k8 v9 s) fun v10 s10=>gO v7 false s10 (fun k11=>oM (ld s10.heap none v10) fun v12=>k11 v12 s10) fun v13 s13=>gO v7 false s13 (fun k14=>oM (vLen false v13) fun v15=>k14 v15 s13) fun v16 s16=>gO v7 false s16 (fun k17=>oM (evBin .gtr v16 (.int .i64 48)) fun v18=>k17 v18 s16) fun v19 s19=>oM (vPick v7 (.bool true) v19) fun v20=>gO v20 false s19 (fun k21=>oM (vOff 3 a) fun v22=>k21 v22 s19) fun v23 s23=>gO v20 false s23 (fun k24=>oM (ld s23.heap none v23) fun v25=>k24 v25 s23) fun v26 s26=>gO v20 false s26 (fun k27=>VC E F_fq53 [v26] s26 fun v28 s29=>k27 v28 s29) fun v30 s30=>gO v20 false s30 (fun k31=>oM (evUn .not v30) fun v32=>k31 v32 s30) fun v33 s33=>oM (vPick v20 (.bool true) v33) fun v34=>gO v34 false s33 (fun k35=>oM (vOff 4 a) fun v36=>k35 v36 s33) fun v37 s37=>gO v34 false s37 (fun k38=>oM (ld s37.heap none v37) fun v39=>k38 v39 s37) fun v40 s40=>gO v34 false s40 (fun k41=>VC E F_fq53 [v40] s40 fun v42 s43=>k41 v42 s43) fun v44 s44=>gO v34 false s44 (fun k45=>oM (evUn .not v44) fun v46=>k45 v46 s44) fun v47 s47=>oM (vPick v34 (.bool true) v47) fun v48=>gO v48 false s47 (fun k49=>oM (vOff 5 a) fun v50=>k49 v50 s47) fun v51 s51=>gO v48 false s51 (fun k52=>oM (ld s51.heap none v51) fun v53=>k52 v53 s51) fun v54 s54=>gO v48 false s54 (fun k55=>oM (vLen false v54) fun v56=>k55 v56 s54) fun v57 s57=>gO v48 false s57 (fun k58=>oM (evBin .gtr v57 (.int .i64 4)) fun v59=>k58 v59 s57) fun v60 s60=>oM (vPick v48 (.bool true) v60) fun v61=>cM v61 (WC E fq46.n3 [a,c,d,v61,v60,i,j] s60 (sK (WC E fq46.n4) Q)) ((sK (WC E fq46.n4) Q) .normal [a,c,d,v61,v60,i,j] s60)):=by kernel_rfl
theorem fq46.n3_w:WC E fq46.n3 [a,c,d,f,g,i,j] s Q=(Q .ret [a,(.bool false),d,f,g,i,j] s):=by kernel_rfl
theorem fq46.n4_w:WC E fq46.n4 [a,c,d,f,g,i,j] s Q=((sK (WC E (.block 0 fq46.n5)) (sK (WC E fq46.n11) Q)) .normal [a,c,(.int .i64 0),f,g,i,j] s):=by kernel_rfl
theorem fq46.n6_w:WC E fq46.n6 [a,c,d,f,g,i,j] s Q=(oM (vOff 5 a) fun v1=>oM (ld s.heap none v1) fun v2=>oM (vLen false v2) fun v3=>oM (evBin .lss d v3) fun v4=>cM v4 ((sK (WC E fq46.n8) Q) .normal [a,c,d,v4,g,i,j] s) ((sK (WC E fq46.n8) Q) (.exit 0) [a,c,d,v4,g,i,j] s)):=by kernel_rfl
theorem fq46.n8_w:WC E fq46.n8 [a,c,d,f,g,i,j] s Q=(oM (vOff 5 a) fun v1=>oM (ld s.heap none v1) fun v2=>oM (vIaddr s.heap 3 none v2 d) fun v3=>oM (vOff 0 v3) fun v4=>oM (ld s.heap none v4) fun v5=>oM (vOff 5 a) fun v6=>oM (ld s.heap none v6) fun v7=>oM (vIaddr s.heap 3 none v7 d) fun v8=>oM (vOff 1 v8) fun v9=>oM (ld s.heap none v9) fun v10=>oM (vOff 5 a) fun v11=>oM (ld s.heap none v11) fun v12=>oM (vIaddr s.heap 3 none v12 d) fun v13=>oM (vOff 2 v13) fun v14=>oM (ld s.heap none v14) fun v15=>oM (eLit s 1 [(.int .i64 0),(.int .i64 0),(.int .i64 0)] [(0,1,v5),(1,1,v10),(2,1,v15)] false false) fun v16=>VC E F_fq53 [v16.1] (v16.2) fun v18 s19=>oM (evUn .not v18) fun v20=>cM v20 (WC E fq46.n9 [a,c,d,v20,v10,v15,j] s19 (bK 1 (sK (WC E fq46.n10) Q))) ((bK 1 (sK (WC E fq46.n10) Q)) .normal [a,c,d,v20,v10,v15,j] s19)):=by kernel_rfl
theorem fq46.n9_w:WC E fq46.n9 [a,c,d,f,g,i,j] s Q=(Q .ret [a,(.bool false),d,f,g,i,j] s):=by kernel_rfl
theorem fq46.n10_w:WC E fq46.n10 [a,c,d,f,g,i,j] s Q=(oM (evBin .add d (.int .i64 1)) fun v1=>Q .normal [a,c,v1,v1,g,i,j] s):=by kernel_rfl
theorem fq46.n11_w:WC E fq46.n11 [a,c,d,f,g,i,j] s Q=(Q .ret [a,(.bool true),d,f,g,i,j] s):=by kernel_rfl
def fq46.n5_J (a j:AV) (I:Nat→AV→St→Prop) (m:Nat) (ρ:Regs) (s:St):Prop:=∃ c d f g i:AV,ρ=[a,c,d,f,g,i,j]∧I m d s
theorem fq46.n5_go {I:Nat→AV→St→Prop} {m m':Nat} (hm:m' < m) (h:I m' d s):LK (fq46.n5_J a j I) m Q .normal [a,c,d,f,g,i,j] s:=⟨m',hm,_,_,_,_,_,rfl,h⟩
theorem fq46.n5_l (I:Nat→AV→St→Prop) (m:Nat) (hm:m < E.k) (h0:I m d s) (step:∀ (m:Nat) (c d f g i:AV) (s:St),I m d s→WC E fq46.n6 [a,c,d,f,g,i,j] s (LK (fq46.n5_J a j I) m Q)):WC E fq46.n5 [a,c,d,f,g,i,j] s Q:=WC_loop (J:=fq46.n5_J a j I) m hm ⟨_,_,_,_,_,rfl,h0⟩ (fun m ρ s ⟨c,d,f,g,i,e,h⟩=>by rw [e]; exact step m c d f g i s h)
theorem fq48.enter {k:Nat} {b:Option Nat} {K:AV→St→Prop} (h:WC ⟨prog,k,some s.heap.length⟩ fq48.n0 [a,c,.undef,.undef,.undef,.undef,.undef,.undef,.undef] { s with leak:=false } (RK s.heap.length s.leak fq48.res K)):VC ⟨prog,k + 1,b⟩ F_fq48 [a,c] s K:=VC_ra (P:=prog) (F':=fq48.fn) rfl fq48.ra fq48.ul rfl h
theorem fq48.ret {n:Nat} {lk:Bool} {K:AV→St→Prop}:RK n lk fq48.res K .ret [a,c,d,f,g,i,j,l,o] s=(K (leave n lk [⟨2,none,(some 1)⟩,⟨3,none,none⟩] [d,f] s).1 (leave n lk [⟨2,none,(some 1)⟩,⟨3,none,none⟩] [d,f] s).2):=by kernel_rfl
theorem fq48.n0_w:WC E fq48.n0 [a,c,d,f,g,i,j,l,o] s Q=(oM (eBox s 6 a) fun v1=>oM (ld (v1.2).heap (some 6) v1.1) fun v3=>VC E F_fq51 [v3,c] (v1.2) fun v4 s5=>oM (evUn .not v4) fun v6=>cM v6 (WC E fq48.n1 [v1.1,c,(.slice true 0 []),(.int .i64 0),g,i,j,v6,o] s5 (sK (WC E fq48.n2) Q)) ((sK (WC E fq48.n2) Q) .normal [v1.1,c,(.slice true 0 []),(.int .i64 0),g,i,j,v6,o] s5)):=by kernel_rfl
theorem fq48.n1_w:WC E fq48.n1 [a,c,d,f,g,i,j,l,o] s Q=(Q .ret [a,c,(.slice true 0 []),(.int .i64 2),g,i,j,l,o] s):=by kernel_rfl
theorem fq48.n2_w:WC E fq48.n2 [a,c,d,f,g,i,j,l,o] s Q=(oM (vOff 0 a) fun v1=>oM (ld ((push s (.cells []))).heap none v1) fun v2=>(sK (WC E (.block 0 fq48.n3)) (sK (WC E fq48.n7) Q)) .normal [a,c,d,f,(.sref s.heap.length 0 0 0 1),v2,(.int .i64 0),v2,o] (push s (.cells []))):=by kernel_rfl
theorem fq48.n4_w:WC E fq48.n4 [a,c,d,f,g,i,j,l,o] s Q=(oM (vLen false c) fun v1=>oM (evBin .lss j v1) fun v2=>cM v2 ((sK (WC E fq48.n6) Q) .normal [a,c,d,f,g,i,j,v2,o] s) ((sK (WC E fq48.n6) Q) (.exit 0) [a,c,d,f,g,i,j,v2,o] s)):=by kernel_rfl
theorem fq48.n6_w:WC E fq48.n6 [a,c,d,f,g,i,j,l,o] s Q=(oM (ld s.heap (some 6) a) fun v1=>oM (vIaddr s.heap 1 none c j) fun v2=>oM (ld s.heap none v2) fun v3=>VC E F_fq54 [v1,j,i,v3] s fun v4 s5=>oM (eLit s5 1 [(.int .i64 0)] [(0,1,v4)] false true) fun v6=>oM (eApp E.base (v6.2) 1 8 g v6.1) fun v8=>oM (evBin .add j (.int .i64 1)) fun v10=>Q .normal [a,c,d,f,v8.1,v4,v10,v10,v3] (v8.2)):=by kernel_rfl
theorem fq48.n7_w:WC E fq48.n7 [a,c,d,f,g,i,j,l,o] s Q=(Q .ret [a,c,g,(.int .i64 0),g,i,j,l,o] s):=by kernel_rfl
def fq48.n3_J (a c d f:AV) (I:Nat→AV→AV→AV→St→Prop) (m:Nat) (ρ:Regs) (s:St):Prop:=∃ g i j l o:AV,ρ=[a,c,d,f,g,i,j,l,o]∧I m g i j s
theorem fq48.n3_go {I:Nat→AV→AV→AV→St→Prop} {m m':Nat} (hm:m' < m) (h:I m' g i j s):LK (fq48.n3_J a c d f I) m Q .normal [a,c,d,f,g,i,j,l,o] s:=⟨m',hm,_,_,_,_,_,rfl,h⟩
theorem fq48.n3_l (I:Nat→AV→AV→AV→St→Prop) (m:Nat) (hm:m < E.k) (h0:I m g i j s) (step:∀ (m:Nat) (g i j l o:AV) (s:St),I m g i j s→WC E fq48.n4 [a,c,d,f,g,i,j,l,o] s (LK (fq48.n3_J a c d f I) m Q)):WC E fq48.n3 [a,c,d,f,g,i,j,l,o] s Q:=WC_loop (J:=fq48.n3_J a c d f I) m hm ⟨_,_,_,_,_,rfl,h0⟩ (fun m ρ s ⟨g,i,j,l,o,e,h⟩=>by rw [e]; exact step m g i j l o s h)
theorem fq47.enter {k:Nat} {b:Option Nat} {K:AV→St→Prop} (h:WC ⟨prog,k,some s.heap.length⟩ fq47.n0 [a,c,.undef,.undef,.undef,.undef,.undef,.undef,.undef] { s with leak:=false } (RK s.heap.length s.leak fq47.res K)):VC ⟨prog,k + 1,b⟩ F_fq47 [a,c] s K:=VC_ra (P:=prog) (F':=fq47.fn) rfl fq47.ra fq47.ul rfl h
theorem fq47.ret {n:Nat} {lk:Bool} {K:AV→St→Prop}:RK n lk fq47.res K .ret [a,c,d,f,g,i,j,l,o] s=(K (leave n lk [⟨2,none,none⟩,⟨3,none,none⟩] [d,f] s).1 (leave n lk [⟨2,none,none⟩,⟨3,none,none⟩] [d,f] s).2):=by kernel_rfl
theorem fq47.n0_w:WC E fq47.n0 [a,c,d,f,g,i,j,l,o] s Q=(oM (eBox s 6 a) fun v1=>oM (ld (v1.2).heap (some 6) v1.1) fun v3=>VC E F_fq51 [v3,c] (v1.2) fun v4 s5=>oM (evUn .not v4) fun v6=>cM v6 (WC E fq47.n1 [v1.1,c,(.int .i64 0),(.int .i64 0),g,i,j,v6,o] s5 (sK (WC E fq47.n2) Q)) ((sK (WC E fq47.n2) Q) .normal [v1.1,c,(.int .i64 0),(.int .i64 0),g,i,j,v6,o] s5)):=by kernel_rfl
theorem fq47.n1_w:WC E fq47.n1 [a,c,d,f,g,i,j,l,o] s Q=(Q .ret [a,c,(.int .i64 0),(.int .i64 2),g,i,j,l,o] s):=by kernel_rfl
theorem fq47.n2_w:WC E fq47.n2 [a,c,d,f,g,i,j,l,o] s Q=((sK (WC E (.block 0 fq47.n3)) (sK (WC E fq47.n7) Q)) .normal [a,c,d,f,(.int .i64 0),(.int .i64 0),(.int .i64 0),l,o] s):=by kernel_rfl
theorem fq47.n4_w:WC E fq47.n4 [a,c,d,f,g,i,j,l,o] s Q=(oM (vLen false c) fun v1=>oM (evBin .lss j v1) fun v2=>cM v2 ((sK (WC E fq47.n6) Q) .normal [a,c,d,f,g,i,j,v2,o] s) ((sK (WC E fq47.n6) Q) (.exit 0) [a,c,d,f,g,i,j,v2,o] s)):=by kernel_rfl
theorem fq47.n6_w:WC E fq47.n6 [a,c,d,f,g,i,j,l,o] s Q=(oM (ld s.heap (some 6) a) fun v1=>oM (vIaddr s.heap 1 none c j) fun v2=>oM (ld s.heap none v2) fun v3=>VC E F_fq55 [v1,j,i,v3] s fun v4 s5=>oM (evBin .add g v4) fun v6=>oM (vIaddr s5.heap 1 none c j) fun v7=>oM (ld s5.heap none v7) fun v8=>oM (evBin .add j (.int .i64 1)) fun v9=>Q .normal [a,c,d,f,v6,v8,v9,v9,v3] s5):=by kernel_rfl
theorem fq47.n7_w:WC E fq47.n7 [a,c,d,f,g,i,j,l,o] s Q=(Q .ret [a,c,g,(.int .i64 0),g,i,j,l,o] s):=by kernel_rfl
def fq47.n3_J (a c d f:AV) (I:Nat→AV→AV→AV→St→Prop) (m:Nat) (ρ:Regs) (s:St):Prop:=∃ g i j l o:AV,ρ=[a,c,d,f,g,i,j,l,o]∧I m g i j s
theorem fq47.n3_go {I:Nat→AV→AV→AV→St→Prop} {m m':Nat} (hm:m' < m) (h:I m' g i j s):LK (fq47.n3_J a c d f I) m Q .normal [a,c,d,f,g,i,j,l,o] s:=⟨m',hm,_,_,_,_,_,rfl,h⟩
theorem fq47.n3_l (I:Nat→AV→AV→AV→St→Prop) (m:Nat) (hm:m < E.k) (h0:I m g i j s) (step:∀ (m:Nat) (g i j l o:AV) (s:St),I m g i j s→WC E fq47.n4 [a,c,d,f,g,i,j,l,o] s (LK (fq47.n3_J a c d f I) m Q)):WC E fq47.n3 [a,c,d,f,g,i,j,l,o] s Q:=WC_loop (J:=fq47.n3_J a c d f I) m hm ⟨_,_,_,_,_,rfl,h0⟩ (fun m ρ s ⟨g,i,j,l,o,e,h⟩=>by rw [e]; exact step m g i j l o s h)
theorem fq3.enter {k:Nat} {b:Option Nat} {K:AV→St→Prop} (h:WC ⟨prog,k,some s.heap.length⟩ fq3.n0 [a,c,.undef,.undef,.undef,.undef,.undef] { s with leak:=false } (RK s.heap.length s.leak fq3.res K)):VC ⟨prog,k + 1,b⟩ F_fq3 [a,c] s K:=VC_ra (P:=prog) (F':=fq3.fn) rfl fq3.ra fq3.ul rfl h
theorem fq3.ret {n:Nat} {lk:Bool} {K:AV→St→Prop}:RK n lk fq3.res K .ret [a,c,d,f,g,i,j] s=(K (leave n lk [⟨2,none,(some 1)⟩] [d] s).1 (leave n lk [⟨2,none,(some 1)⟩] [d] s).2):=by kernel_rfl
theorem fq3.n0_w:WC E fq3.n0 [a,c,d,f,g,i,j] s Q=((sK (WC E (.block 0 fq3.n1)) (sK (WC E fq3.n5) Q)) .normal [a,c,(.slice true 0 []),(.sref s.heap.length 0 0 0 1),(.int .i64 0),i,j] (push s (.cells []))):=by kernel_rfl
theorem fq3.n2_w:WC E fq3.n2 [a,c,d,f,g,i,j] s Q=(oM (vLen false a) fun v1=>oM (evBin .lss g v1) fun v2=>cM v2 ((sK (WC E fq3.n4) Q) .normal [a,c,d,f,g,v2,j] s) ((sK (WC E fq3.n4) Q) (.exit 0) [a,c,d,f,g,v2,j] s)):=by kernel_rfl
theorem fq3.n4_w:WC E fq3.n4 [a,c,d,f,g,i,j] s Q=(oM (vIaddr s.heap 1 none a g) fun v1=>oM (ld s.heap none v1) fun v2=>oM (evMinMax false (.int .i64 1000000) [c]) fun v3=>oM (evMinMax true (.int .i64 0) [v3]) fun v4=>oM (evBin .sub v2 v4) fun v5=>oM (evMinMax true (.int .i64 0) [v5]) fun v6=>oM (eLit s 1 [(.int .i64 0)] [(0,1,v6)] false true) fun v7=>oM (eApp E.base (v7.2) 1 8 f v7.1) fun v9=>oM (evBin .add g (.int .i64 1)) fun v11=>Q .normal [a,c,d,v9.1,v11,v11,v4] (v9.2)):=by kernel_rfl
theorem fq3.n5_w:WC E fq3.n5 [a,c,d,f,g,i,j] s Q=(Q .ret [a,c,f,f,g,i,j] s):=by kernel_rfl
def fq3.n1_J (a c d:AV) (I:Nat→AV→AV→St→Prop) (m:Nat) (ρ:Regs) (s:St):Prop:=∃ f g i j:AV,ρ=[a,c,d,f,g,i,j]∧I m f g s
theorem fq3.n1_go {I:Nat→AV→AV→St→Prop} {m m':Nat} (hm:m' < m) (h:I m' f g s):LK (fq3.n1_J a c d I) m Q .normal [a,c,d,f,g,i,j] s:=⟨m',hm,_,_,_,_,rfl,h⟩
theorem fq3.n1_l (I:Nat→AV→AV→St→Prop) (m:Nat) (hm:m < E.k) (h0:I m f g s) (step:∀ (m:Nat) (f g i j:AV) (s:St),I m f g s→WC E fq3.n2 [a,c,d,f,g,i,j] s (LK (fq3.n1_J a c d I) m Q)):WC E fq3.n1 [a,c,d,f,g,i,j] s Q:=WC_loop (J:=fq3.n1_J a c d I) m hm ⟨_,_,_,_,rfl,h0⟩ (fun m ρ s ⟨f,g,i,j,e,h⟩=>by rw [e]; exact step m f g i j s h)
theorem fq12.enter {k:Nat} {b:Option Nat} {K:AV→St→Prop} (h:WC ⟨prog,k,some s.heap.length⟩ fq12.n0 [a,.undef,.undef,.undef,.undef,.undef,.undef,.undef,.undef,.undef,.undef,.undef,.undef] { s with leak:=false } (RK s.heap.length s.leak fq12.res K)):VC ⟨prog,k + 1,b⟩ F_fq12 [a] s K:=VC_ra (P:=prog) (F':=fq12.fn) rfl fq12.ra fq12.ul rfl h
theorem fq12.ret {n:Nat} {lk:Bool} {K:AV→St→Prop}:RK n lk fq12.res K .ret [a,c,d,f,g,i,j,l,o,p,q,r,t] s=(K (leave n lk [⟨1,none,(some 2)⟩,⟨2,none,none⟩,⟨3,none,none⟩] [c,d,f] s).1 (leave n lk [⟨1,none,(some 2)⟩,⟨2,none,none⟩,⟨3,none,none⟩] [c,d,f] s).2):=by kernel_rfl
theorem fq12.n0_w:WC E fq12.n0 [a,c,d,f,g,i,j,l,o,p,q,r,t] s Q=(oM (eBox s 1 a) fun v1=>oM (ld ((push (v1.2) (.cells []))).heap none v1.1) fun v3=>oM (vLen false v3) fun v4=>oM (evBin .rem v4 (.int .i64 2)) fun v5=>oM (evBin .neq v5 (.int .i64 0)) fun v6=>gO v6 false ((push (v1.2) (.cells []))) (fun k7=>oM (ld ((push (v1.2) (.cells []))).heap none v1.1) fun v8=>k7 v8 (push (v1.2) (.cells []))) fun v9 s9=>gO v6 false s9 (fun k10=>oM (vLen false v9) fun v11=>k10 v11 s9) fun v12 s12=>gO v6 false s12 (fun k13=>oM (evBin .gtr v12 (.int .i64 16)) fun v14=>k13 v14 s12) fun v15 s15=>oM (vPick v6 (.bool true) v15) fun v16=>gO v16 false s15 (fun k17=>oM (ld s15.heap none v1.1) fun v18=>k17 v18 s15) fun v19 s19=>gO v16 false s19 (fun k20=>VC E F_fq58 [v19,(.fn F_fq13 [])] s19 fun v21 s22=>k20 v21 s22) fun v23 s23=>oM (vPick v16 (.bool true) v23) fun v24=>cM v24 (WC E fq12.n1 [v1.1,(.sref (v1.2).heap.length 0 0 0 2),(.int .i64 0),(.int .i64 0),g,v24,v23,l,o,p,q,r,t] s23 (sK (WC E fq12.n2) Q)) ((sK (WC E fq12.n2) Q) .normal [v1.1,(.sref (v1.2).heap.length 0 0 0 2),(.int .i64 0),(.int .i64 0),g,v24,v23,l,o,p,q,r,t] s23)):=by kernel_rfl
theorem fq12.n1_w:WC E fq12.n1 [a,c,d,f,g,i,j,l,o,p,q,r,t] s Q=(Q .ret [a,(.sref s.heap.length 0 0 0 2),(.int .i64 0),(.int .i64 2),g,i,j,l,o,p,q,r,t] (push s (.cells []))):=by kernel_rfl
theorem fq12.n2_w:WC E fq12.n2 [a,c,d,f,g,i,j,l,o,p,q,r,t] s Q=(oM (fillA [(.int .i64 0),(.int .i64 0)] []) fun v1=>oM (eMupd E.base ((push s (.map (.mk false [(.int .u64)]) 0 []))) (.mk false [(.int .u64)]) (.map s.heap.length) (.int .u64 0) (.agg v1)) fun s2=>oM (eStore E.base ((push s2 (.cells [.nilmap]))) 1 (.ptr s2.heap.length 0 1) (.map s.heap.length)) fun s3=>oM (eStore E.base ((push s3 (.cells [.nilfn]))) 1 (.ptr s3.heap.length 0 1) (.fn F_fq14 [(.ptr s2.heap.length 0 1),(.ptr s3.heap.length 0 1),a])) fun s4=>oM (ld s4.heap none a) fun v5=>oM (vLen false v5) fun v6=>oM (evBin .shl (.int .u64 1) v6) fun v7=>oM (evBin .sub v7 (.int .u64 1)) fun v8=>oM (ld s4.heap none (.ptr s3.heap.length 0 1)) fun v9=>VV E v9 [v8] s4 fun v10 s11=>(sK (WC E (.seq (.block 0 fq12.n3) fq12.n7)) Q) .normal [v10,c,v10,f,v8,(.ptr s3.heap.length 0 1),(.ptr s2.heap.length 0 1),(.fn F_fq14 [(.ptr s2.heap.length 0 1),(.ptr s3.heap.length 0 1),a]),o,p,q,r,t] s11):=by kernel_rfl
theorem fq12.n4_w:WC E fq12.n4 [a,c,d,f,g,i,j,l,o,p,q,r,t] s Q=(oM (evBin .neq g (.int .u64 0)) fun v1=>cM v1 ((sK (WC E fq12.n6) Q) .normal [v1,c,d,f,g,i,j,l,o,p,q,r,t] s) ((sK (WC E fq12.n6) Q) (.exit 0) [v1,c,d,f,g,i,j,l,o,p,q,r,t] s)):=by kernel_rfl
theorem fq12.n6_w:WC E fq12.n6 [a,c,d,f,g,i,j,l,o,p,q,r,t] s Q=(VC E F_fq38 [g] s fun v1 s2=>oM (ld s2.heap none j) fun v3=>oM (vLook s2.heap (.mk false [(.int .u64)]) (.agg [(.int .i64 0),(.int .i64 0)]) false v3 g) fun v4=>oM (vFld 1 none v4) fun v5=>(chkRead E.base [g,c,d,f,g,v1,j,v3,g,v4,v5,v1,v5] ⟨(some 7),(.load none (.r 6)),none⟩ [s.heap,s2.heap]=true)∧(chkRead E.base [g,c,d,f,g,v1,j,v3,g,v4,v5,v1,v5] ⟨(some 9),(.look (.mk false [(.int .u64)]) (.agg [(.int .i64 0),(.int .i64 0)]) false (.r 7) (.r 8)),none⟩ [s.heap,s2.heap]=true)∧oM (fillA [(.int .i64 0),(.int .i64 0)] [(0,1,v1),(1,1,v5)]) fun v6=>oM (eLit s2 2 [(.int .i64 0),(.int .i64 0)] [(0,2,(.agg v6))] false true) fun v7=>oM (eApp E.base (v7.2) 2 16 c v7.1) fun v9=>VC E F_fq39 [g,v1] (v9.2) fun v11 s12=>VC E F_fq39 [v11,v5] s12 fun v13 s14=>(bK 1 Q) .normal [v13,v9.1,d,f,v13,v1,j,v3,g,v4,v5,v1,v5] s14):=by kernel_rfl
theorem fq12.n7_w:WC E fq12.n7 [a,c,d,f,g,i,j,l,o,p,q,r,t] s Q=(Q .ret [a,c,d,(.int .i64 0),g,i,j,l,o,p,q,r,t] s):=by kernel_rfl
def fq12.n3_J (d f j:AV) (I:Nat→AV→AV→St→Prop) (m:Nat) (ρ:Regs) (s:St):Prop:=∃ a c g i l o p q r t:AV,ρ=[a,c,d,f,g,i,j,l,o,p,q,r,t]∧I m c g s
theorem fq12.n3_go {I:Nat→AV→AV→St→Prop} {m m':Nat} (hm:m' < m) (h:I m' c g s):LK (fq12.n3_J d f j I) m Q .normal [a,c,d,f,g,i,j,l,o,p,q,r,t] s:=⟨m',hm,_,_,_,_,_,_,_,_,_,_,rfl,h⟩
theorem fq12.n3_l (I:Nat→AV→AV→St→Prop) (m:Nat) (hm:m < E.k) (h0:I m c g s) (step:∀ (m:Nat) (a c g i l o p q r t:AV) (s:St),I m c g s→WC E fq12.n4 [a,c,d,f,g,i,j,l,o,p,q,r,t] s (LK (fq12.n3_J d f j I) m Q)):WC E fq12.n3 [a,c,d,f,g,i,j,l,o,p,q,r,t] s Q:=WC_loop (J:=fq12.n3_J d f j I) m hm ⟨_,_,_,_,_,_,_,_,_,_,rfl,h0⟩ (fun m ρ s ⟨a,c,g,i,l,o,p,q,r,t,e,h⟩=>by rw [e]; exact step m a c g i l o p q r t s h)
theorem fq50.enter {k:Nat} {b:Option Nat} {K:AV→St→Prop} (h:WC ⟨prog,k,some s.heap.length⟩ fq50.n0 [a,c,.undef,.undef,.undef,.undef] { s with leak:=false } (RK s.heap.length s.leak fq50.res K)):VC ⟨prog,k + 1,b⟩ F_fq50 [a,c] s K:=VC_ra (P:=prog) (F':=fq50.fn) rfl fq50.ra fq50.ul rfl h
theorem fq50.ret {n:Nat} {lk:Bool} {K:AV→St→Prop}:RK n lk fq50.res K .ret [a,c,d,f,g,i] s=(K (leave n lk [⟨2,none,none⟩] [d] s).1 (leave n lk [⟨2,none,none⟩] [d] s).2):=by kernel_rfl
theorem fq50.n0_w:WC E fq50.n0 [a,c,d,f,g,i] s Q=(oM (vLen false a) fun v1=>oM (vLen false c) fun v2=>oM (evBin .neq v1 v2) fun v3=>cM v3 (WC E fq50.n1 [a,c,(.bool false),f,v3,v2] s (sK (WC E fq50.n2) Q)) ((sK (WC E fq50.n2) Q) .normal [a,c,(.bool false),f,v3,v2] s)):=by kernel_rfl
theorem fq50.n1_w:WC E fq50.n1 [a,c,d,f,g,i] s Q=(Q .ret [a,c,(.bool false),f,g,i] s):=by kernel_rfl
theorem fq50.n2_w:WC E fq50.n2 [a,c,d,f,g,i] s Q=((sK (WC E (.block 0 fq50.n3)) (sK (WC E fq50.n9) Q)) .normal [a,c,d,(.int .i64 0),g,i] s):=by kernel_rfl
theorem fq50.n4_w:WC E fq50.n4 [a,c,d,f,g,i] s Q=(oM (vLen false a) fun v1=>oM (evBin .lss f v1) fun v2=>cM v2 ((sK (WC E fq50.n6) Q) .normal [a,c,d,f,v2,i] s) ((sK (WC E fq50.n6) Q) (.exit 0) [a,c,d,f,v2,i] s)):=by kernel_rfl
theorem fq50.n6_w:WC E fq50.n6 [a,c,d,f,g,i] s Q=(oM (vIaddr s.heap 2 none a f) fun v1=>oM (ld s.heap (some 2) v1) fun v2=>oM (vIaddr s.heap 2 none c f) fun v3=>oM (ld s.heap (some 2) v3) fun v4=>oM (vEqs true (.sh (.mk true [(.int .i64),(.int .i64)])) v2 v4) fun v5=>cM v5 (WC E fq50.n7 [a,c,d,f,v5,v4] s (bK 1 (sK (WC E fq50.n8) Q))) ((bK 1 (sK (WC E fq50.n8) Q)) .normal [a,c,d,f,v5,v4] s)):=by kernel_rfl
theorem fq50.n7_w:WC E fq50.n7 [a,c,d,f,g,i] s Q=(Q .ret [a,c,(.bool false),f,g,i] s):=by kernel_rfl
theorem fq50.n8_w:WC E fq50.n8 [a,c,d,f,g,i] s Q=(oM (evBin .add f (.int .i64 1)) fun v1=>Q .normal [a,c,d,v1,v1,i] s):=by kernel_rfl
theorem fq50.n9_w:WC E fq50.n9 [a,c,d,f,g,i] s Q=(Q .ret [a,c,(.bool true),f,g,i] s):=by kernel_rfl
def fq50.n3_J (a c:AV) (I:Nat→AV→St→Prop) (m:Nat) (ρ:Regs) (s:St):Prop:=∃ d f g i:AV,ρ=[a,c,d,f,g,i]∧I m f s
theorem fq50.n3_go {I:Nat→AV→St→Prop} {m m':Nat} (hm:m' < m) (h:I m' f s):LK (fq50.n3_J a c I) m Q .normal [a,c,d,f,g,i] s:=⟨m',hm,_,_,_,_,rfl,h⟩
theorem fq50.n3_l (I:Nat→AV→St→Prop) (m:Nat) (hm:m < E.k) (h0:I m f s) (step:∀ (m:Nat) (d f g i:AV) (s:St),I m f s→WC E fq50.n4 [a,c,d,f,g,i] s (LK (fq50.n3_J a c I) m Q)):WC E fq50.n3 [a,c,d,f,g,i] s Q:=WC_loop (J:=fq50.n3_J a c I) m hm ⟨_,_,_,_,rfl,h0⟩ (fun m ρ s ⟨d,f,g,i,e,h⟩=>by rw [e]; exact step m d f g i s h)
theorem fq15.enter {k:Nat} {b:Option Nat} {K:AV→St→Prop} (h:WC ⟨prog,k,some s.heap.length⟩ fq15.n0 [a,c,.undef,.undef,.undef,.undef,.undef,.undef,.undef,.undef,.undef,.undef,.undef,.undef,.undef,.undef,.undef,.undef,.undef,.undef,.undef,.undef,.undef,.undef,.undef,.undef,.undef,.undef] { s with leak:=false } (RK s.heap.length s.leak fq15.res K)):VC ⟨prog,k + 1,b⟩ F_fq15 [a,c] s K:=VC_ra (P:=prog) (F':=fq15.fn) rfl fq15.ra fq15.ul rfl h
theorem fq15.ret {n:Nat} {lk:Bool} {K:AV→St→Prop}:RK n lk fq15.res K .ret [a,c,d,f,g,i,j,l,o,p,q,r,t,u,w,y,z,A,B,C,D,F,G,H,L,M,N,P] s=(K (leave n lk [⟨2,none,(some 1)⟩,⟨3,none,none⟩] [d,f] s).1 (leave n lk [⟨2,none,(some 1)⟩,⟨3,none,none⟩] [d,f] s).2):=by kernel_rfl
theorem fq15.n0_w:WC E fq15.n0 [a,c,d,f,g,i,j,l,o,p,q,r,t,u,w,y,z,A,B,C,D,F,G,H,L,M,N,P] s Q=(VC E F_fq7 [a,c] s fun v1 s2=>oM (evUn .not v1) fun v3=>cM v3 (WC E fq15.n1 [a,c,(.slice true 0 []),(.int .i64 0),g,i,j,l,o,p,v3,r,t,u,w,y,z,A,B,C,D,F,G,H,L,M,N,P] s2 (bK 0 (sK (WC E fq15.n4) Q))) (WC E fq15.n2 [a,c,(.slice true 0 []),(.int .i64 0),g,i,j,l,o,p,v3,r,t,u,w,y,z,A,B,C,D,F,G,H,L,M,N,P] s2 (bK 0 (sK (WC E fq15.n4) Q)))):=by kernel_rfl
theorem fq15.n1_w:WC E fq15.n1 [a,c,d,f,g,i,j,l,o,p,q,r,t,u,w,y,z,A,B,C,D,F,G,H,L,M,N,P] s Q=(Q .ret [a,c,(.slice true 0 []),(.int .i64 2),g,i,j,l,o,p,q,r,t,u,w,y,z,A,B,C,D,F,G,H,L,M,N,P] s):=by kernel_rfl
theorem fq15.n2_w:WC E fq15.n2 [a,c,d,f,g,i,j,l,o,p,q,r,t,u,w,y,z,A,B,C,D,F,G,H,L,M,N,P] s Q=(oM (vLen false c) fun v1=>oM (evBin .eql v1 (.int .i64 100)) fun v2=>cM v2 (WC E fq15.n3 [a,c,d,f,g,i,j,l,o,p,v2,r,t,u,w,y,z,A,B,C,D,F,G,H,L,M,N,P] s Q) (Q .normal [a,c,d,f,g,i,j,l,o,p,v2,r,t,u,w,y,z,A,B,C,D,F,G,H,L,M,N,P] s)):=by kernel_rfl
theorem fq15.n3_w:WC E fq15.n3 [a,c,d,f,g,i,j,l,o,p,q,r,t,u,w,y,z,A,B,C,D,F,G,H,L,M,N,P] s Q=(Q .ret [a,c,(.slice true 0 []),(.int .i64 6),g,i,j,l,o,p,q,r,t,u,w,y,z,A,B,C,D,F,G,H,L,M,N,P] s):=by kernel_rfl
theorem fq15.n4_w:WC E fq15.n4 [a,c,d,f,g,i,j,l,o,p,q,r,t,u,w,y,z,A,B,C,D,F,G,H,L,M,N,P] s Q=(oM (vLen false c) fun v1=>(sK (WC E (.block 1 fq15.n5)) (sK (WC E fq15.n14) Q)) .normal [a,c,d,f,g,i,j,(.int .i64 0),o,p,(.ptr s.heap.length 0 64),v1,t,u,w,y,z,A,B,C,D,F,G,H,L,M,N,P] (push s (.cells [(.int .i64 0),(.int .i64 0),(.int .i64 0),(.int .i64 0),(.int .i64 0),(.int .i64 0),(.int .i64 0),(.int .i64 0),(.int .i64 0),(.int .i64 0),(.int .i64 0),(.int .i64 0),(.int .i64 0),(.int .i64 0),(.int .i64 0),(.int .i64 0),(.int .i64 0),(.int .i64 0),(.int .i64 0),(.int .i64 0),(.int .i64 0),(.int .i64 0),(.int .i64 0),(.int .i64 0),(.int .i64 0),(.int .i64 0),(.int .i64 0),(.int .i64 0),(.int .i64 0),(.int .i64 0),(.int .i64 0),(.int .i64 0),(.int .i64 0),(.int .i64 0),(.int .i64 0),(.int .i64 0),(.int .i64 0),(.int .i64 0),(.int .i64 0),(.int .i64 0),(.int .i64 0),(.int .i64 0),(.int .i64 0),(.int .i64 0),(.int .i64 0),(.int .i64 0),(.int .i64 0),(.int .i64 0),(.int .i64 0),(.int .i64 0),(.int .i64 0),(.int .i64 0),(.int .i64 0),(.int .i64 0),(.int .i64 0),(.int .i64 0),(.int .i64 0),(.int .i64 0),(.int .i64 0),(.int .i64 0),(.int .i64 0),(.int .i64 0),(.int .i64 0),(.int .i64 0)]))):=by kernel_rfl
theorem fq15.n6_w:WC E fq15.n6 [a,c,d,f,g,i,j,l,o,p,q,r,t,u,w,y,z,A,B,C,D,F,G,H,L,M,N,P] s Q=(oM (evBin .lss l r) fun v1=>cM v1 ((sK (WC E fq15.n8) Q) .normal [a,c,d,f,g,i,j,l,o,p,q,r,v1,u,w,y,z,A,B,C,D,F,G,H,L,M,N,P] s) ((sK (WC E fq15.n8) Q) (.exit 1) [a,c,d,f,g,i,j,l,o,p,q,r,v1,u,w,y,z,A,B,C,D,F,G,H,L,M,N,P] s)):=by kernel_rfl
theorem fq15.n8_w:WC E fq15.n8 [a,c,d,f,g,i,j,l,o,p,q,r,t,u,w,y,z,A,B,C,D,F,G,H,L,M,N,P] s Q=(oM (vIaddr s.heap 1 none c l) fun v1=>oM (ld s.heap none v1) fun v2=>oM (vLen false v2) fun v3=>(sK (WC E (.block 3 fq15.n9)) (bK 2 (sK (WC E fq15.n13) Q))) .normal [a,c,d,f,g,i,j,l,(.int .i64 0),p,q,r,v2,v3,w,y,z,A,B,C,D,F,G,H,L,M,N,P] s):=by kernel_rfl
theorem fq15.n10_w:WC E fq15.n10 [a,c,d,f,g,i,j,l,o,p,q,r,t,u,w,y,z,A,B,C,D,F,G,H,L,M,N,P] s Q=(oM (evBin .lss o u) fun v1=>cM v1 ((sK (WC E fq15.n12) Q) .normal [a,c,d,f,g,i,j,l,o,p,q,r,t,u,v1,y,z,A,B,C,D,F,G,H,L,M,N,P] s) ((sK (WC E fq15.n12) Q) (.exit 3) [a,c,d,f,g,i,j,l,o,p,q,r,t,u,v1,y,z,A,B,C,D,F,G,H,L,M,N,P] s)):=by kernel_rfl
theorem fq15.n12_w:WC E fq15.n12 [a,c,d,f,g,i,j,l,o,p,q,r,t,u,w,y,z,A,B,C,D,F,G,H,L,M,N,P] s Q=(oM (vIaddr s.heap 1 none t o) fun v1=>oM (ld s.heap none v1) fun v2=>oM (vIaddr s.heap 8 (some 8) q o) fun v3=>oM (vIaddr s.heap 1 (some 8) v3 v2) fun v4=>oM (ld s.heap none v4) fun v5=>oM (evBin .add v5 (.int .i64 1)) fun v6=>oM (vIaddr s.heap 8 (some 8) q o) fun v7=>oM (vIaddr s.heap 1 (some 8) v7 v2) fun v8=>oM (eStore E.base s 1 v8 v6) fun s9=>oM (evBin .add o (.int .i64 1)) fun v10=>Q .normal [a,c,d,f,g,i,j,l,v10,p,q,r,t,u,v10,v6,v7,A,B,C,D,F,G,H,L,M,N,P] s9):=by kernel_rfl
theorem fq15.n13_w:WC E fq15.n13 [a,c,d,f,g,i,j,l,o,p,q,r,t,u,w,y,z,A,B,C,D,F,G,H,L,M,N,P] s Q=(oM (evBin .add l (.int .i64 1)) fun v1=>Q .normal [a,c,d,f,g,i,j,v1,o,p,q,r,v1,u,w,y,z,A,B,C,D,F,G,H,L,M,N,P] s):=by kernel_rfl
theorem fq15.n14_w:WC E fq15.n14 [a,c,d,f,g,i,j,l,o,p,q,r,t,u,w,y,z,A,B,C,D,F,G,H,L,M,N,P] s Q=(oM (eStore E.base ((push ((push s (.map (.mk false [(.int .u64)]) 0 []))) (.cells [.nilmap]))) 1 (.ptr ((push s (.map (.mk false [(.int .u64)]) 0 []))).heap.length 0 1) (.map s.heap.length)) fun s1=>oM (eStore E.base ((push s1 (.cells [.nilfn]))) 1 (.ptr s1.heap.length 0 1) (.fn F_fq16 [(.ptr ((push s (.map (.mk false [(.int .u64)]) 0 []))).heap.length 0 1),(.ptr s1.heap.length 0 1),q])) fun s2=>oM (evBin .shl (.int .u64 1) a) fun v3=>oM (evBin .sub v3 (.int .u64 1)) fun v4=>(sK (WC E (.block 5 fq15.n15)) (sK (WC E fq15.n26) Q)) .normal [a,(.ptr s1.heap.length 0 1),d,f,v4,(.sref s2.heap.length 0 0 0 1),j,l,o,(.int .i64 0),q,v4,t,u,w,y,z,A,B,C,D,F,G,H,L,M,N,P] (push s2 (.cells []))):=by kernel_rfl
theorem fq15.n16_w:WC E fq15.n16 [a,c,d,f,g,i,j,l,o,p,q,r,t,u,w,y,z,A,B,C,D,F,G,H,L,M,N,P] s Q=(oM (evBin .lss p a) fun v1=>cM v1 ((sK (WC E fq15.n18) Q) .normal [a,c,d,f,g,i,j,l,o,p,q,v1,t,u,w,y,z,A,B,C,D,F,G,H,L,M,N,P] s) ((sK (WC E fq15.n18) Q) (.exit 5) [a,c,d,f,g,i,j,l,o,p,q,v1,t,u,w,y,z,A,B,C,D,F,G,H,L,M,N,P] s)):=by kernel_rfl
theorem fq15.n18_w:WC E fq15.n18 [a,c,d,f,g,i,j,l,o,p,q,r,t,u,w,y,z,A,B,C,D,F,G,H,L,M,N,P] s Q=(oM (ld s.heap none c) fun v1=>VV E v1 [g,p] s fun v2 s3=>(sK (WC E (.block 7 fq15.n19)) (bK 6 (sK (WC E fq15.n25) Q))) .normal [a,c,d,f,g,i,g,l,o,p,q,v2,t,u,w,y,z,A,B,C,D,F,G,H,L,M,N,P] s3):=by kernel_rfl
theorem fq15.n20_w:WC E fq15.n20 [a,c,d,f,g,i,j,l,o,p,q,r,t,u,w,y,z,A,B,C,D,F,G,H,L,M,N,P] s Q=(oM (evBin .neq j (.int .u64 0)) fun v1=>cM v1 ((sK (WC E fq15.n22) Q) .normal [a,c,d,f,g,i,j,l,o,p,q,r,v1,u,w,y,z,A,B,C,D,F,G,H,L,M,N,P] s) ((sK (WC E fq15.n22) Q) (.exit 7) [a,c,d,f,g,i,j,l,o,p,q,r,v1,u,w,y,z,A,B,C,D,F,G,H,L,M,N,P] s)):=by kernel_rfl
theorem fq15.n22_w:WC E fq15.n22 [a,c,d,f,g,i,j,l,o,p,q,r,t,u,w,y,z,A,B,C,D,F,G,H,L,M,N,P] s Q=(VC E F_fq34 [j] s fun v1 s2=>oM (ld s2.heap none c) fun v3=>VC E F_fq37 [g,v1] s2 fun v4 s5=>oM (evBin .add p (.int .i64 1)) fun v6=>VV E v3 [v4,v6] s5 fun v7 s8=>oM (vIaddr s8.heap 8 (some 8) q p) fun v9=>oM (vIaddr s8.heap 1 (some 8) v9 v1) fun v10=>oM (ld s8.heap none v10) fun v11=>oM (evBin .add v7 v11) fun v12=>oM (evBin .eql v12 r) fun v13=>(chkRead E.base [a,c,d,f,g,i,j,l,o,p,q,r,v1,v3,g,v1,v4,p,v6,v7,p,v1,v9,v10,v11,v12,r,v13] ⟨(some 13),(.load none (.r 1)),none⟩ [s2.heap,s5.heap]=true)∧(chkRead E.base [a,c,d,f,g,i,j,l,o,p,q,r,v1,v3,g,v1,v4,p,v6,v7,p,v1,v9,v10,v11,v12,r,v13] ⟨(some 24),(.load none (.r 23)),none⟩ [s2.heap,s5.heap,s8.heap]=true)∧cM v13 (WC E fq15.n23 [a,c,d,f,g,i,j,l,o,p,q,r,v1,v3,g,v1,v4,p,v6,v7,p,v1,v9,v10,v11,v12,r,v13] s8 (bK 8 (sK (WC E fq15.n24) Q))) ((bK 8 (sK (WC E fq15.n24) Q)) .normal [a,c,d,f,g,i,j,l,o,p,q,r,v1,v3,g,v1,v4,p,v6,v7,p,v1,v9,v10,v11,v12,r,v13] s8)):=by kernel_rfl
theorem fq15.n23_w:WC E fq15.n23 [a,c,d,f,g,i,j,l,o,p,q,r,t,u,w,y,z,A,B,C,D,F,G,H,L,M,N,P] s Q=(oM (eLit s 1 [(.int .i64 0)] [(0,1,t)] false true) fun v1=>oM (eApp E.base (v1.2) 1 8 i v1.1) fun v3=>VC E F_fq37 [g,t] (v3.2) fun v5 s6=>Q (.exit 7) [a,c,d,f,v5,v3.1,j,l,o,p,q,v3.1,v5,u,w,y,z,A,B,C,D,F,G,H,L,M,N,P] s6):=by kernel_rfl
theorem fq15.n24_w:WC E fq15.n24 [a,c,d,f,g,i,j,l,o,p,q,r,t,u,w,y,z,A,B,C,D,F,G,H,L,M,N,P] s Q=(VC E F_fq34 [j] s fun v1 s2=>VC E F_fq37 [j,v1] s2 fun v3 s4=>Q .normal [a,c,d,f,g,i,v3,l,o,p,q,r,v3,u,w,y,z,A,B,C,D,F,G,H,L,M,N,P] s4):=by kernel_rfl
theorem fq15.n25_w:WC E fq15.n25 [a,c,d,f,g,i,j,l,o,p,q,r,t,u,w,y,z,A,B,C,D,F,G,H,L,M,N,P] s Q=(oM (evBin .add p (.int .i64 1)) fun v1=>Q .normal [a,c,d,f,g,i,j,l,o,v1,q,v1,t,u,w,y,z,A,B,C,D,F,G,H,L,M,N,P] s):=by kernel_rfl
theorem fq15.n26_w:WC E fq15.n26 [a,c,d,f,g,i,j,l,o,p,q,r,t,u,w,y,z,A,B,C,D,F,G,H,L,M,N,P] s Q=(Q .ret [a,c,i,(.int .i64 0),g,i,j,l,o,p,q,r,t,u,w,y,z,A,B,C,D,F,G,H,L,M,N,P] s):=by kernel_rfl
def fq15.n5_J (a c d f g i j p q r A B C D F G H L M N P:AV) (I:Nat→AV→St→Prop) (m:Nat) (ρ:Regs) (s:St):Prop:=∃ l o t u w y z:AV,ρ=[a,c,d,f,g,i,j,l,o,p,q,r,t,u,w,y,z,A,B,C,D,F,G,H,L,M,N,P]∧I m l s
theorem fq15.n5_go {I:Nat→AV→St→Prop} {m m':Nat} (hm:m' < m) (h:I m' l s):LK (fq15.n5_J a c d f g i j p q r A B C D F G H L M N P I) m Q .normal [a,c,d,f,g,i,j,l,o,p,q,r,t,u,w,y,z,A,B,C,D,F,G,H,L,M,N,P] s:=⟨m',hm,_,_,_,_,_,_,_,rfl,h⟩
theorem fq15.n5_l (I:Nat→AV→St→Prop) (m:Nat) (hm:m < E.k) (h0:I m l s) (step:∀ (m:Nat) (l o t u w y z:AV) (s:St),I m l s→WC E fq15.n6 [a,c,d,f,g,i,j,l,o,p,q,r,t,u,w,y,z,A,B,C,D,F,G,H,L,M,N,P] s (LK (fq15.n5_J a c d f g i j p q r A B C D F G H L M N P I) m Q)):WC E fq15.n5 [a,c,d,f,g,i,j,l,o,p,q,r,t,u,w,y,z,A,B,C,D,F,G,H,L,M,N,P] s Q:=WC_loop (J:=fq15.n5_J a c d f g i j p q r A B C D F G H L M N P I) m hm ⟨_,_,_,_,_,_,_,rfl,h0⟩ (fun m ρ s ⟨l,o,t,u,w,y,z,e,h⟩=>by rw [e]; exact step m l o t u w y z s h)
def fq15.n9_J (a c d f g i j l p q r t u A B C D F G H L M N P:AV) (I:Nat→AV→St→Prop) (m:Nat) (ρ:Regs) (s:St):Prop:=∃ o w y z:AV,ρ=[a,c,d,f,g,i,j,l,o,p,q,r,t,u,w,y,z,A,B,C,D,F,G,H,L,M,N,P]∧I m o s
theorem fq15.n9_go {I:Nat→AV→St→Prop} {m m':Nat} (hm:m' < m) (h:I m' o s):LK (fq15.n9_J a c d f g i j l p q r t u A B C D F G H L M N P I) m Q .normal [a,c,d,f,g,i,j,l,o,p,q,r,t,u,w,y,z,A,B,C,D,F,G,H,L,M,N,P] s:=⟨m',hm,_,_,_,_,rfl,h⟩
theorem fq15.n9_l (I:Nat→AV→St→Prop) (m:Nat) (hm:m < E.k) (h0:I m o s) (step:∀ (m:Nat) (o w y z:AV) (s:St),I m o s→WC E fq15.n10 [a,c,d,f,g,i,j,l,o,p,q,r,t,u,w,y,z,A,B,C,D,F,G,H,L,M,N,P] s (LK (fq15.n9_J a c d f g i j l p q r t u A B C D F G H L M N P I) m Q)):WC E fq15.n9 [a,c,d,f,g,i,j,l,o,p,q,r,t,u,w,y,z,A,B,C,D,F,G,H,L,M,N,P] s Q:=WC_loop (J:=fq15.n9_J a c d f g i j l p q r t u A B C D F G H L M N P I) m hm ⟨_,_,_,_,rfl,h0⟩ (fun m ρ s ⟨o,w,y,z,e,h⟩=>by rw [e]; exact step m o w y z s h)
def fq15.n15_J (a c d f l o q:AV) (I:Nat→AV→AV→AV→St→Prop) (m:Nat) (ρ:Regs) (s:St):Prop:=∃ g i j p r t u w y z A B C D F G H L M N P:AV,ρ=[a,c,d,f,g,i,j,l,o,p,q,r,t,u,w,y,z,A,B,C,D,F,G,H,L,M,N,P]∧I m g i p s
theorem fq15.n15_go {I:Nat→AV→AV→AV→St→Prop} {m m':Nat} (hm:m' < m) (h:I m' g i p s):LK (fq15.n15_J a c d f l o q I) m Q .normal [a,c,d,f,g,i,j,l,o,p,q,r,t,u,w,y,z,A,B,C,D,F,G,H,L,M,N,P] s:=⟨m',hm,_,_,_,_,_,_,_,_,_,_,_,_,_,_,_,_,_,_,_,_,_,rfl,h⟩
theorem fq15.n15_l (I:Nat→AV→AV→AV→St→Prop) (m:Nat) (hm:m < E.k) (h0:I m g i p s) (step:∀ (m:Nat) (g i j p r t u w y z A B C D F G H L M N P:AV) (s:St),I m g i p s→WC E fq15.n16 [a,c,d,f,g,i,j,l,o,p,q,r,t,u,w,y,z,A,B,C,D,F,G,H,L,M,N,P] s (LK (fq15.n15_J a c d f l o q I) m Q)):WC E fq15.n15 [a,c,d,f,g,i,j,l,o,p,q,r,t,u,w,y,z,A,B,C,D,F,G,H,L,M,N,P] s Q:=WC_loop (J:=fq15.n15_J a c d f l o q I) m hm ⟨_,_,_,_,_,_,_,_,_,_,_,_,_,_,_,_,_,_,_,_,_,rfl,h0⟩ (fun m ρ s ⟨g,i,j,p,r,t,u,w,y,z,A,B,C,D,F,G,H,L,M,N,P,e,h⟩=>by rw [e]; exact step m g i j p r t u w y z A B C D F G H L M N P s h)
def fq15.n19_J (a c d f l o p q:AV) (I:Nat→AV→AV→AV→AV→St→Prop) (m:Nat) (ρ:Regs) (s:St):Prop:=∃ g i j r t u w y z A B C D F G H L M N P:AV,ρ=[a,c,d,f,g,i,j,l,o,p,q,r,t,u,w,y,z,A,B,C,D,F,G,H,L,M,N,P]∧I m g i j r s
theorem fq15.n19_go {I:Nat→AV→AV→AV→AV→St→Prop} {m m':Nat} (hm:m' < m) (h:I m' g i j r s):LK (fq15.n19_J a c d f l o p q I) m Q .normal [a,c,d,f,g,i,j,l,o,p,q,r,t,u,w,y,z,A,B,C,D,F,G,H,L,M,N,P] s:=⟨m',hm,_,_,_,_,_,_,_,_,_,_,_,_,_,_,_,_,_,_,_,_,rfl,h⟩
theorem fq15.n19_l (I:Nat→AV→AV→AV→AV→St→Prop) (m:Nat) (hm:m < E.k) (h0:I m g i j r s) (step:∀ (m:Nat) (g i j r t u w y z A B C D F G H L M N P:AV) (s:St),I m g i j r s→WC E fq15.n20 [a,c,d,f,g,i,j,l,o,p,q,r,t,u,w,y,z,A,B,C,D,F,G,H,L,M,N,P] s (LK (fq15.n19_J a c d f l o p q I) m Q)):WC E fq15.n19 [a,c,d,f,g,i,j,l,o,p,q,r,t,u,w,y,z,A,B,C,D,F,G,H,L,M,N,P] s Q:=WC_loop (J:=fq15.n19_J a c d f l o p q I) m hm ⟨_,_,_,_,_,_,_,_,_,_,_,_,_,_,_,_,_,_,_,_,rfl,h0⟩ (fun m ρ s ⟨g,i,j,r,t,u,w,y,z,A,B,C,D,F,G,H,L,M,N,P,e,h⟩=>by rw [e]; exact step m g i j r t u w y z A B C D F G H L M N P s h)
theorem fq7.enter {k:Nat} {b:Option Nat} {K:AV→St→Prop} (h:WC ⟨prog,k,some s.heap.length⟩ fq7.n0 [a,c,.undef,.undef,.undef] { s with leak:=false } (RK s.heap.length s.leak fq7.res K)):VC ⟨prog,k + 1,b⟩ F_fq7 [a,c] s K:=VC_ra (P:=prog) (F':=fq7.fn) rfl fq7.ra fq7.ul rfl h
theorem fq7.ret {n:Nat} {lk:Bool} {K:AV→St→Prop}:RK n lk fq7.res K .ret [a,c,d,f,g] s=(K (leave n lk [⟨2,none,none⟩] [d] s).1 (leave n lk [⟨2,none,none⟩] [d] s).2):=by kernel_rfl
theorem fq7.n0_w:WC E fq7.n0 [a,c,d,f,g] s Q=(oM (eBox s 1 a) fun v1=>oM (ld (v1.2).heap none v1.1) fun v3=>VC E F_fq43 [v3,(.int .i64 1),(.int .i64 8)] (v1.2) fun v4 s5=>oM (evUn .not v4) fun v6=>gO v6 false s5 (fun k7=>k7 c s5) fun v8 s8=>gO v6 false s8 (fun k9=>oM (vLen false v8) fun v10=>k9 v10 s8) fun v11 s11=>gO v6 false s11 (fun k12=>oM (evBin .gtr v11 (.int .i64 100)) fun v13=>k12 v13 s11) fun v14 s14=>oM (vPick v6 (.bool true) v14) fun v15=>cM v15 (WC E fq7.n1 [v1.1,c,(.bool false),v15,v14] s14 (sK (WC E fq7.n2) Q)) ((sK (WC E fq7.n2) Q) .normal [v1.1,c,(.bool false),v15,v14] s14)):=by kernel_rfl
theorem fq7.n1_w:WC E fq7.n1 [a,c,d,f,g] s Q=(Q .ret [a,c,(.bool false),f,g] s):=by kernel_rfl
theorem fq7.n2_w:WC E fq7.n2 [a,c,d,f,g] s Q=(VC E F_fq60 [c,(.fn F_fq8 [a])] s fun v1 s2=>oM (evUn .not v1) fun v3=>Q .ret [v3,c,v3,f,g] s2):=by kernel_rfl
theorem fq11.enter {k:Nat} {b:Option Nat} {K:AV→St→Prop} (h:WC ⟨prog,k,some s.heap.length⟩ fq11.n0 [a,c,.undef,.undef,.undef,.undef,.undef,.undef,.undef] { s with leak:=false } (RK s.heap.length s.leak fq11.res K)):VC ⟨prog,k + 1,b⟩ F_fq11 [a,c] s K:=VC_ra (P:=prog) (F':=fq11.fn) rfl fq11.ra fq11.ul rfl h
theorem fq11.ret {n:Nat} {lk:Bool} {K:AV→St→Prop}:RK n lk fq11.res K .ret [a,c,d,f,g,i,j,l,o] s=(K (leave n lk [⟨2,none,(some 1)⟩,⟨3,none,none⟩] [d,f] s).1 (leave n lk [⟨2,none,(some 1)⟩,⟨3,none,none⟩] [d,f] s).2):=by kernel_rfl
theorem fq11.n0_w:WC E fq11.n0 [a,c,d,f,g,i,j,l,o] s Q=(oM (eBox s 6 a) fun v1=>oM (ld (v1.2).heap (some 6) v1.1) fun v3=>VC E F_fq29 [v3,c] (v1.2) fun v4 s5=>oM (vExt 0 v4) fun v6=>oM (vExt 1 v4) fun v7=>oM (evUn .not v7) fun v8=>cM v8 (WC E fq11.n1 [v1.1,c,(.slice true 0 []),(.int .i64 0),g,i,j,v8,v6] s5 (sK (WC E fq11.n2) Q)) ((sK (WC E fq11.n2) Q) .normal [v1.1,c,(.slice true 0 []),(.int .i64 0),g,i,j,v8,v6] s5)):=by kernel_rfl
theorem fq11.n1_w:WC E fq11.n1 [a,c,d,f,g,i,j,l,o] s Q=(Q .ret [a,c,(.slice true 0 []),(.int .i64 2),g,i,j,l,o] s):=by kernel_rfl
theorem fq11.n2_w:WC E fq11.n2 [a,c,d,f,g,i,j,l,o] s Q=(oM (vOff 0 a) fun v1=>oM (ld ((push s (.cells []))).heap none v1) fun v2=>oM (vLen false c) fun v3=>(sK (WC E (.block 0 fq11.n3)) (sK (WC E fq11.n7) Q)) .normal [v3,c,d,f,(.sref s.heap.length 0 0 0 1),v2,(.int .i64 0),l,o] (push s (.cells []))):=by kernel_rfl
theorem fq11.n4_w:WC E fq11.n4 [a,c,d,f,g,i,j,l,o] s Q=(oM (evBin .lss j a) fun v1=>cM v1 ((sK (WC E fq11.n6) Q) .normal [a,c,d,f,g,i,j,v1,o] s) ((sK (WC E fq11.n6) Q) (.exit 0) [a,c,d,f,g,i,j,v1,o] s)):=by kernel_rfl
theorem fq11.n6_w:WC E fq11.n6 [a,c,d,f,g,i,j,l,o] s Q=(oM (vIaddr s.heap 1 none c j) fun v1=>oM (ld s.heap none v1) fun v2=>VC E F_fq27 [o,j,i,v2] s fun v3 s4=>oM (eLit s4 1 [(.int .i64 0)] [(0,1,v3)] false true) fun v5=>oM (eApp E.base (v5.2) 1 8 g v5.1) fun v7=>oM (evBin .add j (.int .i64 1)) fun v9=>Q .normal [a,c,d,f,v7.1,v3,v9,v9,o] (v7.2)):=by kernel_rfl
theorem fq11.n7_w:WC E fq11.n7 [a,c,d,f,g,i,j,l,o] s Q=(Q .ret [a,c,g,(.int .i64 0),g,i,j,l,o] s):=by kernel_rfl
def fq11.n3_J (a c d f o:AV) (I:Nat→AV→AV→AV→St→Prop) (m:Nat) (ρ:Regs) (s:St):Prop:=∃ g i j l:AV,ρ=[a,c,d,f,g,i,j,l,o]∧I m g i j s
theorem fq11.n3_go {I:Nat→AV→AV→AV→St→Prop} {m m':Nat} (hm:m' < m) (h:I m' g i j s):LK (fq11.n3_J a c d f o I) m Q .normal [a,c,d,f,g,i,j,l,o] s:=⟨m',hm,_,_,_,_,rfl,h⟩
theorem fq11.n3_l (I:Nat→AV→AV→AV→St→Prop) (m:Nat) (hm:m < E.k) (h0:I m g i j s) (step:∀ (m:Nat) (g i j l:AV) (s:St),I m g i j s→WC E fq11.n4 [a,c,d,f,g,i,j,l,o] s (LK (fq11.n3_J a c d f o I) m Q)):WC E fq11.n3 [a,c,d,f,g,i,j,l,o] s Q:=WC_loop (J:=fq11.n3_J a c d f o I) m hm ⟨_,_,_,_,rfl,h0⟩ (fun m ρ s ⟨g,i,j,l,e,h⟩=>by rw [e]; exact step m g i j l s h)
theorem fq6.enter {k:Nat} {b:Option Nat} {K:AV→St→Prop} (h:WC ⟨prog,k,some s.heap.length⟩ fq6.n0 [a,.undef,.undef,.undef,.undef,.undef,.undef,.undef] { s with leak:=false } (RK s.heap.length s.leak fq6.res K)):VC ⟨prog,k + 1,b⟩ F_fq6 [a] s K:=VC_ra (P:=prog) (F':=fq6.fn) rfl fq6.ra fq6.ul rfl h
theorem fq6.ret {n:Nat} {lk:Bool} {K:AV→St→Prop}:RK n lk fq6.res K .ret [a,c,d,f,g,i,j,l] s=(K (leave n lk [⟨1,none,none⟩] [c] s).1 (leave n lk [⟨1,none,none⟩] [c] s).2):=by kernel_rfl
theorem fq6.n0_w:WC E fq6.n0 [a,c,d,f,g,i,j,l] s Q=(oM (eBox s 6 a) fun v1=>oM (vOff 5 v1.1) fun v3=>oM (ld (v1.2).heap none v3) fun v4=>oM (vLen false v4) fun v5=>(sK (WC E (.block 0 fq6.n1)) (sK (WC E fq6.n7) Q)) .normal [v1.1,(.bool false),(.int .i64 0),v4,v5,i,j,l] (v1.2)):=by kernel_rfl
theorem fq6.n2_w:WC E fq6.n2 [a,c,d,f,g,i,j,l] s Q=(oM (evBin .lss d g) fun v1=>cM v1 ((sK (WC E fq6.n4) Q) .normal [a,c,d,f,g,v1,j,l] s) ((sK (WC E fq6.n4) Q) (.exit 0) [a,c,d,f,g,v1,j,l] s)):=by kernel_rfl
theorem fq6.n4_w:WC E fq6.n4 [a,c,d,f,g,i,j,l] s Q=(oM (vIaddr s.heap 3 none f d) fun v1=>oM (ld s.heap (some 3) v1) fun v2=>oM (eStore E.base ((push s (.cells [(.int .i64 0),(.int .i64 0),(.int .i64 0)]))) 3 (.ptr s.heap.length 0 3) v2) fun s3=>oM (vOff 0 (.ptr s.heap.length 0 3)) fun v4=>oM (ld s3.heap none v4) fun v5=>oM (vOff 1 (.ptr s.heap.length 0 3)) fun v6=>oM (ld s3.heap none v6) fun v7=>oM (vOff 2 (.ptr s.heap.length 0 3)) fun v8=>oM (ld s3.heap none v8) fun v9=>oM (eLit s3 1 [(.int .i64 0),(.int .i64 0),(.int .i64 0)] [(0,1,v5),(1,1,v7),(2,1,v9)] false true) fun v10=>VC E F_fq20 [v10.1] (v10.2) fun v12 s13=>oM (evUn .not v12) fun v14=>cM v14 (WC E fq6.n5 [a,c,d,f,g,v14,v9,v7] s13 (bK 1 (sK (WC E fq6.n6) Q))) ((bK 1 (sK (WC E fq6.n6) Q)) .normal [a,c,d,f,g,v14,v9,v7] s13)):=by kernel_rfl
theorem fq6.n5_w:WC E fq6.n5 [a,c,d,f,g,i,j,l] s Q=(Q .ret [a,(.bool false),d,f,g,i,j,l] s):=by kernel_rfl
theorem fq6.n6_w:WC E fq6.n6 [a,c,d,f,g,i,j,l] s Q=(oM (evBin .add d (.int .i64 1)) fun v1=>Q .normal [a,c,v1,f,g,v1,j,l] s):=by kernel_rfl
theorem fq6.n7_w:WC E fq6.n7 [a,c,d,f,g,i,j,l] s Q=(oM (vOff 1 a) fun v1=>oM (ld s.heap none v1) fun v2=>VC E F_fq43 [v2,(.int .i64 (-1000000)),(.int .i64 1000000)] s fun v3 s4=>gO v3 true s4 (fun k5=>oM (vOff 2 a) fun v6=>k5 v6 s4) fun v7 s7=>gO v3 true s7 (fun k8=>oM (ld s7.heap none v7) fun v9=>k8 v9 s7) fun v10 s10=>gO v3 true s10 (fun k11=>oM (vOff 1 a) fun v12=>k11 v12 s10) fun v13 s13=>gO v3 true s13 (fun k14=>oM (ld s13.heap none v13) fun v15=>k14 v15 s13) fun v16 s16=>gO v3 true s16 (fun k17=>oM (vOff 1 a) fun v18=>k17 v18 s16) fun v19 s19=>gO v3 true s19 (fun k20=>oM (ld s19.heap none v19) fun v21=>k20 v21 s19) fun v22 s22=>gO v3 true s22 (fun k23=>oM (evBin .add v22 (.int .i64 1000)) fun v24=>k23 v24 s22) fun v25 s25=>gO v3 true s25 (fun k26=>VC E F_fq43 [v10,v16,v25] s25 fun v27 s28=>k26 v27 s28) fun v29 s29=>oM (vPick v3 v29 (.bool false)) fun v30=>gO v30 true s29 (fun k31=>oM (vOff 0 a) fun v32=>k31 v32 s29) fun v33 s33=>gO v30 true s33 (fun k34=>oM (ld s33.heap none v33) fun v35=>k34 v35 s33) fun v36 s36=>gO v30 true s36 (fun k37=>oM (vOff 1 a) fun v38=>k37 v38 s36) fun v39 s39=>gO v30 true s39 (fun k40=>oM (ld s39.heap none v39) fun v41=>k40 v41 s39) fun v42 s42=>gO v30 true s42 (fun k43=>oM (vOff 2 a) fun v44=>k43 v44 s42) fun v45 s45=>gO v30 true s45 (fun k46=>oM (ld s45.heap none v45) fun v47=>k46 v47 s45) fun v48 s48=>gO v30 true s48 (fun k49=>VC E F_fq43 [v36,v42,v48] s48 fun v50 s51=>k49 v50 s51) fun v52 s52=>oM (vPick v30 v52 (.bool false)) fun v53=>oM (vOff 3 a) fun v54=>oM (ld s52.heap none v54) fun v55=>oM (vLen false v55) fun v56=>oM (vOff 4 a) fun v57=>oM (ld s52.heap none v57) fun v58=>oM (vLen false v58) fun v59=>oM (evBin .eql v56 v59) fun v60=>gO v60 true s52 (fun k61=>oM (vOff 3 a) fun v62=>k61 v62 s52) fun v63 s63=>gO v60 true s63 (fun k64=>oM (ld s63.heap none v63) fun v65=>k64 v65 s63) fun v66 s66=>gO v60 true s66 (fun k67=>oM (vLen false v66) fun v68=>k67 v68 s66) fun v69 s69=>gO v60 true s69 (fun k70=>oM (evBin .leq v69 (.int .i64 48)) fun v71=>k70 v71 s69) fun v72 s72=>oM (vPick v60 v72 (.bool false)) fun v73=>gO v73 true s72 (fun k74=>oM (vOff 3 a) fun v75=>k74 v75 s72) fun v76 s76=>gO v73 true s76 (fun k77=>oM (ld s76.heap none v76) fun v78=>k77 v78 s76) fun v79 s79=>gO v73 true s79 (fun k80=>VC E F_fq20 [v79] s79 fun v81 s82=>k80 v81 s82) fun v83 s83=>oM (vPick v73 v83 (.bool false)) fun v84=>gO v84 true s83 (fun k85=>oM (vOff 4 a) fun v86=>k85 v86 s83) fun v87 s87=>gO v84 true s87 (fun k88=>oM (ld s87.heap none v87) fun v89=>k88 v89 s87) fun v90 s90=>gO v84 true s90 (fun k91=>VC E F_fq20 [v90] s90 fun v92 s93=>k91 v92 s93) fun v94 s94=>oM (vPick v84 v94 (.bool false)) fun v95=>gO v53 true s94 (fun k96=>k96 v95 s94) fun v97 s97=>oM (vPick v53 v97 (.bool false)) fun v98=>gO v98 true s97 (fun k99=>oM (vOff 5 a) fun v100=>k99 v100 s97) fun v101 s101=>gO v98 true s101 (fun k102=>oM (ld s101.heap none v101) fun v103=>k102 v103 s101) fun v104 s104=>gO v98 true s104 (fun k105=>oM (vLen false v104) fun v106=>k105 v106 s104) fun v107 s107=>gO v98 true s107 (fun k108=>oM (evBin .leq v107 (.int .i64 4)) fun v109=>k108 v109 s107) fun v110 s110=>oM (vPick v98 v110 (.bool false)) fun v111=>Q .ret [v111,v111,d,v98,v97,v94,v48,l] s110):=by kernel_rfl
def fq6.n1_J (a f g:AV) (I:Nat→AV→St→Prop) (m:Nat) (ρ:Regs) (s:St):Prop:=∃ c d i j l:AV,ρ=[a,c,d,f,g,i,j,l]∧I m d s
theorem fq6.n1_go {I:Nat→AV→St→Prop} {m m':Nat} (hm:m' < m) (h:I m' d s):LK (fq6.n1_J a f g I) m Q .normal [a,c,d,f,g,i,j,l] s:=⟨m',hm,_,_,_,_,_,rfl,h⟩
theorem fq6.n1_l (I:Nat→AV→St→Prop) (m:Nat) (hm:m < E.k) (h0:I m d s) (step:∀ (m:Nat) (c d i j l:AV) (s:St),I m d s→WC E fq6.n2 [a,c,d,f,g,i,j,l] s (LK (fq6.n1_J a f g I) m Q)):WC E fq6.n1 [a,c,d,f,g,i,j,l] s Q:=WC_loop (J:=fq6.n1_J a f g I) m hm ⟨_,_,_,_,_,rfl,h0⟩ (fun m ρ s ⟨c,d,i,j,l,e,h⟩=>by rw [e]; exact step m c d i j l s h)
theorem fq17.enter {k:Nat} {b:Option Nat} {K:AV→St→Prop} (h:WC ⟨prog,k,some s.heap.length⟩ fq17.n0 [a,c,.undef,.undef,.undef,.undef,.undef,.undef,.undef,.undef,.undef,.undef,.undef,.undef,.undef,.undef,.undef,.undef,.undef,.undef,.undef,.undef,.undef,.undef,.undef,.undef,.undef,.undef,.undef,.undef,.undef,.undef,.undef,.undef,.undef,.undef,.undef,.undef,.undef,.undef,.undef,.undef,.undef,.undef,.undef,.undef,.undef,.undef,.undef,.undef,.undef,.undef,.undef,.undef,.undef,.undef,.undef,.undef,.undef,.undef,.undef,.undef,.undef,.undef,.undef,.undef,.undef] { s with leak:=false } (RK s.heap.length s.leak fq17.res K)):VC ⟨prog,k + 1,b⟩ F_fq17 [a,c] s K:=VC_enter (P:=prog) (F:=fq17.fn) (congrArg (fun x=>some (AEntry.code x)) fq17.same) rfl h
theorem fq17.n0_w:WC E fq17.n0 [a,c,d,f,g,i,j,l,o,p,q,r,t,u,w,y,z,A,B,C,D,F,G,H,L,M,N,P,R,T,U,V,W,X,Y,Z,a0,a1,a2,a3,a4,a5,a6,a7,a8,a9,c0,c1,c2,c3,c4,c5,c6,c7,c8,c9,d0,d1,d2,d3,d4,d5,d6,d7,d8,d9,f0] s Q=(oM (eBox s 1 a) fun v1=>oM (eBox (v1.2) 1 c) fun v3=>oM (ld ((push ((push (v3.2) (.cells [(.slice true 0 [])]))) (.cells [(.int .i64 0)]))).heap none v1.1) fun v5=>oM (ld ((push ((push (v3.2) (.cells [(.slice true 0 [])]))) (.cells [(.int .i64 0)]))).heap none v3.1) fun v6=>VC E F_fq19 [v5,v6] ((push ((push (v3.2) (.cells [(.slice true 0 [])]))) (.cells [(.int .i64 0)]))) fun v7 s8=>oM (evBin .neq v7 (.int .i64 0)) fun v9=>cM v9 (WC E fq17.n1 [a,c,v1.1,v3.1,(.ptr (v3.2).heap.length 0 1),(.ptr ((push (v3.2) (.cells [(.slice true 0 [])]))).heap.length 0 1),v7,l,o,p,q,r,t,u,w,v5,v6,v7,v7,v9,D,F,G,H,L,M,N,P,R,T,U,V,W,X,Y,Z,a0,a1,a2,a3,a4,a5,a6,a7,a8,a9,c0,c1,c2,c3,c4,c5,c6,c7,c8,c9,d0,d1,d2,d3,d4,d5,d6,d7,d8,d9,f0] s8 (sK (WC E fq17.n2) Q)) ((sK (WC E fq17.n2) Q) .normal [a,c,v1.1,v3.1,(.ptr (v3.2).heap.length 0 1),(.ptr ((push (v3.2) (.cells [(.slice true 0 [])]))).heap.length 0 1),v7,l,o,p,q,r,t,u,w,v5,v6,v7,v7,v9,D,F,G,H,L,M,N,P,R,T,U,V,W,X,Y,Z,a0,a1,a2,a3,a4,a5,a6,a7,a8,a9,c0,c1,c2,c3,c4,c5,c6,c7,c8,c9,d0,d1,d2,d3,d4,d5,d6,d7,d8,d9,f0] s8)):=by kernel_rfl
theorem fq17.n2_w:WC E fq17.n2 [a,c,d,f,g,i,j,l,o,p,q,r,t,u,w,y,z,A,B,C,D,F,G,H,L,M,N,P,R,T,U,V,W,X,Y,Z,a0,a1,a2,a3,a4,a5,a6,a7,a8,a9,c0,c1,c2,c3,c4,c5,c6,c7,c8,c9,d0,d1,d2,d3,d4,d5,d6,d7,d8,d9,f0] s Q=(oM (ld s.heap none d) fun v1=>oM (vLen false v1) fun v2=>oM (eMksl s 1 8 [(.int .i64 0)] v2 v2) fun v3=>oM (eStore E.base ((push (v3.2) (.cells [(.slice true 0 [])]))) 1 (.ptr (v3.2).heap.length 0 1) v3.1) fun s5=>oM (fillA [(.slice true 0 []),.nilfn] [(1,1,(.fn F_fq18 [d]))]) fun v6=>oM (eStore E.base ((push s5 (.cells [(.slice true 0 []),.nilfn]))) 2 (.ptr s5.heap.length 0 2) (.agg v6)) fun s7=>oM (ld s7.heap none d) fun v8=>VC E F_fq41 [v8] s7 fun v9 s10=>(sK (WC E (.block 0 fq17.n3)) (sK (WC E fq17.n18) Q)) .normal [a,c,d,f,g,i,j,(.ptr (v3.2).heap.length 0 1),(.ptr s5.heap.length 0 2),p,q,r,t,u,w,y,z,A,B,C,D,v1,v2,v3.1,(.fn F_fq18 [d]),(.agg v6),v8,v9,R,T,U,V,W,X,Y,Z,a0,a1,a2,a3,a4,a5,a6,a7,a8,a9,c0,c1,c2,c3,c4,c5,c6,c7,c8,c9,d0,d1,d2,d3,d4,d5,d6,d7,d8,d9,f0] s10):=by kernel_rfl
theorem fq17.n4_w:WC E fq17.n4 [a,c,d,f,g,i,j,l,o,p,q,r,t,u,w,y,z,A,B,C,D,F,G,H,L,M,N,P,R,T,U,V,W,X,Y,Z,a0,a1,a2,a3,a4,a5,a6,a7,a8,a9,c0,c1,c2,c3,c4,c5,c6,c7,c8,c9,d0,d1,d2,d3,d4,d5,d6,d7,d8,d9,f0] s Q=(Q .normal [a,c,d,f,g,i,j,l,o,R,T,r,t,u,w,y,z,A,B,C,D,F,G,H,L,M,N,P,R,T,U,V,W,X,Y,Z,a0,a1,a2,a3,a4,a5,a6,a7,a8,a9,c0,c1,c2,c3,c4,c5,c6,c7,c8,c9,d0,d1,d2,d3,d4,d5,d6,d7,d8,d9,f0] s):=by kernel_rfl
theorem fq17.n5_w:WC E fq17.n5 [a,c,d,f,g,i,j,l,o,p,q,r,t,u,w,y,z,A,B,C,D,F,G,H,L,M,N,P,R,T,U,V,W,X,Y,Z,a0,a1,a2,a3,a4,a5,a6,a7,a8,a9,c0,c1,c2,c3,c4,c5,c6,c7,c8,c9,d0,d1,d2,d3,d4,d5,d6,d7,d8,d9,f0] s Q=(oM (vLen false q) fun v1=>(sK (WC E (.block 2 fq17.n6)) (sK (WC E fq17.n10) (bK 1 Q))) .normal [a,c,d,f,g,i,j,l,o,p,q,r,t,u,w,y,z,A,B,C,D,F,G,H,L,M,N,P,R,T,q,v1,(.int .i64 0),X,Y,Z,a0,a1,a2,a3,a4,a5,a6,a7,a8,a9,c0,c1,c2,c3,c4,c5,c6,c7,c8,c9,d0,d1,d2,d3,d4,d5,d6,d7,d8,d9,f0] s):=by kernel_rfl
theorem fq17.n7_w:WC E fq17.n7 [a,c,d,f,g,i,j,l,o,p,q,r,t,u,w,y,z,A,B,C,D,F,G,H,L,M,N,P,R,T,U,V,W,X,Y,Z,a0,a1,a2,a3,a4,a5,a6,a7,a8,a9,c0,c1,c2,c3,c4,c5,c6,c7,c8,c9,d0,d1,d2,d3,d4,d5,d6,d7,d8,d9,f0] s Q=(oM (evBin .lss W V) fun v1=>cM v1 ((sK (WC E fq17.n9) Q) .normal [a,c,d,f,g,i,j,l,o,p,q,r,t,u,w,y,z,A,B,C,D,F,G,H,L,M,N,P,R,T,U,V,W,v1,Y,Z,a0,a1,a2,a3,a4,a5,a6,a7,a8,a9,c0,c1,c2,c3,c4,c5,c6,c7,c8,c9,d0,d1,d2,d3,d4,d5,d6,d7,d8,d9,f0] s) ((sK (WC E fq17.n9) Q) (.exit 2) [a,c,d,f,g,i,j,l,o,p,q,r,t,u,w,y,z,A,B,C,D,F,G,H,L,M,N,P,R,T,U,V,W,v1,Y,Z,a0,a1,a2,a3,a4,a5,a6,a7,a8,a9,c0,c1,c2,c3,c4,c5,c6,c7,c8,c9,d0,d1,d2,d3,d4,d5,d6,d7,d8,d9,f0] s)):=by kernel_rfl
theorem fq17.n9_w:WC E fq17.n9 [a,c,d,f,g,i,j,l,o,p,q,r,t,u,w,y,z,A,B,C,D,F,G,H,L,M,N,P,R,T,U,V,W,X,Y,Z,a0,a1,a2,a3,a4,a5,a6,a7,a8,a9,c0,c1,c2,c3,c4,c5,c6,c7,c8,c9,d0,d1,d2,d3,d4,d5,d6,d7,d8,d9,f0] s Q=(oM (vIaddr s.heap 1 none U W) fun v1=>oM (ld s.heap none v1) fun v2=>VC E F_fq22 [o,v2] s fun v3 s4=>oM (evBin .add W (.int .i64 1)) fun v5=>Q .normal [a,c,d,f,g,i,j,l,o,p,q,r,v2,u,w,y,z,A,B,C,D,F,G,H,L,M,N,P,R,T,U,V,v5,X,v1,v2,v2,v3,v5,a3,a4,a5,a6,a7,a8,a9,c0,c1,c2,c3,c4,c5,c6,c7,c8,c9,d0,d1,d2,d3,d4,d5,d6,d7,d8,d9,f0] s4):=by kernel_rfl
theorem fq17.n10_w:WC E fq17.n10 [a,c,d,f,g,i,j,l,o,p,q,r,t,u,w,y,z,A,B,C,D,F,G,H,L,M,N,P,R,T,U,V,W,X,Y,Z,a0,a1,a2,a3,a4,a5,a6,a7,a8,a9,c0,c1,c2,c3,c4,c5,c6,c7,c8,c9,d0,d1,d2,d3,d4,d5,d6,d7,d8,d9,f0] s Q=((sK (WC E (.block 4 fq17.n11)) Q) .normal [a,c,d,f,g,i,j,l,o,p,q,r,t,(.int .i64 0),w,y,z,A,B,C,D,F,G,H,L,M,N,P,R,T,U,V,W,X,Y,Z,a0,a1,a2,a3,a4,a5,a6,a7,a8,a9,c0,c1,c2,c3,c4,c5,c6,c7,c8,c9,d0,d1,d2,d3,d4,d5,d6,d7,d8,d9,f0] s):=by kernel_rfl
theorem fq17.n12_w:WC E fq17.n12 [a,c,d,f,g,i,j,l,o,p,q,r,t,u,w,y,z,A,B,C,D,F,G,H,L,M,N,P,R,T,U,V,W,X,Y,Z,a0,a1,a2,a3,a4,a5,a6,a7,a8,a9,c0,c1,c2,c3,c4,c5,c6,c7,c8,c9,d0,d1,d2,d3,d4,d5,d6,d7,d8,d9,f0] s Q=(oM (ld s.heap none f) fun v1=>oM (evBin .lss u v1) fun v2=>gO v2 true s (fun k3=>oM (vOff 0 o) fun v4=>k3 v4 s) fun v5 s5=>gO v2 true s5 (fun k6=>oM (ld s5.heap none v5) fun v7=>k6 v7 s5) fun v8 s8=>gO v2 true s8 (fun k9=>oM (vLen false v8) fun v10=>k9 v10 s8) fun v11 s11=>gO v2 true s11 (fun k12=>oM (evBin .gtr v11 (.int .i64 0)) fun v13=>k12 v13 s11) fun v14 s14=>oM (vPick v2 v14 (.bool false)) fun v15=>cM v15 ((sK (WC E fq17.n14) Q) .normal [a,c,d,f,g,i,j,l,o,p,q,r,t,u,w,y,z,A,B,C,D,F,G,H,L,M,N,P,R,T,U,V,W,X,Y,Z,a0,a1,a2,u,v1,v2,v2,v5,v8,v11,v14,v15,c2,c3,c4,c5,c6,c7,c8,c9,d0,d1,d2,d3,d4,d5,d6,d7,d8,d9,f0] s14) ((sK (WC E fq17.n14) Q) (.exit 4) [a,c,d,f,g,i,j,l,o,p,q,r,t,u,w,y,z,A,B,C,D,F,G,H,L,M,N,P,R,T,U,V,W,X,Y,Z,a0,a1,a2,u,v1,v2,v2,v5,v8,v11,v14,v15,c2,c3,c4,c5,c6,c7,c8,c9,d0,d1,d2,d3,d4,d5,d6,d7,d8,d9,f0] s14)):=by kernel_rfl
theorem fq17.n14_w:WC E fq17.n14 [a,c,d,f,g,i,j,l,o,p,q,r,t,u,w,y,z,A,B,C,D,F,G,H,L,M,N,P,R,T,U,V,W,X,Y,Z,a0,a1,a2,a3,a4,a5,a6,a7,a8,a9,c0,c1,c2,c3,c4,c5,c6,c7,c8,c9,d0,d1,d2,d3,d4,d5,d6,d7,d8,d9,f0] s Q=(VC E F_fq23 [o] s fun v1 s2=>oM (ld s2.heap none d) fun v3=>oM (vIaddr s2.heap 3 none v3 v1) fun v4=>oM (vOff 2 v4) fun v5=>oM (ld s2.heap none v5) fun v6=>oM (evBin .leq v6 p) fun v7=>cM v7 (WC E fq17.n15 [a,c,d,f,g,i,j,l,o,p,q,r,t,u,v1,y,z,A,B,C,D,F,G,H,L,M,N,P,R,T,U,V,W,X,Y,Z,a0,a1,a2,a3,a4,a5,a6,a7,a8,a9,c0,c1,c2,c3,v1,v3,v1,v4,v5,v6,p,v7,d2,d3,d4,d5,d6,d7,d8,d9,f0] s2 (sK (WC E fq17.n16) (bK 5 (sK (WC E fq17.n17) Q)))) ((sK (WC E fq17.n16) (bK 5 (sK (WC E fq17.n17) Q))) .normal [a,c,d,f,g,i,j,l,o,p,q,r,t,u,v1,y,z,A,B,C,D,F,G,H,L,M,N,P,R,T,U,V,W,X,Y,Z,a0,a1,a2,a3,a4,a5,a6,a7,a8,a9,c0,c1,c2,c3,v1,v3,v1,v4,v5,v6,p,v7,d2,d3,d4,d5,d6,d7,d8,d9,f0] s2)):=by kernel_rfl
theorem fq17.n15_w:WC E fq17.n15 [a,c,d,f,g,i,j,l,o,p,q,r,t,u,w,y,z,A,B,C,D,F,G,H,L,M,N,P,R,T,U,V,W,X,Y,Z,a0,a1,a2,a3,a4,a5,a6,a7,a8,a9,c0,c1,c2,c3,c4,c5,c6,c7,c8,c9,d0,d1,d2,d3,d4,d5,d6,d7,d8,d9,f0] s Q=(oM (eStore E.base s 1 g (.slice true 0 [])) fun s1=>oM (eStore E.base s1 1 i (.int .i64 7)) fun s2=>Q .ret [a,c,d,f,g,i,j,l,o,p,q,r,t,u,w,y,z,A,B,C,D,F,G,H,L,M,N,P,R,T,U,V,W,X,Y,Z,a0,a1,a2,a3,a4,a5,a6,a7,a8,a9,c0,c1,c2,c3,c4,c5,c6,c7,c8,c9,d0,d1,d2,d3,d4,d5,d6,d7,d8,d9,f0] s2):=by kernel_rfl
theorem fq17.n16_w:WC E fq17.n16 [a,c,d,f,g,i,j,l,o,p,q,r,t,u,w,y,z,A,B,C,D,F,G,H,L,M,N,P,R,T,U,V,W,X,Y,Z,a0,a1,a2,a3,a4,a5,a6,a7,a8,a9,c0,c1,c2,c3,c4,c5,c6,c7,c8,c9,d0,d1,d2,d3,d4,d5,d6,d7,d8,d9,f0] s Q=(oM (ld s.heap none l) fun v1=>oM (vIaddr s.heap 1 none v1 w) fun v2=>oM (eStore E.base s 1 v2 p) fun s3=>Q .normal [a,c,d,f,g,i,j,l,o,p,q,r,t,u,w,y,z,A,B,C,D,F,G,H,L,M,N,P,R,T,U,V,W,X,Y,Z,a0,a1,a2,a3,a4,a5,a6,a7,a8,a9,c0,c1,c2,c3,c4,c5,c6,c7,c8,c9,d0,d1,v1,w,p,v2,d6,d7,d8,d9,f0] s3):=by kernel_rfl
theorem fq17.n17_w:WC E fq17.n17 [a,c,d,f,g,i,j,l,o,p,q,r,t,u,w,y,z,A,B,C,D,F,G,H,L,M,N,P,R,T,U,V,W,X,Y,Z,a0,a1,a2,a3,a4,a5,a6,a7,a8,a9,c0,c1,c2,c3,c4,c5,c6,c7,c8,c9,d0,d1,d2,d3,d4,d5,d6,d7,d8,d9,f0] s Q=(oM (evBin .add u (.int .i64 1)) fun v1=>Q .normal [a,c,d,f,g,i,j,l,o,p,q,r,t,v1,w,y,z,A,B,C,D,F,G,H,L,M,N,P,R,T,U,V,W,X,Y,Z,a0,a1,a2,a3,a4,a5,a6,a7,a8,a9,c0,c1,u,v1,c4,c5,c6,c7,c8,c9,d0,d1,d2,d3,d4,d5,d6,d7,d8,d9,f0] s):=by kernel_rfl
theorem fq17.n18_w:WC E fq17.n18 [a,c,d,f,g,i,j,l,o,p,q,r,t,u,w,y,z,A,B,C,D,F,G,H,L,M,N,P,R,T,U,V,W,X,Y,Z,a0,a1,a2,a3,a4,a5,a6,a7,a8,a9,c0,c1,c2,c3,c4,c5,c6,c7,c8,c9,d0,d1,d2,d3,d4,d5,d6,d7,d8,d9,f0] s Q=(oM (vOff 0 o) fun v1=>oM (ld s.heap none v1) fun v2=>oM (vLen false v2) fun v3=>oM (evBin .gtr v3 (.int .i64 0)) fun v4=>cM v4 (WC E fq17.n19 [a,c,d,f,g,i,j,l,o,p,q,r,t,u,w,y,z,A,B,C,D,F,G,H,L,M,N,P,R,T,U,V,W,X,Y,Z,a0,a1,a2,a3,a4,a5,a6,a7,a8,a9,c0,c1,c2,c3,c4,c5,c6,c7,c8,c9,d0,d1,d2,d3,d4,d5,v1,v2,v3,v4,f0] s (sK (WC E fq17.n20) Q)) ((sK (WC E fq17.n20) Q) .normal [a,c,d,f,g,i,j,l,o,p,q,r,t,u,w,y,z,A,B,C,D,F,G,H,L,M,N,P,R,T,U,V,W,X,Y,Z,a0,a1,a2,a3,a4,a5,a6,a7,a8,a9,c0,c1,c2,c3,c4,c5,c6,c7,c8,c9,d0,d1,d2,d3,d4,d5,v1,v2,v3,v4,f0] s)):=by kernel_rfl
theorem fq17.n20_w:WC E fq17.n20 [a,c,d,f,g,i,j,l,o,p,q,r,t,u,w,y,z,A,B,C,D,F,G,H,L,M,N,P,R,T,U,V,W,X,Y,Z,a0,a1,a2,a3,a4,a5,a6,a7,a8,a9,c0,c1,c2,c3,c4,c5,c6,c7,c8,c9,d0,d1,d2,d3,d4,d5,d6,d7,d8,d9,f0] s Q=(oM (ld s.heap none l) fun v1=>oM (eStore E.base s 1 g v1) fun s2=>oM (eStore E.base s2 1 i (.int .i64 0)) fun s3=>Q .ret [a,c,d,f,g,i,j,l,o,p,q,r,t,u,w,y,z,A,B,C,D,F,G,H,L,M,N,P,R,T,U,V,W,X,Y,Z,a0,a1,a2,a3,a4,a5,a6,a7,a8,a9,c0,c1,c2,c3,c4,c5,c6,c7,c8,c9,d0,d1,d2,d3,d4,d5,d6,d7,d8,d9,v1] s3):=by kernel_rfl
theorem fq10.enter {k:Nat} {b:Option Nat} {K:AV→St→Prop} (h:WC ⟨prog,k,some s.heap.length⟩ fq10.n0 [a,c,.undef,.undef,.undef,.undef,.undef,.undef,.undef,.undef,.undef,.undef,.undef] { s with leak:=false } (RK s.heap.length s.leak fq10.res K)):VC ⟨prog,k + 1,b⟩ F_fq10 [a,c] s K:=VC_ra (P:=prog) (F':=fq10.fn) rfl fq10.ra fq10.ul rfl h
theorem fq10.ret {n:Nat} {lk:Bool} {K:AV→St→Prop}:RK n lk fq10.res K .ret [a,c,d,f,g,i,j,l,o,p,q,r,t] s=(K (leave n lk [⟨2,none,none⟩,⟨3,none,none⟩,⟨4,none,none⟩] [d,f,g] s).1 (leave n lk [⟨2,none,none⟩,⟨3,none,none⟩,⟨4,none,none⟩] [d,f,g] s).2):=by kernel_rfl
theorem fq10.n0_w:WC E fq10.n0 [a,c,d,f,g,i,j,l,o,p,q,r,t] s Q=(VC E F_fq19 [a,c] s fun v1 s2=>oM (evBin .neq v1 (.int .i64 0)) fun v3=>cM v3 (WC E fq10.n1 [a,c,(.int .i64 0),(.int .i64 0),(.int .i64 0),i,j,l,o,v1,v3,r,t] s2 (sK (WC E fq10.n2) Q)) ((sK (WC E fq10.n2) Q) .normal [a,c,(.int .i64 0),(.int .i64 0),(.int .i64 0),i,j,l,o,v1,v3,r,t] s2)):=by kernel_rfl
theorem fq10.n2_w:WC E fq10.n2 [a,c,d,f,g,i,j,l,o,p,q,r,t] s Q=((sK (WC E (.block 0 fq10.n3)) (sK (WC E fq10.n21) Q)) .normal [a,c,d,f,g,i,j,(.int .i64 0),o,p,q,r,t] s):=by kernel_rfl
theorem fq10.n4_w:WC E fq10.n4 [a,c,d,f,g,i,j,l,o,p,q,r,t] s Q=(oM (evBin .lss l (.int .i64 500)) fun v1=>cM v1 ((sK (WC E fq10.n6) Q) .normal [a,c,d,f,g,i,j,l,o,v1,q,r,t] s) ((sK (WC E fq10.n6) Q) (.exit 0) [a,c,d,f,g,i,j,l,o,v1,q,r,t] s)):=by kernel_rfl
theorem fq10.n6_w:WC E fq10.n6 [a,c,d,f,g,i,j,l,o,p,q,r,t] s Q=(oM (vLen false a) fun v1=>(sK (WC E (.block 2 fq10.n7)) (sK (WC E fq10.n13) (bK 1 (sK (WC E fq10.n20) Q)))) .normal [a,c,d,f,g,i,j,l,(.int .i64 0),(.ptr s.heap.length 0 501),v1,r,t] (push s (.cells [(.int .i64 0),(.int .i64 0),(.int .i64 0),(.int .i64 0),(.int .i64 0),(.int .i64 0),(.int .i64 0),(.int .i64 0),(.int .i64 0),(.int .i64 0),(.int .i64 0),(.int .i64 0),(.int .i64 0),(.int .i64 0),(.int .i64 0),(.int .i64 0),(.int .i64 0),(.int .i64 0),(.int .i64 0),(.int .i64 0),(.int .i64 0),(.int .i64 0),(.int .i64 0),(.int .i64 0),(.int .i64 0),(.int .i64 0),(.int .i64 0),(.int .i64 0),(.int .i64 0),(.int .i64 0),(.int .i64 0),(.int .i64 0),(.int .i64 0),(.int .i64 0),(.int .i64 0),(.int .i64 0),(.int .i64 0),(.int .i64 0),(.int .i64 0),(.int .i64 0),(.int .i64 0),(.int .i64 0),(.int .i64 0),(.int .i64 0),(.int .i64 0),(.int .i64 0),(.int .i64 0),(.int .i64 0),(.int .i64 0),(.int .i64 0),(.int .i64 0),(.int .i64 0),(.int .i64 0),(.int .i64 0),(.int .i64 0),(.int .i64 0),(.int .i64 0),(.int .i64 0),(.int .i64 0),(.int .i64 0),(.int .i64 0),(.int .i64 0),(.int .i64 0),(.int .i64 0),(.int .i64 0),(.int .i64 0),(.int .i64 0),(.int .i64 0),(.int .i64 0),(.int .i64 0),(.int .i64 0),(.int .i64 0),(.int .i64 0),(.int .i64 0),(.int .i64 0),(.int .i64 0),(.int .i64 0),(.int .i64 0),(.int .i64 0),(.int .i64 0),(.int .i64 0),(.int .i64 0),(.int .i64 0),(.int .i64 0),(.int .i64 0),(.int .i64 0),(.int .i64 0),(.int .i64 0),(.int .i64 0),(.int .i64 0),(.int .i64 0),(.int .i64 0),(.int .i64 0),(.int .i64 0),(.int .i64 0),(.int .i64 0),(.int .i64 0),(.int .i64 0),(.int .i64 0),(.int .i64 0),(.int .i64 0),(.int .i64 0),(.int .i64 0),(.int .i64 0),(.int .i64 0),(.int .i64 0),(.int .i64 0),(.int .i64 0),(.int .i64 0),(.int .i64 0),(.int .i64 0),(.int .i64 0),(.int .i64 0),(.int .i64 0),(.int .i64 0),(.int .i64 0),(.int .i64 0),(.int .i64 0),(.int .i64 0),(.int .i64 0),(.int .i64 0),(.int .i64 0),(.int .i64 0),(.int .i64 0),(.int .i64 0),(.int .i64 0),(.int .i64 0),(.int .i64 0),(.int .i64 0),(.int .i64 0),(.int .i64 0),(.int .i64 0),(.int .i64 0),(.int .i64 0),(.int .i64 0),(.int .i64 0),(.int .i64 0),(.int .i64 0),(.int .i64 0),(.int .i64 0),(.int .i64 0),(.int .i64 0),(.int .i64 0),(.int .i64 0),(.int .i64 0),(.int .i64 0),(.int .i64 0),(.int .i64 0),(.int .i64 0),(.int .i64 0),(.int .i64 0),(.int .i64 0),(.int .i64 0),(.int .i64 0),(.int .i64 0),(.int .i64 0),(.int .i64 0),(.int .i64 0),(.int .i64 0),(.int .i64 0),(.int .i64 0),(.int .i64 0),(.int .i64 0),(.int .i64 0),(.int .i64 0),(.int .i64 0),(.int .i64 0),(.int .i64 0),(.int .i64 0),(.int .i64 0),(.int .i64 0),(.int .i64 0),(.int .i64 0),(.int .i64 0),(.int .i64 0),(.int .i64 0),(.int .i64 0),(.int .i64 0),(.int .i64 0),(.int .i64 0),(.int .i64 0),(.int .i64 0),(.int .i64 0),(.int .i64 0),(.int .i64 0),(.int .i64 0),(.int .i64 0),(.int .i64 0),(.int .i64 0),(.int .i64 0),(.int .i64 0),(.int .i64 0),(.int .i64 0),(.int .i64 0),(.int .i64 0),(.int .i64 0),(.int .i64 0),(.int .i64 0),(.int .i64 0),(.int .i64 0),(.int .i64 0),(.int .i64 0),(.int .i64 0),(.int .i64 0),(.int .i64 0),(.int .i64 0),(.int .i64 0),(.int .i64 0),(.int .i64 0),(.int .i64 0),(.int .i64 0),(.int .i64 0),(.int .i64 0),(.int .i64 0),(.int .i64 0),(.int .i64 0),(.int .i64 0),(.int .i64 0),(.int .i64 0),(.int .i64 0),(.int .i64 0),(.int .i64 0),(.int .i64 0),(.int .i64 0),(.int .i64 0),(.int .i64 0),(.int .i64 0),(.int .i64 0),(.int .i64 0),(.int .i64 0),(.int .i64 0),(.int .i64 0),(.int .i64 0),(.int .i64 0),(.int .i64 0),(.int .i64 0),(.int .i64 0),(.int .i64 0),(.int .i64 0),(.int .i64 0),(.int .i64 0),(.int .i64 0),(.int .i64 0),(.int .i64 0),(.int .i64 0),(.int .i64 0),(.int .i64 0),(.int .i64 0),(.int .i64 0),(.int .i64 0),(.int .i64 0),(.int .i64 0),(.int .i64 0),(.int .i64 0),(.int .i64 0),(.int .i64 0),(.int .i64 0),(.int .i64 0),(.int .i64 0),(.int .i64 0),(.int .i64 0),(.int .i64 0),(.int .i64 0),(.int .i64 0),(.int .i64 0),(.int .i64 0),(.int .i64 0),(.int .i64 0),(.int .i64 0),(.int .i64 0),(.int .i64 0),(.int .i64 0),(.int .i64 0),(.int .i64 0),(.int .i64 0),(.int .i64 0),(.int .i64 0),(.int .i64 0),(.int .i64 0),(.int .i64 0),(.int .i64 0),(.int .i64 0),(.int .i64 0),(.int .i64 0),(.int .i64 0),(.int .i64 0),(.int .i64 0),(.int .i64 0),(.int .i64 0),(.int .i64 0),(.int .i64 0),(.int .i64 0),(.int .i64 0),(.int .i64 0),(.int .i64 0),(.int .i64 0),(.int .i64 0),(.int .i64 0),(.int .i64 0),(.int .i64 0),(.int .i64 0),(.int .i64 0),(.int .i64 0),(.int .i64 0),(.int .i64 0),(.int .i64 0),(.int .i64 0),(.int .i64 0),(.int .i64 0),(.int .i64 0),(.int .i64 0),(.int .i64 0),(.int .i64 0),(.int .i64 0),(.int .i64 0),(.int .i64 0),(.int .i64 0),(.int .i64 0),(.int .i64 0),(.int .i64 0),(.int .i64 0),(.int .i64 0),(.int .i64 0),(.int .i64 0),(.int .i64 0),(.int .i64 0),(.int .i64 0),(.int .i64 0),(.int .i64 0),(.int .i64 0),(.int .i64 0),(.int .i64 0),(.int .i64 0),(.int .i64 0),(.int .i64 0),(.int .i64 0),(.int .i64 0),(.int .i64 0),(.int .i64 0),(.int .i64 0),(.int .i64 0),(.int .i64 0),(.int .i64 0),(.int .i64 0),(.int .i64 0),(.int .i64 0),(.int .i64 0),(.int .i64 0),(.int .i64 0),(.int .i64 0),(.int .i64 0),(.int .i64 0),(.int .i64 0),(.int .i64 0),(.int .i64 0),(.int .i64 0),(.int .i64 0),(.int .i64 0),(.int .i64 0),(.int .i64 0),(.int .i64 0),(.int .i64 0),(.int .i64 0),(.int .i64 0),(.int .i64 0),(.int .i64 0),(.int .i64 0),(.int .i64 0),(.int .i64 0),(.int .i64 0),(.int .i64 0),(.int .i64 0),(.int .i64 0),(.int .i64 0),(.int .i64 0),(.int .i64 0),(.int .i64 0),(.int .i64 0),(.int .i64 0),(.int .i64 0),(.int .i64 0),(.int .i64 0),(.int .i64 0),(.int .i64 0),(.int .i64 0),(.int .i64 0),(.int .i64 0),(.int .i64 0),(.int .i64 0),(.int .i64 0),(.int .i64 0),(.int .i64 0),(.int .i64 0),(.int .i64 0),(.int .i64 0),(.int .i64 0),(.int .i64 0),(.int .i64 0),(.int .i64 0),(.int .i64 0),(.int .i64 0),(.int .i64 0),(.int .i64 0),(.int .i64 0),(.int .i64 0),(.int .i64 0),(.int .i64 0),(.int .i64 0),(.int .i64 0),(.int .i64 0),(.int .i64 0),(.int .i64 0),(.int .i64 0),(.int .i64 0),(.int .i64 0),(.int .i64 0),(.int .i64 0),(.int .i64 0),(.int .i64 0),(.int .i64 0),(.int .i64 0),(.int .i64 0),(.int .i64 0),(.int .i64 0),(.int .i64 0),(.int .i64 0),(.int .i64 0),(.int .i64 0),(.int .i64 0),(.int .i64 0),(.int .i64 0),(.int .i64 0),(.int .i64 0),(.int .i64 0),(.int .i64 0),(.int .i64 0),(.int .i64 0),(.int .i64 0),(.int .i64 0),(.int .i64 0),(.int .i64 0),(.int .i64 0),(.int .i64 0),(.int .i64 0),(.int .i64 0),(.int .i64 0),(.int .i64 0),(.int .i64 0),(.int .i64 0),(.int .i64 0),(.int .i64 0),(.int .i64 0),(.int .i64 0),(.int .i64 0),(.int .i64 0),(.int .i64 0),(.int .i64 0),(.int .i64 0),(.int .i64 0),(.int .i64 0),(.int .i64 0),(.int .i64 0),(.int .i64 0),(.int .i64 0),(.int .i64 0),(.int .i64 0),(.int .i64 0),(.int .i64 0),(.int .i64 0),(.int .i64 0),(.int .i64 0),(.int .i64 0),(.int .i64 0),(.int .i64 0),(.int .i64 0),(.int .i64 0),(.int .i64 0),(.int .i64 0),(.int .i64 0),(.int .i64 0),(.int .i64 0),(.int .i64 0),(.int .i64 0),(.int .i64 0),(.int .i64 0),(.int .i64 0),(.int .i64 0),(.int .i64 0),(.int .i64 0),(.int .i64 0),(.int .i64 0),(.int .i64 0),(.int .i64 0),(.int .i64 0),(.int .i64 0),(.int .i64 0),(.int .i64 0),(.int .i64 0),(.int .i64 0),(.int .i64 0),(.int .i64 0)]))):=by kernel_rfl
theorem fq10.n8_w:WC E fq10.n8 [a,c,d,f,g,i,j,l,o,p,q,r,t] s Q=(oM (evBin .lss o q) fun v1=>cM v1 ((sK (WC E fq10.n10) Q) .normal [a,c,d,f,g,i,j,l,o,p,q,v1,t] s) ((sK (WC E fq10.n10) Q) (.exit 2) [a,c,d,f,g,i,j,l,o,p,q,v1,t] s)):=by kernel_rfl
theorem fq10.n9_w:WC E fq10.n9 [a,c,d,f,g,i,j,l,o,p,q,r,t] s Q=(Q (.exit 2) [a,c,d,f,g,i,j,l,o,p,q,r,t] s):=by kernel_rfl
theorem fq10.n10_w:WC E fq10.n10 [a,c,d,f,g,i,j,l,o,p,q,r,t] s Q=(oM (vIaddr s.heap 3 none a o) fun v1=>oM (ld s.heap (some 3) v1) fun v2=>oM (eStore E.base ((push s (.cells [(.int .i64 0),(.int .i64 0),(.int .i64 0)]))) 3 (.ptr s.heap.length 0 3) v2) fun s3=>oM (vOff 1 (.ptr s.heap.length 0 3)) fun v4=>oM (ld s3.heap none v4) fun v5=>oM (evBin .geq v5 l) fun v6=>cM v6 (WC E fq10.n11 [a,c,d,f,g,i,j,l,o,p,q,v6,(.ptr s.heap.length 0 3)] s3 (bK 3 (sK (WC E fq10.n12) Q))) ((bK 3 (sK (WC E fq10.n12) Q)) .normal [a,c,d,f,g,i,j,l,o,p,q,v6,(.ptr s.heap.length 0 3)] s3)):=by kernel_rfl
theorem fq10.n11_w:WC E fq10.n11 [a,c,d,f,g,i,j,l,o,p,q,r,t] s Q=(oM (vOff 2 t) fun v1=>oM (ld s.heap none v1) fun v2=>oM (vIaddr s.heap 1 (some 501) p v2) fun v3=>oM (ld s.heap none v3) fun v4=>oM (evBin .add v4 (.int .i64 1)) fun v5=>oM (vIaddr s.heap 1 (some 501) p v2) fun v6=>oM (eStore E.base s 1 v6 v5) fun s7=>Q .normal [a,c,d,f,g,i,j,l,o,p,q,v6,v5] s7):=by kernel_rfl
theorem fq10.n12_w:WC E fq10.n12 [a,c,d,f,g,i,j,l,o,p,q,r,t] s Q=(oM (evBin .add o (.int .i64 1)) fun v1=>Q .normal [a,c,d,f,g,i,j,l,v1,p,q,v1,t] s):=by kernel_rfl
theorem fq10.n13_w:WC E fq10.n13 [a,c,d,f,g,i,j,l,o,p,q,r,t] s Q=(oM (evBin .add l (.int .i64 1)) fun v1=>(sK (WC E (.block 4 fq10.n14)) Q) .normal [a,c,d,f,g,(.int .i64 0),v1,l,o,p,v1,r,t] s):=by kernel_rfl
theorem fq10.n15_w:WC E fq10.n15 [a,c,d,f,g,i,j,l,o,p,q,r,t] s Q=(oM (evBin .leq j (.int .i64 500)) fun v1=>cM v1 ((sK (WC E fq10.n17) Q) .normal [a,c,d,f,g,i,j,l,o,p,v1,r,t] s) ((sK (WC E fq10.n17) Q) (.exit 4) [a,c,d,f,g,i,j,l,o,p,v1,r,t] s)):=by kernel_rfl
theorem fq10.n17_w:WC E fq10.n17 [a,c,d,f,g,i,j,l,o,p,q,r,t] s Q=(oM (vIaddr s.heap 1 (some 501) p j) fun v1=>oM (ld s.heap none v1) fun v2=>oM (evBin .add i v2) fun v3=>oM (evBin .sub j l) fun v4=>oM (evBin .mul v4 c) fun v5=>oM (evBin .gtr v3 v5) fun v6=>cM v6 (WC E fq10.n18 [a,c,d,f,g,v3,j,l,o,p,v6,r,t] s (bK 5 (sK (WC E fq10.n19) Q))) ((bK 5 (sK (WC E fq10.n19) Q)) .normal [a,c,d,f,g,v3,j,l,o,p,v6,r,t] s)):=by kernel_rfl
theorem fq10.n18_w:WC E fq10.n18 [a,c,d,f,g,i,j,l,o,p,q,r,t] s Q=(Q .ret [a,c,l,j,(.int .i64 0),i,j,l,o,p,q,r,t] s):=by kernel_rfl
theorem fq24.enter {k:Nat} {b:Option Nat} {K:AV→St→Prop} (h:WC ⟨prog,k,some s.heap.length⟩ fq24.n0 [a,.undef,.undef,.undef,.undef,.undef,.undef,.undef,.undef,.undef,.undef,.undef,.undef,.undef,.undef,.undef,.undef,.undef,.undef,.undef,.undef,.undef,.undef,.undef,.undef,.undef,.undef,.undef,.undef] { s with leak:=false } (RK s.heap.length s.leak fq24.res K)):VC ⟨prog,k + 1,b⟩ F_fq24 [a] s K:=VC_ra (P:=prog) (F':=fq24.fn) rfl fq24.ra fq24.ul rfl h
theorem fq24.ret {n:Nat} {lk:Bool} {K:AV→St→Prop}:RK n lk fq24.res K .ret [a,c,d,f,g,i,j,l,o,p,q,r,t,u,w,y,z,A,B,C,D,F,G,H,L,M,N,P,R] s=(K (leave n lk [⟨1,none,none⟩,⟨2,none,none⟩] [c,d] s).1 (leave n lk [⟨1,none,none⟩,⟨2,none,none⟩] [c,d] s).2):=by kernel_rfl
theorem fq24.n0_w:WC E fq24.n0 [a,c,d,f,g,i,j,l,o,p,q,r,t,u,w,y,z,A,B,C,D,F,G,H,L,M,N,P,R] s Q=(oM (eBox s 6 a) fun v1=>oM (ld (v1.2).heap (some 6) v1.1) fun v3=>VC E F_fq6 [v3] (v1.2) fun v4 s5=>oM (evUn .not v4) fun v6=>cM v6 (WC E fq24.n1 [v1.1,.nilptr,(.bool false),f,g,i,j,v6,o,p,q,r,t,u,w,y,z,A,B,C,D,F,G,H,L,M,N,P,R] s5 (sK (WC E fq24.n2) Q)) ((sK (WC E fq24.n2) Q) .normal [v1.1,.nilptr,(.bool false),f,g,i,j,v6,o,p,q,r,t,u,w,y,z,A,B,C,D,F,G,H,L,M,N,P,R] s5)):=by kernel_rfl
theorem fq24.n1_w:WC E fq24.n1 [a,c,d,f,g,i,j,l,o,p,q,r,t,u,w,y,z,A,B,C,D,F,G,H,L,M,N,P,R] s Q=(Q .ret [a,.nilptr,(.bool false),f,g,i,j,l,o,p,q,r,t,u,w,y,z,A,B,C,D,F,G,H,L,M,N,P,R] s):=by kernel_rfl
theorem fq24.n2_w:WC E fq24.n2 [a,c,d,f,g,i,j,l,o,p,q,r,t,u,w,y,z,A,B,C,D,F,G,H,L,M,N,P,R] s Q=(oM (ld s.heap (some 6) a) fun v1=>oM (fillA [(.int .i64 0),(.int .i64 0),(.int .i64 0),(.slice true 0 []),(.slice true 0 []),(.slice true 0 []),(.slice true 0 []),(.slice true 0 [])] [(0,6,v1)]) fun v2=>oM (eBox s 8 (.agg v2)) fun v3=>oM (vOff 5 a) fun v5=>oM (ld (v3.2).heap none v5) fun v6=>oM (vLen false v6) fun v7=>oM (evBin .shl (.int .u64 1) v7) fun v8=>(sK (WC E (.block 0 fq24.n3)) (sK (WC E fq24.n15) Q)) .normal [a,c,d,f,g,(.int .u64 0),j,v3.1,v8,p,q,r,t,u,w,y,z,A,B,C,D,F,G,H,L,M,N,P,R] (v3.2)):=by kernel_rfl
theorem fq24.n4_w:WC E fq24.n4 [a,c,d,f,g,i,j,l,o,p,q,r,t,u,w,y,z,A,B,C,D,F,G,H,L,M,N,P,R] s Q=(oM (evBin .lss i o) fun v1=>cM v1 ((sK (WC E fq24.n6) Q) .normal [a,c,d,f,g,i,j,l,o,v1,q,r,t,u,w,y,z,A,B,C,D,F,G,H,L,M,N,P,R] s) ((sK (WC E fq24.n6) Q) (.exit 0) [a,c,d,f,g,i,j,l,o,v1,q,r,t,u,w,y,z,A,B,C,D,F,G,H,L,M,N,P,R] s)):=by kernel_rfl
theorem fq24.n6_w:WC E fq24.n6 [a,c,d,f,g,i,j,l,o,p,q,r,t,u,w,y,z,A,B,C,D,F,G,H,L,M,N,P,R] s Q=(oM (vOff 5 a) fun v1=>oM (ld s.heap none v1) fun v2=>oM (vLen false v2) fun v3=>(sK (WC E (.block 2 fq24.n7)) (sK (WC E fq24.n13) (bK 1 (sK (WC E fq24.n14) Q)))) .normal [a,c,d,(.int .i64 0),(.int .i64 0),i,(.int .i64 0),l,o,v2,v3,r,t,u,w,y,z,A,B,C,D,F,G,H,L,M,N,P,R] s):=by kernel_rfl
theorem fq24.n8_w:WC E fq24.n8 [a,c,d,f,g,i,j,l,o,p,q,r,t,u,w,y,z,A,B,C,D,F,G,H,L,M,N,P,R] s Q=(oM (evBin .lss j q) fun v1=>cM v1 ((sK (WC E fq24.n10) Q) .normal [a,c,d,f,g,i,j,l,o,p,q,v1,t,u,w,y,z,A,B,C,D,F,G,H,L,M,N,P,R] s) ((sK (WC E fq24.n10) Q) (.exit 2) [a,c,d,f,g,i,j,l,o,p,q,v1,t,u,w,y,z,A,B,C,D,F,G,H,L,M,N,P,R] s)):=by kernel_rfl
theorem fq24.n10_w:WC E fq24.n10 [a,c,d,f,g,i,j,l,o,p,q,r,t,u,w,y,z,A,B,C,D,F,G,H,L,M,N,P,R] s Q=(oM (vIaddr s.heap 3 none p j) fun v1=>oM (ld s.heap (some 3) v1) fun v2=>oM (eStore E.base ((push s (.cells [(.int .i64 0),(.int .i64 0),(.int .i64 0)]))) 3 (.ptr s.heap.length 0 3) v2) fun s3=>VC E F_fq32 [i,j] s3 fun v4 s5=>cM v4 (WC E fq24.n11 [a,c,d,f,g,i,j,l,o,p,q,v4,(.ptr s.heap.length 0 3),u,w,y,z,A,B,C,D,F,G,H,L,M,N,P,R] s5 (bK 3 (sK (WC E fq24.n12) Q))) ((bK 3 (sK (WC E fq24.n12) Q)) .normal [a,c,d,f,g,i,j,l,o,p,q,v4,(.ptr s.heap.length 0 3),u,w,y,z,A,B,C,D,F,G,H,L,M,N,P,R] s5)):=by kernel_rfl
theorem fq24.n11_w:WC E fq24.n11 [a,c,d,f,g,i,j,l,o,p,q,r,t,u,w,y,z,A,B,C,D,F,G,H,L,M,N,P,R] s Q=(oM (vOff 0 t) fun v1=>oM (ld s.heap none v1) fun v2=>oM (evBin .add f v2) fun v3=>oM (vOff 1 t) fun v4=>oM (ld s.heap none v4) fun v5=>oM (evBin .add g v5) fun v6=>Q .normal [a,c,d,v3,v6,i,j,l,o,p,q,v3,v6,u,w,y,z,A,B,C,D,F,G,H,L,M,N,P,R] s):=by kernel_rfl
theorem fq24.n12_w:WC E fq24.n12 [a,c,d,f,g,i,j,l,o,p,q,r,t,u,w,y,z,A,B,C,D,F,G,H,L,M,N,P,R] s Q=(oM (evBin .add j (.int .i64 1)) fun v1=>Q .normal [a,c,d,f,g,i,v1,l,o,p,q,v1,t,u,w,y,z,A,B,C,D,F,G,H,L,M,N,P,R] s):=by kernel_rfl
theorem fq24.n13_w:WC E fq24.n13 [a,c,d,f,g,i,j,l,o,p,q,r,t,u,w,y,z,A,B,C,D,F,G,H,L,M,N,P,R] s Q=(oM (vChk l) fun v1=>oM (vOff 6 v1) fun v2=>oM (ld s.heap none v2) fun v3=>oM (eLit s 1 [(.int .i64 0)] [(0,1,f)] false false) fun v4=>oM (eApp E.base (v4.2) 1 8 v3 v4.1) fun v6=>oM (vChk l) fun v8=>oM (vOff 7 v8) fun v9=>oM (ld (v6.2).heap none v9) fun v10=>oM (eLit (v6.2) 1 [(.int .i64 0)] [(0,1,g)] false false) fun v11=>oM (eApp E.base (v11.2) 1 8 v10 v11.1) fun v13=>oM (vChk l) fun v15=>oM (vOff 6 v15) fun v16=>oM (eStore E.base (v13.2) 1 v16 v6.1) fun s17=>oM (vChk l) fun v18=>oM (vOff 7 v18) fun v19=>oM (eStore E.base s17 1 v19 v13.1) fun s20=>(chkRead E.base [a,c,d,f,g,i,j,l,o,l,l,l,v1,v2,v3,f,v4.1,v6.1,l,v8,v9,v10,g,v11.1,v13.1,v15,v16,v18,v19] ⟨(some 21),(.load none (.r 20)),none⟩ [s.heap,(v6.2).heap]=true)∧Q .normal [a,c,d,f,g,i,j,l,o,l,l,l,v1,v2,v3,f,v4.1,v6.1,l,v8,v9,v10,g,v11.1,v13.1,v15,v16,v18,v19] s20):=by kernel_rfl
theorem fq24.n14_w:WC E fq24.n14 [a,c,d,f,g,i,j,l,o,p,q,r,t,u,w,y,z,A,B,C,D,F,G,H,L,M,N,P,R] s Q=(oM (evBin .add i (.int .u64 1)) fun v1=>Q .normal [a,c,d,f,g,v1,j,l,o,v1,q,r,t,u,w,y,z,A,B,C,D,F,G,H,L,M,N,P,R] s):=by kernel_rfl
theorem fq24.n15_w:WC E fq24.n15 [a,c,d,f,g,i,j,l,o,p,q,r,t,u,w,y,z,A,B,C,D,F,G,H,L,M,N,P,R] s Q=(Q .ret [a,l,(.bool true),f,g,i,j,l,o,p,q,r,t,u,w,y,z,A,B,C,D,F,G,H,L,M,N,P,R] s):=by kernel_rfl
def fq24.n3_J (a c d l o:AV) (I:Nat→AV→St→Prop) (m:Nat) (ρ:Regs) (s:St):Prop:=∃ f g i j p q r t u w y z A B C D F G H L M N P R:AV,ρ=[a,c,d,f,g,i,j,l,o,p,q,r,t,u,w,y,z,A,B,C,D,F,G,H,L,M,N,P,R]∧I m i s
theorem fq24.n3_go {I:Nat→AV→St→Prop} {m m':Nat} (hm:m' < m) (h:I m' i s):LK (fq24.n3_J a c d l o I) m Q .normal [a,c,d,f,g,i,j,l,o,p,q,r,t,u,w,y,z,A,B,C,D,F,G,H,L,M,N,P,R] s:=⟨m',hm,_,_,_,_,_,_,_,_,_,_,_,_,_,_,_,_,_,_,_,_,_,_,_,_,rfl,h⟩
theorem fq24.n3_l (I:Nat→AV→St→Prop) (m:Nat) (hm:m < E.k) (h0:I m i s) (step:∀ (m:Nat) (f g i j p q r t u w y z A B C D F G H L M N P R:AV) (s:St),I m i s→WC E fq24.n4 [a,c,d,f,g,i,j,l,o,p,q,r,t,u,w,y,z,A,B,C,D,F,G,H,L,M,N,P,R] s (LK (fq24.n3_J a c d l o I) m Q)):WC E fq24.n3 [a,c,d,f,g,i,j,l,o,p,q,r,t,u,w,y,z,A,B,C,D,F,G,H,L,M,N,P,R] s Q:=WC_loop (J:=fq24.n3_J a c d l o I) m hm ⟨_,_,_,_,_,_,_,_,_,_,_,_,_,_,_,_,_,_,_,_,_,_,_,_,rfl,h0⟩ (fun m ρ s ⟨f,g,i,j,p,q,r,t,u,w,y,z,A,B,C,D,F,G,H,L,M,N,P,R,e,h⟩=>by rw [e]; exact step m f g i j p q r t u w y z A B C D F G H L M N P R s h)
def fq24.n7_J (a c d i l o p q u w y z A B C D F G H L M N P R:AV) (I:Nat→AV→AV→AV→St→Prop) (m:Nat) (ρ:Regs) (s:St):Prop:=∃ f g j r t:AV,ρ=[a,c,d,f,g,i,j,l,o,p,q,r,t,u,w,y,z,A,B,C,D,F,G,H,L,M,N,P,R]∧I m f g j s
theorem fq24.n7_go {I:Nat→AV→AV→AV→St→Prop} {m m':Nat} (hm:m' < m) (h:I m' f g j s):LK (fq24.n7_J a c d i l o p q u w y z A B C D F G H L M N P R I) m Q .normal [a,c,d,f,g,i,j,l,o,p,q,r,t,u,w,y,z,A,B,C,D,F,G,H,L,M,N,P,R] s:=⟨m',hm,_,_,_,_,_,rfl,h⟩
theorem fq24.n7_l (I:Nat→AV→AV→AV→St→Prop) (m:Nat) (hm:m < E.k) (h0:I m f g j s) (step:∀ (m:Nat) (f g j r t:AV) (s:St),I m f g j s→WC E fq24.n8 [a,c,d,f,g,i,j,l,o,p,q,r,t,u,w,y,z,A,B,C,D,F,G,H,L,M,N,P,R] s (LK (fq24.n7_J a c d i l o p q u w y z A B C D F G H L M N P R I) m Q)):WC E fq24.n7 [a,c,d,f,g,i,j,l,o,p,q,r,t,u,w,y,z,A,B,C,D,F,G,H,L,M,N,P,R] s Q:=WC_loop (J:=fq24.n7_J a c d i l o p q u w y z A B C D F G H L M N P R I) m hm ⟨_,_,_,_,_,rfl,h0⟩ (fun m ρ s ⟨f,g,j,r,t,e,h⟩=>by rw [e]; exact step m f g j r t s h)
theorem fq25.enter {k:Nat} {b:Option Nat} {K:AV→St→Prop} (h:WC ⟨prog,k,some s.heap.length⟩ fq25.n0 [a,.undef,.undef,.undef,.undef,.undef,.undef,.undef,.undef,.undef,.undef,.undef,.undef,.undef,.undef,.undef,.undef,.undef,.undef,.undef,.undef,.undef,.undef,.undef,.undef,.undef,.undef,.undef] { s with leak:=false } (RK s.heap.length s.leak fq25.res K)):VC ⟨prog,k + 1,b⟩ F_fq25 [a] s K:=VC_ra (P:=prog) (F':=fq25.fn) rfl fq25.ra fq25.ul rfl h
theorem fq25.ret {n:Nat} {lk:Bool} {K:AV→St→Prop}:RK n lk fq25.res K .ret [a,c,d,f,g,i,j,l,o,p,q,r,t,u,w,y,z,A,B,C,D,F,G,H,L,M,N,P] s=(K (leave n lk [⟨1,none,none⟩] [c] s).1 (leave n lk [⟨1,none,none⟩] [c] s).2):=by kernel_rfl
theorem fq25.n0_w:WC E fq25.n0 [a,c,d,f,g,i,j,l,o,p,q,r,t,u,w,y,z,A,B,C,D,F,G,H,L,M,N,P] s Q=(VC E F_fq28 [a] s fun v1 s2=>oM (vLen false v1) fun v3=>oM (eMksl s2 1 8 [.nilmap] v3 v3) fun v4=>oM (vChk a) fun v6=>oM (vOff 0 v6) fun v7=>oM (vOff 3 v7) fun v8=>oM (ld (v4.2).heap none v8) fun v9=>oM (vLen false v9) fun v10=>oM (vIaddr ((push (v4.2) (.map (.mk true [(.int .i64),(.int .i64)]) 0 []))).heap 1 none v4.1 v10) fun v11=>oM (eStore E.base ((push (v4.2) (.map (.mk true [(.int .i64),(.int .i64)]) 0 []))) 1 v11 (.map (v4.2).heap.length)) fun s12=>oM (vChk a) fun v13=>oM (vOff 0 v13) fun v14=>oM (vOff 3 v14) fun v15=>oM (ld s12.heap none v15) fun v16=>oM (vLen false v16) fun v17=>oM (vIaddr s12.heap 1 none v1 v17) fun v18=>oM (ld s12.heap none v18) fun v19=>oM (eRange s12 v19) fun v20=>(sK (WC E (.block 0 fq25.n1)) (sK (WC E fq25.n5) Q)) .normal [a,(.slice true 0 []),d,f,v1,v4.1,v20.1,(.map (v4.2).heap.length),o,p,q,r,t,u,w,y,z,A,B,C,D,F,G,H,L,M,N,P] (v20.2)):=by kernel_rfl
theorem fq25.n2_w:WC E fq25.n2 [a,c,d,f,g,i,j,l,o,p,q,r,t,u,w,y,z,A,B,C,D,F,G,H,L,M,N,P] s Q=(VN j s fun v1 s2=>oM (vExt 0 v1) fun v3=>cM v3 ((sK (WC E fq25.n4) Q) .normal [a,c,d,f,g,i,j,v3,o,p,q,r,t,u,w,y,z,A,B,C,D,F,G,H,L,M,N,P] s2) ((sK (WC E fq25.n4) Q) (.exit 0) [a,c,d,f,g,i,j,v3,o,p,q,r,t,u,w,y,z,A,B,C,D,F,G,H,L,M,N,P] s2)):=by kernel_rfl
theorem fq25.n4_w:WC E fq25.n4 [a,c,d,f,g,i,j,l,o,p,q,r,t,u,w,y,z,A,B,C,D,F,G,H,L,M,N,P] s Q=(oM (vEntry s.heap j) fun v1=>oM (vExt 0 v1) fun v2=>oM (eStore E.base ((push s (.cells [(.int .i64 0),(.int .i64 0)]))) 2 (.ptr s.heap.length 0 2) v2) fun s3=>oM (vChk a) fun v4=>oM (vOff 0 v4) fun v5=>oM (vOff 3 v5) fun v6=>oM (ld s3.heap none v6) fun v7=>oM (vLen false v7) fun v8=>oM (vIaddr s3.heap 1 none i v8) fun v9=>oM (ld s3.heap none v9) fun v10=>oM (ld s3.heap (some 2) (.ptr s.heap.length 0 2)) fun v11=>oM (fillA [(.int .i64 0),(.int .i64 0)] []) fun v12=>oM (eMupd E.base s3 (.mk true [(.int .i64),(.int .i64)]) v10 v11 (.agg v12)) fun s13=>(bK 1 Q) .normal [a,c,d,f,g,i,j,v10,v11,(.agg v12),q,r,t,u,w,y,z,A,B,C,D,F,G,H,L,M,N,P] s13):=by kernel_rfl
theorem fq25.n5_w:WC E fq25.n5 [a,c,d,f,g,i,j,l,o,p,q,r,t,u,w,y,z,A,B,C,D,F,G,H,L,M,N,P] s Q=(oM (vChk a) fun v1=>oM (vOff 0 v1) fun v2=>oM (vOff 3 v2) fun v3=>oM (ld s.heap none v3) fun v4=>oM (vLen false v4) fun v5=>oM (evBin .sub v5 (.int .i64 1)) fun v6=>(sK (WC E (.block 2 fq25.n6)) (sK (WC E fq25.n23) Q)) .normal [a,c,v6,f,g,i,v6,l,o,p,q,r,t,u,w,y,z,A,B,C,D,F,G,H,L,M,N,P] s):=by kernel_rfl
theorem fq25.n7_w:WC E fq25.n7 [a,c,d,f,g,i,j,l,o,p,q,r,t,u,w,y,z,A,B,C,D,F,G,H,L,M,N,P] s Q=(oM (evBin .geq d (.int .i64 0)) fun v1=>cM v1 ((sK (WC E fq25.n9) Q) .normal [a,c,d,f,g,i,v1,l,o,p,q,r,t,u,w,y,z,A,B,C,D,F,G,H,L,M,N,P] s) ((sK (WC E fq25.n9) Q) (.exit 2) [a,c,d,f,g,i,v1,l,o,p,q,r,t,u,w,y,z,A,B,C,D,F,G,H,L,M,N,P] s)):=by kernel_rfl
theorem fq25.n9_w:WC E fq25.n9 [a,c,d,f,g,i,j,l,o,p,q,r,t,u,w,y,z,A,B,C,D,F,G,H,L,M,N,P] s Q=(oM (vIaddr ((push s (.map (.mk true [(.int .i64),(.int .i64)]) 0 []))).heap 1 none i d) fun v1=>oM (eStore E.base ((push s (.map (.mk true [(.int .i64),(.int .i64)]) 0 []))) 1 v1 (.map s.heap.length)) fun s2=>oM (vIaddr s2.heap 1 none g d) fun v3=>oM (ld s2.heap none v3) fun v4=>oM (eRange s2 v4) fun v5=>(sK (WC E (.block 4 fq25.n10)) (bK 3 (sK (WC E fq25.n22) Q))) .normal [a,c,d,f,g,i,v5.1,v1,o,p,q,r,t,u,w,y,z,A,B,C,D,F,G,H,L,M,N,P] (v5.2)):=by kernel_rfl
theorem fq25.n11_w:WC E fq25.n11 [a,c,d,f,g,i,j,l,o,p,q,r,t,u,w,y,z,A,B,C,D,F,G,H,L,M,N,P] s Q=(VN j s fun v1 s2=>oM (vExt 0 v1) fun v3=>cM v3 ((sK (WC E fq25.n13) Q) .normal [a,c,d,f,g,i,j,v3,o,p,q,r,t,u,w,y,z,A,B,C,D,F,G,H,L,M,N,P] s2) ((sK (WC E fq25.n13) Q) (.exit 4) [a,c,d,f,g,i,j,v3,o,p,q,r,t,u,w,y,z,A,B,C,D,F,G,H,L,M,N,P] s2)):=by kernel_rfl
theorem fq25.n13_w:WC E fq25.n13 [a,c,d,f,g,i,j,l,o,p,q,r,t,u,w,y,z,A,B,C,D,F,G,H,L,M,N,P] s Q=(oM (vEntry s.heap j) fun v1=>oM (vExt 0 v1) fun v2=>oM (eStore E.base ((push s (.cells [(.int .i64 0),(.int .i64 0)]))) 2 (.ptr s.heap.length 0 2) v2) fun s3=>oM (vChk a) fun v4=>oM (vOff 6 v4) fun v5=>oM (ld s3.heap none v5) fun v6=>oM (vLen false v6) fun v7=>(sK (WC E (.block 6 fq25.n14)) (bK 5 Q)) .normal [a,c,d,(.int .i64 0),g,i,j,v7,(.ptr s.heap.length 0 2),p,q,r,t,u,w,y,z,A,B,C,D,F,G,H,L,M,N,P] s3):=by kernel_rfl
theorem fq25.n15_w:WC E fq25.n15 [a,c,d,f,g,i,j,l,o,p,q,r,t,u,w,y,z,A,B,C,D,F,G,H,L,M,N,P] s Q=(oM (evBin .lss f l) fun v1=>cM v1 ((sK (WC E fq25.n17) Q) .normal [a,c,d,f,g,i,j,l,o,v1,q,r,t,u,w,y,z,A,B,C,D,F,G,H,L,M,N,P] s) ((sK (WC E fq25.n17) Q) (.exit 6) [a,c,d,f,g,i,j,l,o,v1,q,r,t,u,w,y,z,A,B,C,D,F,G,H,L,M,N,P] s)):=by kernel_rfl
theorem fq25.n17_w:WC E fq25.n17 [a,c,d,f,g,i,j,l,o,p,q,r,t,u,w,y,z,A,B,C,D,F,G,H,L,M,N,P] s Q=(oM (evBin .add d (.int .i64 1)) fun v1=>oM (vIaddr ((push s (.cells [(.int .i64 0),(.int .i64 0)]))).heap 1 none i v1) fun v2=>oM (ld ((push s (.cells [(.int .i64 0),(.int .i64 0)]))).heap none v2) fun v3=>oM (vOff 0 o) fun v4=>oM (ld ((push s (.cells [(.int .i64 0),(.int .i64 0)]))).heap none v4) fun v5=>VC E F_fq27 [a,d,v5,f] ((push s (.cells [(.int .i64 0),(.int .i64 0)]))) fun v6 s7=>oM (fillA [(.int .i64 0),(.int .i64 0)] [(0,1,v6),(1,1,f)]) fun v8=>oM (vLook s7.heap (.mk true [(.int .i64),(.int .i64)]) (.agg [(.int .i64 0),(.int .i64 0)]) true v3 (.agg v8)) fun v9=>oM (vExt 0 v9) fun v10=>oM (vExt 1 v9) fun v11=>oM (eStore E.base s7 2 (.ptr s.heap.length 0 2) v10) fun s12=>(chkRead E.base [a,c,d,f,g,i,j,l,o,(.ptr s.heap.length 0 2),i,d,v1,v2,v3,a,d,v4,v5,f,v6,f,(.agg v8),v9,v9,v10,v11,v11] ⟨(some 13),(.iaddr 1 none (.r 10) (.r 12)),none⟩ [((push s (.cells [(.int .i64 0),(.int .i64 0)]))).heap,s7.heap]=true)∧(chkRead E.base [a,c,d,f,g,i,j,l,o,(.ptr s.heap.length 0 2),i,d,v1,v2,v3,a,d,v4,v5,f,v6,f,(.agg v8),v9,v9,v10,v11,v11] ⟨(some 14),(.load none (.r 13)),none⟩ [((push s (.cells [(.int .i64 0),(.int .i64 0)]))).heap,s7.heap]=true)∧(chkRead E.base [a,c,d,f,g,i,j,l,o,(.ptr s.heap.length 0 2),i,d,v1,v2,v3,a,d,v4,v5,f,v6,f,(.agg v8),v9,v9,v10,v11,v11] ⟨(some 9),(.alloc [(.int .i64 0),(.int .i64 0)]),none⟩ [((push s (.cells [(.int .i64 0),(.int .i64 0)]))).heap,s7.heap]=true)∧oM (evUn .not v11) fun v13=>cM v13 ((sK (WC E fq25.n19) (bK 7 (sK (WC E fq25.n21) Q))) (.exit 7) [a,c,d,f,g,i,j,l,o,(.ptr s.heap.length 0 2),v13,d,v1,v2,v3,a,d,v4,v5,f,v6,f,(.agg v8),v9,v9,v10,v11,v11] s12) ((sK (WC E fq25.n19) (bK 7 (sK (WC E fq25.n21) Q))) .normal [a,c,d,f,g,i,j,l,o,(.ptr s.heap.length 0 2),v13,d,v1,v2,v3,a,d,v4,v5,f,v6,f,(.agg v8),v9,v9,v10,v11,v11] s12)):=by kernel_rfl
theorem fq25.n19_w:WC E fq25.n19 [a,c,d,f,g,i,j,l,o,p,q,r,t,u,w,y,z,A,B,C,D,F,G,H,L,M,N,P] s Q=(oM (vOff 0 p) fun v1=>oM (ld ((push s (.cells [(.int .i64 0),(.int .i64 0)]))).heap none v1) fun v2=>oM (vOff 1 o) fun v3=>oM (ld ((push s (.cells [(.int .i64 0),(.int .i64 0)]))).heap none v3) fun v4=>VC E F_fq26 [a,d,v4,f] ((push s (.cells [(.int .i64 0),(.int .i64 0)]))) fun v5 s6=>oM (evBin .add v2 v5) fun v7=>oM (fillA [(.int .i64 0),(.int .i64 0)] [(0,1,v7),(1,1,f)]) fun v8=>oM (eStore E.base s6 2 (.ptr s.heap.length 0 2) (.agg v8)) fun s9=>(chkRead E.base [a,c,d,f,g,i,j,l,o,p,(.ptr s.heap.length 0 2),v1,v2,a,d,v3,v4,f,v5,v7,f,(.agg v8),G,H,L,M,N,P] ⟨(some 12),(.load none (.r 11)),none⟩ [((push s (.cells [(.int .i64 0),(.int .i64 0)]))).heap,s6.heap]=true)∧(chkRead E.base [a,c,d,f,g,i,j,l,o,p,(.ptr s.heap.length 0 2),v1,v2,a,d,v3,v4,f,v5,v7,f,(.agg v8),G,H,L,M,N,P] ⟨(some 10),(.alloc [(.int .i64 0),(.int .i64 0)]),none⟩ [((push s (.cells [(.int .i64 0),(.int .i64 0)]))).heap,s6.heap]=true)∧oM (vIaddr ((push s9 (.cells [(.int .i64 0),(.int .i64 0)]))).heap 1 none i d) fun v10=>oM (ld ((push s9 (.cells [(.int .i64 0),(.int .i64 0)]))).heap none v10) fun v11=>oM (ld ((push s9 (.cells [(.int .i64 0),(.int .i64 0)]))).heap (some 2) o) fun v12=>oM (vLook ((push s9 (.cells [(.int .i64 0),(.int .i64 0)]))).heap (.mk true [(.int .i64),(.int .i64)]) (.agg [(.int .i64 0),(.int .i64 0)]) true v11 v12) fun v13=>oM (vExt 0 v13) fun v14=>oM (vExt 1 v13) fun v15=>oM (eStore E.base ((push s9 (.cells [(.int .i64 0),(.int .i64 0)]))) 2 (.ptr s9.heap.length 0 2) v14) fun s16=>(chkRead E.base [a,c,d,f,g,i,j,l,o,(.ptr s9.heap.length 0 2),(.ptr s.heap.length 0 2),i,d,v10,v11,v12,v13,v13,v14,v15,v15,(.agg v8),G,H,L,M,N,P] ⟨(some 9),(.alloc [(.int .i64 0),(.int .i64 0)]),none⟩ [((push s9 (.cells [(.int .i64 0),(.int .i64 0)]))).heap]=true)∧oM (evUn .not v15) fun v17=>gO v17 false s16 (fun k18=>oM (vOff 0 (.ptr s.heap.length 0 2)) fun v19=>k18 v19 s16) fun v20 s20=>gO v17 false s20 (fun k21=>oM (ld s20.heap none v20) fun v22=>k21 v22 s20) fun v23 s23=>gO v17 false s23 (fun k24=>oM (vOff 0 (.ptr s9.heap.length 0 2)) fun v25=>k24 v25 s23) fun v26 s26=>gO v17 false s26 (fun k27=>oM (ld s26.heap none v26) fun v28=>k27 v28 s26) fun v29 s29=>gO v17 false s29 (fun k30=>oM (evBin .lss v23 v29) fun v31=>k30 v31 s29) fun v32 s32=>oM (vPick v17 (.bool true) v32) fun v33=>cM v33 (WC E fq25.n20 [a,c,d,f,g,i,j,l,o,v33,(.ptr s.heap.length 0 2),v17,v23,v10,v11,v12,v13,v13,v14,v15,v15,(.agg v8),G,H,L,M,N,P] s32 Q) (Q .normal [a,c,d,f,g,i,j,l,o,v33,(.ptr s.heap.length 0 2),v17,v23,v10,v11,v12,v13,v13,v14,v15,v15,(.agg v8),G,H,L,M,N,P] s32)):=by kernel_rfl
theorem fq25.n20_w:WC E fq25.n20 [a,c,d,f,g,i,j,l,o,p,q,r,t,u,w,y,z,A,B,C,D,F,G,H,L,M,N,P] s Q=(oM (vIaddr s.heap 1 none i d) fun v1=>oM (ld s.heap none v1) fun v2=>oM (ld s.heap (some 2) o) fun v3=>oM (ld s.heap (some 2) q) fun v4=>oM (eMupd E.base s (.mk true [(.int .i64),(.int .i64)]) v2 v3 v4) fun s5=>Q .normal [a,c,d,f,g,i,j,l,o,v2,v4,v3,t,u,w,y,z,A,B,C,D,F,G,H,L,M,N,P] s5):=by kernel_rfl
theorem fq25.n21_w:WC E fq25.n21 [a,c,d,f,g,i,j,l,o,p,q,r,t,u,w,y,z,A,B,C,D,F,G,H,L,M,N,P] s Q=(oM (evBin .add f (.int .i64 1)) fun v1=>Q .normal [a,c,d,v1,g,i,j,l,o,v1,q,r,t,u,w,y,z,A,B,C,D,F,G,H,L,M,N,P] s):=by kernel_rfl
theorem fq25.n22_w:WC E fq25.n22 [a,c,d,f,g,i,j,l,o,p,q,r,t,u,w,y,z,A,B,C,D,F,G,H,L,M,N,P] s Q=(oM (evBin .sub d (.int .i64 1)) fun v1=>Q .normal [a,c,v1,f,g,i,v1,l,o,p,q,r,t,u,w,y,z,A,B,C,D,F,G,H,L,M,N,P] s):=by kernel_rfl
theorem fq25.n23_w:WC E fq25.n23 [a,c,d,f,g,i,j,l,o,p,q,r,t,u,w,y,z,A,B,C,D,F,G,H,L,M,N,P] s Q=(Q .ret [a,i,d,f,g,i,j,l,o,p,q,r,t,u,w,y,z,A,B,C,D,F,G,H,L,M,N,P] s):=by kernel_rfl
def fq25.n1_J (a c d f g i j q r t u w y z A B C D F G H L M N P:AV) (I:Nat→St→Prop) (m:Nat) (ρ:Regs) (s:St):Prop:=∃ l o p:AV,ρ=[a,c,d,f,g,i,j,l,o,p,q,r,t,u,w,y,z,A,B,C,D,F,G,H,L,M,N,P]∧I m  s
theorem fq25.n1_go {I:Nat→St→Prop} {m m':Nat} (hm:m' < m) (h:I m'  s):LK (fq25.n1_J a c d f g i j q r t u w y z A B C D F G H L M N P I) m Q .normal [a,c,d,f,g,i,j,l,o,p,q,r,t,u,w,y,z,A,B,C,D,F,G,H,L,M,N,P] s:=⟨m',hm,_,_,_,rfl,h⟩
theorem fq25.n1_l (I:Nat→St→Prop) (m:Nat) (hm:m < E.k) (h0:I m  s) (step:∀ (m:Nat) (l o p:AV) (s:St),I m  s→WC E fq25.n2 [a,c,d,f,g,i,j,l,o,p,q,r,t,u,w,y,z,A,B,C,D,F,G,H,L,M,N,P] s (LK (fq25.n1_J a c d f g i j q r t u w y z A B C D F G H L M N P I) m Q)):WC E fq25.n1 [a,c,d,f,g,i,j,l,o,p,q,r,t,u,w,y,z,A,B,C,D,F,G,H,L,M,N,P] s Q:=WC_loop (J:=fq25.n1_J a c d f g i j q r t u w y z A B C D F G H L M N P I) m hm ⟨_,_,_,rfl,h0⟩ (fun m ρ s ⟨l,o,p,e,h⟩=>by rw [e]; exact step m l o p s h)
def fq25.n6_J (a c g i:AV) (I:Nat→AV→St→Prop) (m:Nat) (ρ:Regs) (s:St):Prop:=∃ d f j l o p q r t u w y z A B C D F G H L M N P:AV,ρ=[a,c,d,f,g,i,j,l,o,p,q,r,t,u,w,y,z,A,B,C,D,F,G,H,L,M,N,P]∧I m d s
theorem fq25.n6_go {I:Nat→AV→St→Prop} {m m':Nat} (hm:m' < m) (h:I m' d s):LK (fq25.n6_J a c g i I) m Q .normal [a,c,d,f,g,i,j,l,o,p,q,r,t,u,w,y,z,A,B,C,D,F,G,H,L,M,N,P] s:=⟨m',hm,_,_,_,_,_,_,_,_,_,_,_,_,_,_,_,_,_,_,_,_,_,_,_,_,rfl,h⟩
theorem fq25.n6_l (I:Nat→AV→St→Prop) (m:Nat) (hm:m < E.k) (h0:I m d s) (step:∀ (m:Nat) (d f j l o p q r t u w y z A B C D F G H L M N P:AV) (s:St),I m d s→WC E fq25.n7 [a,c,d,f,g,i,j,l,o,p,q,r,t,u,w,y,z,A,B,C,D,F,G,H,L,M,N,P] s (LK (fq25.n6_J a c g i I) m Q)):WC E fq25.n6 [a,c,d,f,g,i,j,l,o,p,q,r,t,u,w,y,z,A,B,C,D,F,G,H,L,M,N,P] s Q:=WC_loop (J:=fq25.n6_J a c g i I) m hm ⟨_,_,_,_,_,_,_,_,_,_,_,_,_,_,_,_,_,_,_,_,_,_,_,_,rfl,h0⟩ (fun m ρ s ⟨d,f,j,l,o,p,q,r,t,u,w,y,z,A,B,C,D,F,G,H,L,M,N,P,e,h⟩=>by rw [e]; exact step m d f j l o p q r t u w y z A B C D F G H L M N P s h)
def fq25.n10_J (a c d g i j:AV) (I:Nat→St→Prop) (m:Nat) (ρ:Regs) (s:St):Prop:=∃ f l o p q r t u w y z A B C D F G H L M N P:AV,ρ=[a,c,d,f,g,i,j,l,o,p,q,r,t,u,w,y,z,A,B,C,D,F,G,H,L,M,N,P]∧I m  s
theorem fq25.n10_go {I:Nat→St→Prop} {m m':Nat} (hm:m' < m) (h:I m'  s):LK (fq25.n10_J a c d g i j I) m Q .normal [a,c,d,f,g,i,j,l,o,p,q,r,t,u,w,y,z,A,B,C,D,F,G,H,L,M,N,P] s:=⟨m',hm,_,_,_,_,_,_,_,_,_,_,_,_,_,_,_,_,_,_,_,_,_,_,rfl,h⟩
theorem fq25.n10_l (I:Nat→St→Prop) (m:Nat) (hm:m < E.k) (h0:I m  s) (step:∀ (m:Nat) (f l o p q r t u w y z A B C D F G H L M N P:AV) (s:St),I m  s→WC E fq25.n11 [a,c,d,f,g,i,j,l,o,p,q,r,t,u,w,y,z,A,B,C,D,F,G,H,L,M,N,P] s (LK (fq25.n10_J a c d g i j I) m Q)):WC E fq25.n10 [a,c,d,f,g,i,j,l,o,p,q,r,t,u,w,y,z,A,B,C,D,F,G,H,L,M,N,P] s Q:=WC_loop (J:=fq25.n10_J a c d g i j I) m hm ⟨_,_,_,_,_,_,_,_,_,_,_,_,_,_,_,_,_,_,_,_,_,_,rfl,h0⟩ (fun m ρ s ⟨f,l,o,p,q,r,t,u,w,y,z,A,B,C,D,F,G,H,L,M,N,P,e,h⟩=>by rw [e]; exact step m f l o p q r t u w y z A B C D F G H L M N P s h)
def fq25.n14_J (a c d g i j l o:AV) (I:Nat→AV→St→Prop) (m:Nat) (ρ:Regs) (s:St):Prop:=∃ f p q r t u w y z A B C D F G H L M N P:AV,ρ=[a,c,d,f,g,i,j,l,o,p,q,r,t,u,w,y,z,A,B,C,D,F,G,H,L,M,N,P]∧I m f s
theorem fq25.n14_go {I:Nat→AV→St→Prop} {m m':Nat} (hm:m' < m) (h:I m' f s):LK (fq25.n14_J a c d g i j l o I) m Q .normal [a,c,d,f,g,i,j,l,o,p,q,r,t,u,w,y,z,A,B,C,D,F,G,H,L,M,N,P] s:=⟨m',hm,_,_,_,_,_,_,_,_,_,_,_,_,_,_,_,_,_,_,_,_,rfl,h⟩
theorem fq25.n14_l (I:Nat→AV→St→Prop) (m:Nat) (hm:m < E.k) (h0:I m f s) (step:∀ (m:Nat) (f p q r t u w y z A B C D F G H L M N P:AV) (s:St),I m f s→WC E fq25.n15 [a,c,d,f,g,i,j,l,o,p,q,r,t,u,w,y,z,A,B,C,D,F,G,H,L,M,N,P] s (LK (fq25.n14_J a c d g i j l o I) m Q)):WC E fq25.n14 [a,c,d,f,g,i,j,l,o,p,q,r,t,u,w,y,z,A,B,C,D,F,G,H,L,M,N,P] s Q:=WC_loop (J:=fq25.n14_J a c d g i j l o I) m hm ⟨_,_,_,_,_,_,_,_,_,_,_,_,_,_,_,_,_,_,_,_,rfl,h0⟩ (fun m ρ s ⟨f,p,q,r,t,u,w,y,z,A,B,C,D,F,G,H,L,M,N,P,e,h⟩=>by rw [e]; exact step m f p q r t u w y z A B C D F G H L M N P s h)
theorem fq27.enter {k:Nat} {b:Option Nat} {K:AV→St→Prop} (h:WC ⟨prog,k,some s.heap.length⟩ fq27.n0 [a,c,d,f,.undef,.undef,.undef] { s with leak:=false } (RK s.heap.length s.leak fq27.res K)):VC ⟨prog,k + 1,b⟩ F_fq27 [a,c,d,f] s K:=VC_ra (P:=prog) (F':=fq27.fn) rfl fq27.ra fq27.ul rfl h
theorem fq27.ret {n:Nat} {lk:Bool} {K:AV→St→Prop}:RK n lk fq27.res K .ret [a,c,d,f,g,i,j] s=(K (leave n lk [⟨4,none,none⟩] [g] s).1 (leave n lk [⟨4,none,none⟩] [g] s).2):=by kernel_rfl
theorem fq27.n0_w:WC E fq27.n0 [a,c,d,f,g,i,j] s Q=(oM (vChk a) fun v1=>oM (vOff 0 v1) fun v2=>oM (vOff 1 v2) fun v3=>oM (ld s.heap none v3) fun v4=>oM (vChk a) fun v5=>oM (vOff 0 v5) fun v6=>oM (vOff 3 v6) fun v7=>oM (ld s.heap none v7) fun v8=>oM (vIaddr s.heap 1 none v8 c) fun v9=>oM (ld s.heap none v9) fun v10=>oM (evBin .add d v10) fun v11=>oM (vChk a) fun v12=>oM (vOff 6 v12) fun v13=>oM (ld s.heap none v13) fun v14=>oM (vIaddr s.heap 1 none v14 f) fun v15=>oM (ld s.heap none v15) fun v16=>oM (evBin .sub v11 v16) fun v17=>oM (evMinMax true v4 [v17]) fun v18=>Q .ret [v18,v11,d,f,v18,v4,v8] s):=by kernel_rfl
theorem fq52.enter {k:Nat} {b:Option Nat} {K:AV→St→Prop} (h:WC ⟨prog,k,some s.heap.length⟩ fq52.n0 [a,.undef,.undef,.undef,.undef] { s with leak:=false } (RK s.heap.length s.leak fq52.res K)):VC ⟨prog,k + 1,b⟩ F_fq52 [a] s K:=VC_ra (P:=prog) (F':=fq52.fn) rfl fq52.ra fq52.ul rfl h
theorem fq52.ret {n:Nat} {lk:Bool} {K:AV→St→Prop}:RK n lk fq52.res K .ret [a,c,d,f,g] s=(K (leave n lk [⟨1,none,none⟩] [c] s).1 (leave n lk [⟨1,none,none⟩] [c] s).2):=by kernel_rfl
theorem fq52.n0_w:WC E fq52.n0 [a,c,d,f,g] s Q=(oM (eBox s 6 a) fun v1=>(sK (WC E (.block 0 fq52.n1)) (sK (WC E fq52.n5) Q)) .normal [v1.1,(.int .i64 0),(.int .i64 1),(.int .i64 0),g] (v1.2)):=by kernel_rfl
theorem fq52.n2_w:WC E fq52.n2 [a,c,d,f,g] s Q=(oM (vOff 5 a) fun v1=>oM (ld s.heap none v1) fun v2=>oM (vLen false v2) fun v3=>oM (evBin .lss f v3) fun v4=>cM v4 ((sK (WC E fq52.n4) Q) .normal [a,c,d,f,v4] s) ((sK (WC E fq52.n4) Q) (.exit 0) [a,c,d,f,v4] s)):=by kernel_rfl
theorem fq52.n4_w:WC E fq52.n4 [a,c,d,f,g] s Q=(oM (evBin .mul (.int .i64 2) d) fun v1=>oM (evBin .add f (.int .i64 1)) fun v2=>Q .normal [a,c,v1,v2,v2] s):=by kernel_rfl
theorem fq52.n5_w:WC E fq52.n5 [a,c,d,f,g] s Q=(Q .ret [a,d,d,f,g] s):=by kernel_rfl
def fq52.n1_J (a c:AV) (I:Nat→AV→AV→St→Prop) (m:Nat) (ρ:Regs) (s:St):Prop:=∃ d f g:AV,ρ=[a,c,d,f,g]∧I m d f s
theorem fq52.n1_go {I:Nat→AV→AV→St→Prop} {m m':Nat} (hm:m' < m) (h:I m' d f s):LK (fq52.n1_J a c I) m Q .normal [a,c,d,f,g] s:=⟨m',hm,_,_,_,rfl,h⟩
theorem fq52.n1_l (I:Nat→AV→AV→St→Prop) (m:Nat) (hm:m < E.k) (h0:I m d f s) (step:∀ (m:Nat) (d f g:AV) (s:St),I m d f s→WC E fq52.n2 [a,c,d,f,g] s (LK (fq52.n1_J a c I) m Q)):WC E fq52.n1 [a,c,d,f,g] s Q:=WC_loop (J:=fq52.n1_J a c I) m hm ⟨_,_,_,rfl,h0⟩ (fun m ρ s ⟨d,f,g,e,h⟩=>by rw [e]; exact step m d f g s h)
theorem fq54.enter {k:Nat} {b:Option Nat} {K:AV→St→Prop} (h:WC ⟨prog,k,some s.heap.length⟩ fq54.n0 [a,c,d,f,.undef,.undef,.undef] { s with leak:=false } (RK s.heap.length s.leak fq54.res K)):VC ⟨prog,k + 1,b⟩ F_fq54 [a,c,d,f] s K:=VC_ra (P:=prog) (F':=fq54.fn) rfl fq54.ra fq54.ul rfl h
theorem fq54.ret {n:Nat} {lk:Bool} {K:AV→St→Prop}:RK n lk fq54.res K .ret [a,c,d,f,g,i,j] s=(K (leave n lk [⟨4,none,none⟩] [g] s).1 (leave n lk [⟨4,none,none⟩] [g] s).2):=by kernel_rfl
theorem fq54.n0_w:WC E fq54.n0 [a,c,d,f,g,i,j] s Q=(oM (eBox s 6 a) fun v1=>oM (vOff 3 v1.1) fun v3=>oM (ld (v1.2).heap none v3) fun v4=>oM (vIaddr (v1.2).heap 1 none v4 c) fun v5=>oM (ld (v1.2).heap none v5) fun v6=>oM (evBin .add d v6) fun v7=>(sK (WC E (.block 0 fq54.n1)) (sK (WC E fq54.n7) Q)) .normal [v1.1,v7,v7,f,(.int .i64 0),(.int .i64 0),v4] (v1.2)):=by kernel_rfl
theorem fq54.n2_w:WC E fq54.n2 [a,c,d,f,g,i,j] s Q=(oM (vOff 5 a) fun v1=>oM (ld s.heap none v1) fun v2=>oM (vLen false v2) fun v3=>oM (evBin .lss i v3) fun v4=>cM v4 ((sK (WC E fq54.n4) Q) .normal [a,v4,d,f,g,i,j] s) ((sK (WC E fq54.n4) Q) (.exit 0) [a,v4,d,f,g,i,j] s)):=by kernel_rfl
theorem fq54.n4_w:WC E fq54.n4 [a,c,d,f,g,i,j] s Q=(VC E F_fq49 [f,i] s fun v1 s2=>cM v1 (WC E fq54.n5 [a,v1,d,f,g,i,j] s2 (bK 1 (sK (WC E fq54.n6) Q))) ((bK 1 (sK (WC E fq54.n6) Q)) .normal [a,v1,d,f,g,i,j] s2)):=by kernel_rfl
theorem fq54.n5_w:WC E fq54.n5 [a,c,d,f,g,i,j] s Q=(oM (vOff 5 a) fun v1=>oM (ld s.heap none v1) fun v2=>oM (vIaddr s.heap 3 none v2 i) fun v3=>oM (vOff 0 v3) fun v4=>oM (ld s.heap none v4) fun v5=>oM (evBin .sub d v5) fun v6=>Q .normal [a,v6,v6,f,g,i,j] s):=by kernel_rfl
theorem fq54.n6_w:WC E fq54.n6 [a,c,d,f,g,i,j] s Q=(oM (evBin .add i (.int .i64 1)) fun v1=>Q .normal [a,v1,d,f,g,v1,j] s):=by kernel_rfl
theorem fq54.n7_w:WC E fq54.n7 [a,c,d,f,g,i,j] s Q=(oM (vOff 1 a) fun v1=>oM (ld s.heap none v1) fun v2=>oM (evMinMax true d [v2]) fun v3=>Q .ret [v3,c,d,f,v3,i,j] s):=by kernel_rfl
def fq54.n1_J (a f g j:AV) (I:Nat→AV→AV→St→Prop) (m:Nat) (ρ:Regs) (s:St):Prop:=∃ c d i:AV,ρ=[a,c,d,f,g,i,j]∧I m d i s
theorem fq54.n1_go {I:Nat→AV→AV→St→Prop} {m m':Nat} (hm:m' < m) (h:I m' d i s):LK (fq54.n1_J a f g j I) m Q .normal [a,c,d,f,g,i,j] s:=⟨m',hm,_,_,_,rfl,h⟩
theorem fq54.n1_l (I:Nat→AV→AV→St→Prop) (m:Nat) (hm:m < E.k) (h0:I m d i s) (step:∀ (m:Nat) (c d i:AV) (s:St),I m d i s→WC E fq54.n2 [a,c,d,f,g,i,j] s (LK (fq54.n1_J a f g j I) m Q)):WC E fq54.n1 [a,c,d,f,g,i,j] s Q:=WC_loop (J:=fq54.n1_J a f g j I) m hm ⟨_,_,_,rfl,h0⟩ (fun m ρ s ⟨c,d,i,e,h⟩=>by rw [e]; exact step m c d i s h)
theorem fq55.enter {k:Nat} {b:Option Nat} {K:AV→St→Prop} (h:WC ⟨prog,k,some s.heap.length⟩ fq55.n0 [a,c,d,f,.undef,.undef,.undef,.undef,.undef] { s with leak:=false } (RK s.heap.length s.leak fq55.res K)):VC ⟨prog,k + 1,b⟩ F_fq55 [a,c,d,f] s K:=VC_ra (P:=prog) (F':=fq55.fn) rfl fq55.ra fq55.ul rfl h
theorem fq55.ret {n:Nat} {lk:Bool} {K:AV→St→Prop}:RK n lk fq55.res K .ret [a,c,d,f,g,i,j,l,o] s=(K (leave n lk [⟨4,none,none⟩] [g] s).1 (leave n lk [⟨4,none,none⟩] [g] s).2):=by kernel_rfl
theorem fq55.n0_w:WC E fq55.n0 [a,c,d,f,g,i,j,l,o] s Q=(oM (eBox s 6 a) fun v1=>(sK (WC E (.block 0 fq55.n1)) (sK (WC E fq55.n8) Q)) .normal [v1.1,c,d,f,(.int .i64 0),(.int .i64 0),(.int .i64 0),l,o] (v1.2)):=by kernel_rfl
theorem fq55.n2_w:WC E fq55.n2 [a,c,d,f,g,i,j,l,o] s Q=(oM (vOff 5 a) fun v1=>oM (ld s.heap none v1) fun v2=>oM (vLen false v2) fun v3=>oM (evBin .lss j v3) fun v4=>cM v4 ((sK (WC E fq55.n4) Q) .normal [a,c,d,f,g,i,j,v4,o] s) ((sK (WC E fq55.n4) Q) (.exit 0) [a,c,d,f,g,i,j,v4,o] s)):=by kernel_rfl
theorem fq55.n4_w:WC E fq55.n4 [a,c,d,f,g,i,j,l,o] s Q=(VC E F_fq49 [f,j] s fun v1 s2=>cM v1 (WC E fq55.n5 [a,c,d,f,g,i,j,v1,o] s2 (bK 1 (sK (WC E fq55.n7) Q))) ((bK 1 (sK (WC E fq55.n7) Q)) .normal [a,c,d,f,g,i,j,v1,o] s2)):=by kernel_rfl
theorem fq55.n5_w:WC E fq55.n5 [a,c,d,f,g,i,j,l,o] s Q=(oM (vOff 4 a) fun v1=>oM (ld s.heap none v1) fun v2=>oM (vIaddr s.heap 1 none v2 c) fun v3=>oM (ld s.heap none v3) fun v4=>oM (vOff 5 a) fun v5=>oM (ld s.heap none v5) fun v6=>oM (vIaddr s.heap 3 none v6 j) fun v7=>oM (vOff 1 v7) fun v8=>oM (ld s.heap none v8) fun v9=>oM (evBin .mul v4 v9) fun v10=>oM (evBin .add i v10) fun v11=>VC E F_fq49 [d,j] s fun v12 s13=>oM (evUn .not v12) fun v14=>cM v14 (WC E fq55.n6 [a,c,d,f,g,v11,j,v14,v9] s13 Q) (Q .normal [a,c,d,f,g,v11,j,v14,v9] s13)):=by kernel_rfl
theorem fq55.n6_w:WC E fq55.n6 [a,c,d,f,g,i,j,l,o] s Q=(oM (vOff 5 a) fun v1=>oM (ld s.heap none v1) fun v2=>oM (vIaddr s.heap 3 none v2 j) fun v3=>oM (vOff 2 v3) fun v4=>oM (ld s.heap none v4) fun v5=>oM (evBin .add i v5) fun v6=>Q .normal [a,c,d,f,g,v6,j,v6,o] s):=by kernel_rfl
theorem fq55.n7_w:WC E fq55.n7 [a,c,d,f,g,i,j,l,o] s Q=(oM (evBin .add j (.int .i64 1)) fun v1=>Q .normal [a,c,d,f,g,i,v1,v1,o] s):=by kernel_rfl
theorem fq55.n8_w:WC E fq55.n8 [a,c,d,f,g,i,j,l,o] s Q=(Q .ret [a,c,d,f,i,i,j,l,o] s):=by kernel_rfl
def fq55.n1_J (a c d f g:AV) (I:Nat→AV→AV→St→Prop) (m:Nat) (ρ:Regs) (s:St):Prop:=∃ i j l o:AV,ρ=[a,c,d,f,g,i,j,l,o]∧I m i j s
theorem fq55.n1_go {I:Nat→AV→AV→St→Prop} {m m':Nat} (hm:m' < m) (h:I m' i j s):LK (fq55.n1_J a c d f g I) m Q .normal [a,c,d,f,g,i,j,l,o] s:=⟨m',hm,_,_,_,_,rfl,h⟩
theorem fq55.n1_l (I:Nat→AV→AV→St→Prop) (m:Nat) (hm:m < E.k) (h0:I m i j s) (step:∀ (m:Nat) (i j l o:AV) (s:St),I m i j s→WC E fq55.n2 [a,c,d,f,g,i,j,l,o] s (LK (fq55.n1_J a c d f g I) m Q)):WC E fq55.n1 [a,c,d,f,g,i,j,l,o] s Q:=WC_loop (J:=fq55.n1_J a c d f g I) m hm ⟨_,_,_,_,rfl,h0⟩ (fun m ρ s ⟨i,j,l,o,e,h⟩=>by rw [e]; exact step m i j l o s h)
theorem fq56.enter {k:Nat} {b:Option Nat} {K:AV→St→Prop} (h:WC ⟨prog,k,some s.heap.length⟩ fq56.n0 [a,c,d,.undef] { s with leak:=false } (RK s.heap.length s.leak fq56.res K)):VC ⟨prog,k + 1,b⟩ F_fq56 [a,c,d] s K:=VC_ra (P:=prog) (F':=fq56.fn) rfl fq56.ra fq56.ul rfl h
theorem fq56.ret {n:Nat} {lk:Bool} {K:AV→St→Prop}:RK n lk fq56.res K .ret [a,c,d,f] s=(K (leave n lk [⟨3,none,none⟩] [f] s).1 (leave n lk [⟨3,none,none⟩] [f] s).2):=by kernel_rfl
theorem fq56.n0_w:WC E fq56.n0 [a,c,d,f] s Q=(VC E F_fq44 [a,c,d] s fun v1 s2=>Q .ret [v1,c,d,v1] s2):=by kernel_rfl
theorem fq53.enter {k:Nat} {b:Option Nat} {K:AV→St→Prop} (h:WC ⟨prog,k,some s.heap.length⟩ fq53.n0 [a,.undef,.undef,.undef] { s with leak:=false } (RK s.heap.length s.leak fq53.res K)):VC ⟨prog,k + 1,b⟩ F_fq53 [a] s K:=VC_ra (P:=prog) (F':=fq53.fn) rfl fq53.ra fq53.ul rfl h
theorem fq53.ret {n:Nat} {lk:Bool} {K:AV→St→Prop}:RK n lk fq53.res K .ret [a,c,d,f] s=(K (leave n lk [⟨1,none,none⟩] [c] s).1 (leave n lk [⟨1,none,none⟩] [c] s).2):=by kernel_rfl
theorem fq53.n0_w:WC E fq53.n0 [a,c,d,f] s Q=((sK (WC E (.block 0 fq53.n1)) (sK (WC E fq53.n7) Q)) .normal [a,(.bool false),(.int .i64 0),f] s):=by kernel_rfl
theorem fq53.n2_w:WC E fq53.n2 [a,c,d,f] s Q=(oM (vLen false a) fun v1=>oM (evBin .lss d v1) fun v2=>cM v2 ((sK (WC E fq53.n4) Q) .normal [a,c,d,v2] s) ((sK (WC E fq53.n4) Q) (.exit 0) [a,c,d,v2] s)):=by kernel_rfl
theorem fq53.n4_w:WC E fq53.n4 [a,c,d,f] s Q=(oM (vIaddr s.heap 1 none a d) fun v1=>oM (ld s.heap none v1) fun v2=>VC E F_fq56 [v2,(.int .i64 0),(.int .i64 1000000)] s fun v3 s4=>oM (evUn .not v3) fun v5=>cM v5 (WC E fq53.n5 [a,c,d,v5] s4 (bK 1 (sK (WC E fq53.n6) Q))) ((bK 1 (sK (WC E fq53.n6) Q)) .normal [a,c,d,v5] s4)):=by kernel_rfl
theorem fq53.n5_w:WC E fq53.n5 [a,c,d,f] s Q=(Q .ret [a,(.bool false),d,f] s):=by kernel_rfl
theorem fq53.n6_w:WC E fq53.n6 [a,c,d,f] s Q=(oM (evBin .add d (.int .i64 1)) fun v1=>Q .normal [a,c,v1,v1] s):=by kernel_rfl
theorem fq53.n7_w:WC E fq53.n7 [a,c,d,f] s Q=(Q .ret [a,(.bool true),d,f] s):=by kernel_rfl
def fq53.n1_J (a:AV) (I:Nat→AV→St→Prop) (m:Nat) (ρ:Regs) (s:St):Prop:=∃ c d f:AV,ρ=[a,c,d,f]∧I m d s
theorem fq53.n1_go {I:Nat→AV→St→Prop} {m m':Nat} (hm:m' < m) (h:I m' d s):LK (fq53.n1_J a I) m Q .normal [a,c,d,f] s:=⟨m',hm,_,_,_,rfl,h⟩
theorem fq53.n1_l (I:Nat→AV→St→Prop) (m:Nat) (hm:m < E.k) (h0:I m d s) (step:∀ (m:Nat) (c d f:AV) (s:St),I m d s→WC E fq53.n2 [a,c,d,f] s (LK (fq53.n1_J a I) m Q)):WC E fq53.n1 [a,c,d,f] s Q:=WC_loop (J:=fq53.n1_J a I) m hm ⟨_,_,_,rfl,h0⟩ (fun m ρ s ⟨c,d,f,e,h⟩=>by rw [e]; exact step m c d f s h)
theorem fq51.enter {k:Nat} {b:Option Nat} {K:AV→St→Prop} (h:WC ⟨prog,k,some s.heap.length⟩ fq51.n0 [a,c,.undef,.undef,.undef,.undef,.undef,.undef,.undef,.undef,.undef,.undef,.undef] { s with leak:=false } (RK s.heap.length s.leak fq51.res K)):VC ⟨prog,k + 1,b⟩ F_fq51 [a,c] s K:=VC_ra (P:=prog) (F':=fq51.fn) rfl fq51.ra fq51.ul rfl h
theorem fq51.ret {n:Nat} {lk:Bool} {K:AV→St→Prop}:RK n lk fq51.res K .ret [a,c,d,f,g,i,j,l,o,p,q,r,t] s=(K (leave n lk [⟨2,none,none⟩] [d] s).1 (leave n lk [⟨2,none,none⟩] [d] s).2):=by kernel_rfl
theorem fq51.n0_w:WC E fq51.n0 [a,c,d,f,g,i,j,l,o,p,q,r,t] s Q=(oM (eBox s 6 a) fun v1=>oM (ld (v1.2).heap (some 6) v1.1) fun v3=>VC E F_fq46 [v3] (v1.2) fun v4 s5=>oM (evUn .not v4) fun v6=>gO v6 false s5 (fun k7=>k7 c s5) fun v8 s8=>gO v6 false s8 (fun k9=>oM (vLen false v8) fun v10=>k9 v10 s8) fun v11 s11=>gO v6 false s11 (fun k12=>oM (vOff 3 v1.1) fun v13=>k12 v13 s11) fun v14 s14=>gO v6 false s14 (fun k15=>oM (ld s14.heap none v14) fun v16=>k15 v16 s14) fun v17 s17=>gO v6 false s17 (fun k18=>oM (vLen false v17) fun v19=>k18 v19 s17) fun v20 s20=>gO v6 false s20 (fun k21=>oM (evBin .neq v11 v20) fun v22=>k21 v22 s20) fun v23 s23=>oM (vPick v6 (.bool true) v23) fun v24=>cM v24 (WC E fq51.n1 [v1.1,c,(.bool false),f,v24,v23,v20,l,o,p,q,r,t] s23 (sK (WC E fq51.n2) Q)) ((sK (WC E fq51.n2) Q) .normal [v1.1,c,(.bool false),f,v24,v23,v20,l,o,p,q,r,t] s23)):=by kernel_rfl
theorem fq51.n1_w:WC E fq51.n1 [a,c,d,f,g,i,j,l,o,p,q,r,t] s Q=(Q .ret [a,c,(.bool false),f,g,i,j,l,o,p,q,r,t] s):=by kernel_rfl
theorem fq51.n2_w:WC E fq51.n2 [a,c,d,f,g,i,j,l,o,p,q,r,t] s Q=((sK (WC E (.block 0 fq51.n3)) (sK (WC E fq51.n9) Q)) .normal [a,c,d,(.int .i64 0),g,i,j,l,o,p,q,r,t] s):=by kernel_rfl
theorem fq51.n4_w:WC E fq51.n4 [a,c,d,f,g,i,j,l,o,p,q,r,t] s Q=(oM (vLen false c) fun v1=>oM (evBin .lss f v1) fun v2=>cM v2 ((sK (WC E fq51.n6) Q) .normal [a,c,d,f,v2,i,j,l,o,p,q,r,t] s) ((sK (WC E fq51.n6) Q) (.exit 0) [a,c,d,f,v2,i,j,l,o,p,q,r,t] s)):=by kernel_rfl
theorem fq51.n6_w:WC E fq51.n6 [a,c,d,f,g,i,j,l,o,p,q,r,t] s Q=(oM (vIaddr s.heap 1 none c f) fun v1=>oM (ld s.heap none v1) fun v2=>oM (ld s.heap (some 6) a) fun v3=>VC E F_fq52 [v3] s fun v4 s5=>oM (evBin .sub v4 (.int .i64 1)) fun v6=>VC E F_fq56 [v2,(.int .i64 0),v6] s5 fun v7 s8=>oM (evUn .not v7) fun v9=>(chkRead E.base [a,c,d,f,c,f,v1,v2,v3,v4,v6,v7,v9] ⟨(some 6),(.iaddr 1 none (.r 4) (.r 5)),none⟩ [s.heap,s5.heap]=true)∧(chkRead E.base [a,c,d,f,c,f,v1,v2,v3,v4,v6,v7,v9] ⟨(some 7),(.load none (.r 6)),none⟩ [s.heap,s5.heap]=true)∧cM v9 (WC E fq51.n7 [a,c,d,f,c,f,v1,v2,v3,v4,v6,v7,v9] s8 (bK 1 (sK (WC E fq51.n8) Q))) ((bK 1 (sK (WC E fq51.n8) Q)) .normal [a,c,d,f,c,f,v1,v2,v3,v4,v6,v7,v9] s8)):=by kernel_rfl
theorem fq51.n7_w:WC E fq51.n7 [a,c,d,f,g,i,j,l,o,p,q,r,t] s Q=(Q .ret [a,c,(.bool false),f,g,i,j,l,o,p,q,r,t] s):=by kernel_rfl
theorem fq51.n8_w:WC E fq51.n8 [a,c,d,f,g,i,j,l,o,p,q,r,t] s Q=(oM (evBin .add f (.int .i64 1)) fun v1=>Q .normal [a,c,d,v1,v1,i,j,l,o,p,q,r,t] s):=by kernel_rfl
theorem fq51.n9_w:WC E fq51.n9 [a,c,d,f,g,i,j,l,o,p,q,r,t] s Q=(Q .ret [a,c,(.bool true),f,g,i,j,l,o,p,q,r,t] s):=by kernel_rfl
def fq51.n3_J (a c:AV) (I:Nat→AV→St→Prop) (m:Nat) (ρ:Regs) (s:St):Prop:=∃ d f g i j l o p q r t:AV,ρ=[a,c,d,f,g,i,j,l,o,p,q,r,t]∧I m f s
theorem fq51.n3_go {I:Nat→AV→St→Prop} {m m':Nat} (hm:m' < m) (h:I m' f s):LK (fq51.n3_J a c I) m Q .normal [a,c,d,f,g,i,j,l,o,p,q,r,t] s:=⟨m',hm,_,_,_,_,_,_,_,_,_,_,_,rfl,h⟩
theorem fq51.n3_l (I:Nat→AV→St→Prop) (m:Nat) (hm:m < E.k) (h0:I m f s) (step:∀ (m:Nat) (d f g i j l o p q r t:AV) (s:St),I m f s→WC E fq51.n4 [a,c,d,f,g,i,j,l,o,p,q,r,t] s (LK (fq51.n3_J a c I) m Q)):WC E fq51.n3 [a,c,d,f,g,i,j,l,o,p,q,r,t] s Q:=WC_loop (J:=fq51.n3_J a c I) m hm ⟨_,_,_,_,_,_,_,_,_,_,_,rfl,h0⟩ (fun m ρ s ⟨d,f,g,i,j,l,o,p,q,r,t,e,h⟩=>by rw [e]; exact step m d f g i j l o p q r t s h)
theorem fq58.enter {k:Nat} {b:Option Nat} {K:AV→St→Prop} (h:WC ⟨prog,k,some s.heap.length⟩ fq58.n0 [a,c,.undef] { s with leak:=false } (RK s.heap.length s.leak fq58.res K)):VC ⟨prog,k + 1,b⟩ F_fq58 [a,c] s K:=VC_ra (P:=prog) (F':=fq58.fn) rfl fq58.ra fq58.ul rfl h
theorem fq58.ret {n:Nat} {lk:Bool} {K:AV→St→Prop}:RK n lk fq58.res K .ret [a,c,d] s=(K (leave n lk [⟨2,none,none⟩] [d] s).1 (leave n lk [⟨2,none,none⟩] [d] s).2):=by kernel_rfl
theorem fq58.n0_w:WC E fq58.n0 [a,c,d] s Q=(VC E F_fq62 [a,c] s fun v1 s2=>oM (evBin .geq v1 (.int .i64 0)) fun v3=>Q .ret [v3,c,v3] s2):=by kernel_rfl
theorem fq13.enter {k:Nat} {b:Option Nat} {K:AV→St→Prop} (h:WC ⟨prog,k,some s.heap.length⟩ fq13.n0 [a,.undef,.undef] { s with leak:=false } (RK s.heap.length s.leak fq13.res K)):VC ⟨prog,k + 1,b⟩ F_fq13 [a] s K:=VC_ra (P:=prog) (F':=fq13.fn) rfl fq13.ra fq13.ul rfl h
theorem fq13.ret {n:Nat} {lk:Bool} {K:AV→St→Prop}:RK n lk fq13.res K .ret [a,c,d] s=(K (leave n lk [⟨1,none,none⟩] [c] s).1 (leave n lk [⟨1,none,none⟩] [c] s).2):=by kernel_rfl
theorem fq13.n0_w:WC E fq13.n0 [a,c,d] s Q=(oM (eBox s 2 a) fun v1=>oM (vOff 0 v1.1) fun v3=>oM (ld (v1.2).heap none v3) fun v4=>oM (vOff 1 v1.1) fun v5=>oM (ld (v1.2).heap none v5) fun v6=>oM (eLit (v1.2) 1 [(.int .i64 0),(.int .i64 0)] [(0,1,v4),(1,1,v6)] false true) fun v7=>VC E F_fq20 [v7.1] (v7.2) fun v9 s10=>oM (evUn .not v9) fun v11=>Q .ret [v11,v11,v4] s10):=by kernel_rfl
theorem fq20.enter {k:Nat} {b:Option Nat} {K:AV→St→Prop} (h:WC ⟨prog,k,some s.heap.length⟩ fq20.n0 [a,.undef] { s with leak:=false } (RK s.heap.length s.leak fq20.res K)):VC ⟨prog,k + 1,b⟩ F_fq20 [a] s K:=VC_ra (P:=prog) (F':=fq20.fn) rfl fq20.ra fq20.ul rfl h
theorem fq20.ret {n:Nat} {lk:Bool} {K:AV→St→Prop}:RK n lk fq20.res K .ret [a,c] s=(K (leave n lk [⟨1,none,none⟩] [c] s).1 (leave n lk [⟨1,none,none⟩] [c] s).2):=by kernel_rfl
theorem fq20.n0_w:WC E fq20.n0 [a,c] s Q=(VC E F_fq59 [a,(.fn F_fq21 [])] s fun v1 s2=>oM (evUn .not v1) fun v3=>Q .ret [v3,v3] s2):=by kernel_rfl
theorem fq14.enter {k:Nat} {b:Option Nat} {K:AV→St→Prop} (h:WC ⟨prog,k,some s.heap.length⟩ fq14.n0 [a,c,d,f,.undef,.undef,.undef,.undef,.undef,.undef,.undef,.undef,.undef,.undef,.undef,.undef,.undef,.undef,.undef,.undef,.undef,.undef,.undef,.undef,.undef,.undef,.undef,.undef,.undef,.undef,.undef,.undef,.undef,.undef,.undef,.undef,.undef,.undef,.undef,.undef,.undef,.undef] { s with leak:=false } (RK s.heap.length s.leak fq14.res K)):VC ⟨prog,k + 1,b⟩ F_fq14 [a,c,d,f] s K:=VC_ra (P:=prog) (F':=fq14.fn) rfl fq14.ra fq14.ul rfl h
theorem fq14.ret {n:Nat} {lk:Bool} {K:AV→St→Prop}:RK n lk fq14.res K .ret [a,c,d,f,g,i,j,l,o,p,q,r,t,u,w,y,z,A,B,C,D,F,G,H,L,M,N,P,R,T,U,V,W,X,Y,Z,a0,a1,a2,a3,a4,a5] s=(K (leave n lk [⟨4,none,none⟩] [g] s).1 (leave n lk [⟨4,none,none⟩] [g] s).2):=by kernel_rfl
theorem fq14.n0_w:WC E fq14.n0 [a,c,d,f,g,i,j,l,o,p,q,r,t,u,w,y,z,A,B,C,D,F,G,H,L,M,N,P,R,T,U,V,W,X,Y,Z,a0,a1,a2,a3,a4,a5] s Q=(oM (ld s.heap none c) fun v1=>oM (vLook s.heap (.mk false [(.int .u64)]) (.agg [(.int .i64 0),(.int .i64 0)]) true v1 a) fun v2=>oM (vExt 0 v2) fun v3=>oM (vExt 1 v2) fun v4=>oM (eStore E.base ((push s (.cells [(.int .i64 0),(.int .i64 0)]))) 2 (.ptr s.heap.length 0 2) v3) fun s5=>cM v4 (WC E fq14.n1 [a,c,d,f,(.int .i64 0),i,v4,v3,(.ptr s.heap.length 0 2),p,q,r,t,u,w,y,z,A,B,C,D,F,G,H,L,M,N,P,R,T,U,V,W,X,Y,Z,a0,a1,a2,a3,a4,a5] s5 (sK (WC E fq14.n2) Q)) ((sK (WC E fq14.n2) Q) .normal [a,c,d,f,(.int .i64 0),i,v4,v3,(.ptr s.heap.length 0 2),p,q,r,t,u,w,y,z,A,B,C,D,F,G,H,L,M,N,P,R,T,U,V,W,X,Y,Z,a0,a1,a2,a3,a4,a5] s5)):=by kernel_rfl
theorem fq14.n1_w:WC E fq14.n1 [a,c,d,f,g,i,j,l,o,p,q,r,t,u,w,y,z,A,B,C,D,F,G,H,L,M,N,P,R,T,U,V,W,X,Y,Z,a0,a1,a2,a3,a4,a5] s Q=(oM (vOff 0 o) fun v1=>oM (ld s.heap none v1) fun v2=>Q .ret [v2,c,d,f,v2,i,j,l,o,p,q,r,t,u,w,y,z,A,B,C,D,F,G,H,L,M,N,P,R,T,U,V,W,X,Y,Z,a0,a1,a2,a3,a4,a5] s):=by kernel_rfl
theorem fq14.n2_w:WC E fq14.n2 [a,c,d,f,g,i,j,l,o,p,q,r,t,u,w,y,z,A,B,C,D,F,G,H,L,M,N,P,R,T,U,V,W,X,Y,Z,a0,a1,a2,a3,a4,a5] s Q=(oM (vOff 0 o) fun v1=>oM (eStore E.base s 1 v1 (.int .i64 (-1))) fun s2=>VC E F_fq38 [a] s2 fun v3 s4=>VC E F_fq39 [a,v3] s4 fun v5 s6=>(sK (WC E (.block 0 fq14.n3)) (sK (WC E fq14.n9) Q)) .normal [a,c,d,f,g,v5,v3,v5,o,p,q,r,t,u,w,y,z,A,B,C,D,F,G,H,L,M,N,P,R,T,U,V,W,X,Y,Z,a0,a1,a2,a3,a4,a5] s6):=by kernel_rfl
theorem fq14.n4_w:WC E fq14.n4 [a,c,d,f,g,i,j,l,o,p,q,r,t,u,w,y,z,A,B,C,D,F,G,H,L,M,N,P,R,T,U,V,W,X,Y,Z,a0,a1,a2,a3,a4,a5] s Q=(oM (evBin .neq i (.int .u64 0)) fun v1=>cM v1 ((sK (WC E fq14.n6) Q) .normal [a,c,d,f,g,i,j,l,o,v1,q,r,t,u,w,y,z,A,B,C,D,F,G,H,L,M,N,P,R,T,U,V,W,X,Y,Z,a0,a1,a2,a3,a4,a5] s) ((sK (WC E fq14.n6) Q) (.exit 0) [a,c,d,f,g,i,j,l,o,v1,q,r,t,u,w,y,z,A,B,C,D,F,G,H,L,M,N,P,R,T,U,V,W,X,Y,Z,a0,a1,a2,a3,a4,a5] s)):=by kernel_rfl
theorem fq14.n6_w:WC E fq14.n6 [a,c,d,f,g,i,j,l,o,p,q,r,t,u,w,y,z,A,B,C,D,F,G,H,L,M,N,P,R,T,U,V,W,X,Y,Z,a0,a1,a2,a3,a4,a5] s Q=(VC E F_fq38 [i] s fun v1 s2=>oM (ld s2.heap none d) fun v3=>VC E F_fq39 [l,v1] s2 fun v4 s5=>VV E v3 [v4] s5 fun v6 s7=>oM (ld s7.heap none f) fun v8=>oM (vIaddr s7.heap 2 none v8 j) fun v9=>oM (vOff 0 v9) fun v10=>oM (ld s7.heap none v10) fun v11=>oM (ld s7.heap none f) fun v12=>oM (vIaddr s7.heap 2 none v12 v1) fun v13=>oM (vOff 0 v13) fun v14=>oM (ld s7.heap none v14) fun v15=>oM (evBin .sub v11 v15) fun v16=>VC E F_fq40 [v16] s7 fun v17 s18=>oM (evBin .add v6 v17) fun v19=>oM (ld s18.heap none f) fun v20=>oM (vIaddr s18.heap 2 none v20 j) fun v21=>oM (vOff 1 v21) fun v22=>oM (ld s18.heap none v22) fun v23=>oM (ld s18.heap none f) fun v24=>oM (vIaddr s18.heap 2 none v24 v1) fun v25=>oM (vOff 1 v25) fun v26=>oM (ld s18.heap none v26) fun v27=>oM (evBin .sub v23 v27) fun v28=>VC E F_fq40 [v28] s18 fun v29 s30=>oM (evBin .add v19 v29) fun v31=>(chkRead E.base [a,c,d,f,g,i,j,l,o,v1,v3,l,v1,v4,v6,v8,j,v9,v10,v11,v12,v1,v13,v14,v15,v16,v17,v19,v20,j,v21,v22,v23,v24,v1,v25,v26,v27,v28,v29,v31,v31] ⟨(some 10),(.load none (.r 2)),none⟩ [s2.heap,s5.heap]=true)∧(chkRead E.base [a,c,d,f,g,i,j,l,o,v1,v3,l,v1,v4,v6,v8,j,v9,v10,v11,v12,v1,v13,v14,v15,v16,v17,v19,v20,j,v21,v22,v23,v24,v1,v25,v26,v27,v28,v29,v31,v31] ⟨(some 15),(.load none (.r 3)),none⟩ [s2.heap,s5.heap,s7.heap]=true)∧(chkRead E.base [a,c,d,f,g,i,j,l,o,v1,v3,l,v1,v4,v6,v8,j,v9,v10,v11,v12,v1,v13,v14,v15,v16,v17,v19,v20,j,v21,v22,v23,v24,v1,v25,v26,v27,v28,v29,v31,v31] ⟨(some 17),(.iaddr 2 none (.r 15) (.r 16)),none⟩ [s2.heap,s5.heap,s7.heap]=true)∧(chkRead E.base [a,c,d,f,g,i,j,l,o,v1,v3,l,v1,v4,v6,v8,j,v9,v10,v11,v12,v1,v13,v14,v15,v16,v17,v19,v20,j,v21,v22,v23,v24,v1,v25,v26,v27,v28,v29,v31,v31] ⟨(some 19),(.load none (.r 18)),none⟩ [s2.heap,s5.heap,s7.heap]=true)∧(chkRead E.base [a,c,d,f,g,i,j,l,o,v1,v3,l,v1,v4,v6,v8,j,v9,v10,v11,v12,v1,v13,v14,v15,v16,v17,v19,v20,j,v21,v22,v23,v24,v1,v25,v26,v27,v28,v29,v31,v31] ⟨(some 20),(.load none (.r 3)),none⟩ [s2.heap,s5.heap,s7.heap]=true)∧(chkRead E.base [a,c,d,f,g,i,j,l,o,v1,v3,l,v1,v4,v6,v8,j,v9,v10,v11,v12,v1,v13,v14,v15,v16,v17,v19,v20,j,v21,v22,v23,v24,v1,v25,v26,v27,v28,v29,v31,v31] ⟨(some 22),(.iaddr 2 none (.r 20) (.r 21)),none⟩ [s2.heap,s5.heap,s7.heap]=true)∧(chkRead E.base [a,c,d,f,g,i,j,l,o,v1,v3,l,v1,v4,v6,v8,j,v9,v10,v11,v12,v1,v13,v14,v15,v16,v17,v19,v20,j,v21,v22,v23,v24,v1,v25,v26,v27,v28,v29,v31,v31] ⟨(some 24),(.load none (.r 23)),none⟩ [s2.heap,s5.heap,s7.heap]=true)∧(chkRead E.base [a,c,d,f,g,i,j,l,o,v1,v3,l,v1,v4,v6,v8,j,v9,v10,v11,v12,v1,v13,v14,v15,v16,v17,v19,v20,j,v21,v22,v23,v24,v1,v25,v26,v27,v28,v29,v31,v31] ⟨(some 28),(.load none (.r 3)),none⟩ [s2.heap,s5.heap,s7.heap,s18.heap]=true)∧(chkRead E.base [a,c,d,f,g,i,j,l,o,v1,v3,l,v1,v4,v6,v8,j,v9,v10,v11,v12,v1,v13,v14,v15,v16,v17,v19,v20,j,v21,v22,v23,v24,v1,v25,v26,v27,v28,v29,v31,v31] ⟨(some 30),(.iaddr 2 none (.r 28) (.r 29)),none⟩ [s2.heap,s5.heap,s7.heap,s18.heap]=true)∧(chkRead E.base [a,c,d,f,g,i,j,l,o,v1,v3,l,v1,v4,v6,v8,j,v9,v10,v11,v12,v1,v13,v14,v15,v16,v17,v19,v20,j,v21,v22,v23,v24,v1,v25,v26,v27,v28,v29,v31,v31] ⟨(some 32),(.load none (.r 31)),none⟩ [s2.heap,s5.heap,s7.heap,s18.heap]=true)∧(chkRead E.base [a,c,d,f,g,i,j,l,o,v1,v3,l,v1,v4,v6,v8,j,v9,v10,v11,v12,v1,v13,v14,v15,v16,v17,v19,v20,j,v21,v22,v23,v24,v1,v25,v26,v27,v28,v29,v31,v31] ⟨(some 33),(.load none (.r 3)),none⟩ [s2.heap,s5.heap,s7.heap,s18.heap]=true)∧(chkRead E.base [a,c,d,f,g,i,j,l,o,v1,v3,l,v1,v4,v6,v8,j,v9,v10,v11,v12,v1,v13,v14,v15,v16,v17,v19,v20,j,v21,v22,v23,v24,v1,v25,v26,v27,v28,v29,v31,v31] ⟨(some 35),(.iaddr 2 none (.r 33) (.r 34)),none⟩ [s2.heap,s5.heap,s7.heap,s18.heap]=true)∧(chkRead E.base [a,c,d,f,g,i,j,l,o,v1,v3,l,v1,v4,v6,v8,j,v9,v10,v11,v12,v1,v13,v14,v15,v16,v17,v19,v20,j,v21,v22,v23,v24,v1,v25,v26,v27,v28,v29,v31,v31] ⟨(some 37),(.load none (.r 36)),none⟩ [s2.heap,s5.heap,s7.heap,s18.heap]=true)∧oM (vOff 0 o) fun v32=>oM (ld s30.heap none v32) fun v33=>oM (evBin .lss v33 (.int .i64 0)) fun v34=>gO v34 false s30 (fun k35=>k35 v31 s30) fun v36 s36=>gO v34 false s36 (fun k37=>oM (vOff 0 o) fun v38=>k37 v38 s36) fun v39 s39=>gO v34 false s39 (fun k40=>oM (ld s39.heap none v39) fun v41=>k40 v41 s39) fun v42 s42=>gO v34 false s42 (fun k43=>oM (evBin .lss v36 v42) fun v44=>k43 v44 s42) fun v45 s45=>oM (vPick v34 (.bool true) v45) fun v46=>cM v46 (WC E fq14.n7 [a,c,d,f,g,i,j,l,o,v1,v46,v45,v42,v4,v6,v8,j,v9,v10,v11,v12,v1,v13,v14,v15,v16,v17,v19,v20,j,v21,v22,v23,v24,v1,v25,v26,v27,v28,v29,v31,v31] s45 (bK 1 (sK (WC E fq14.n8) Q))) ((bK 1 (sK (WC E fq14.n8) Q)) .normal [a,c,d,f,g,i,j,l,o,v1,v46,v45,v42,v4,v6,v8,j,v9,v10,v11,v12,v1,v13,v14,v15,v16,v17,v19,v20,j,v21,v22,v23,v24,v1,v25,v26,v27,v28,v29,v31,v31] s45)):=by kernel_rfl
theorem fq14.n7_w:WC E fq14.n7 [a,c,d,f,g,i,j,l,o,p,q,r,t,u,w,y,z,A,B,C,D,F,G,H,L,M,N,P,R,T,U,V,W,X,Y,Z,a0,a1,a2,a3,a4,a5] s Q=(oM (fillA [(.int .i64 0),(.int .i64 0)] [(0,1,a5),(1,1,p)]) fun v1=>oM (eStore E.base s 2 o (.agg v1)) fun s2=>Q .normal [a,c,d,f,g,i,j,l,o,(.agg v1),q,r,t,u,w,y,z,A,B,C,D,F,G,H,L,M,N,P,R,T,U,V,W,X,Y,Z,a0,a1,a2,a3,a4,a5] s2):=by kernel_rfl
theorem fq14.n8_w:WC E fq14.n8 [a,c,d,f,g,i,j,l,o,p,q,r,t,u,w,y,z,A,B,C,D,F,G,H,L,M,N,P,R,T,U,V,W,X,Y,Z,a0,a1,a2,a3,a4,a5] s Q=(VC E F_fq38 [i] s fun v1 s2=>VC E F_fq39 [i,v1] s2 fun v3 s4=>Q .normal [a,c,d,f,g,v3,j,l,o,v3,q,r,t,u,w,y,z,A,B,C,D,F,G,H,L,M,N,P,R,T,U,V,W,X,Y,Z,a0,a1,a2,a3,a4,a5] s4):=by kernel_rfl
theorem fq14.n9_w:WC E fq14.n9 [a,c,d,f,g,i,j,l,o,p,q,r,t,u,w,y,z,A,B,C,D,F,G,H,L,M,N,P,R,T,U,V,W,X,Y,Z,a0,a1,a2,a3,a4,a5] s Q=(oM (ld s.heap none c) fun v1=>oM (ld s.heap (some 2) o) fun v2=>oM (eMupd E.base s (.mk false [(.int .u64)]) v1 a v2) fun s3=>oM (vOff 0 o) fun v4=>oM (ld s3.heap none v4) fun v5=>Q .ret [v5,v1,v2,f,v5,i,j,l,o,p,q,r,t,u,w,y,z,A,B,C,D,F,G,H,L,M,N,P,R,T,U,V,W,X,Y,Z,a0,a1,a2,a3,a4,a5] s3):=by kernel_rfl
def fq14.n3_J (a c d f g j l o:AV) (I:Nat→AV→St→Prop) (m:Nat) (ρ:Regs) (s:St):Prop:=∃ i p q r t u w y z A B C D F G H L M N P R T U V W X Y Z a0 a1 a2 a3 a4 a5:AV,ρ=[a,c,d,f,g,i,j,l,o,p,q,r,t,u,w,y,z,A,B,C,D,F,G,H,L,M,N,P,R,T,U,V,W,X,Y,Z,a0,a1,a2,a3,a4,a5]∧I m i s
theorem fq14.n3_go {I:Nat→AV→St→Prop} {m m':Nat} (hm:m' < m) (h:I m' i s):LK (fq14.n3_J a c d f g j l o I) m Q .normal [a,c,d,f,g,i,j,l,o,p,q,r,t,u,w,y,z,A,B,C,D,F,G,H,L,M,N,P,R,T,U,V,W,X,Y,Z,a0,a1,a2,a3,a4,a5] s:=⟨m',hm,_,_,_,_,_,_,_,_,_,_,_,_,_,_,_,_,_,_,_,_,_,_,_,_,_,_,_,_,_,_,_,_,_,_,rfl,h⟩
theorem fq14.n3_l (I:Nat→AV→St→Prop) (m:Nat) (hm:m < E.k) (h0:I m i s) (step:∀ (m:Nat) (i p q r t u w y z A B C D F G H L M N P R T U V W X Y Z a0 a1 a2 a3 a4 a5:AV) (s:St),I m i s→WC E fq14.n4 [a,c,d,f,g,i,j,l,o,p,q,r,t,u,w,y,z,A,B,C,D,F,G,H,L,M,N,P,R,T,U,V,W,X,Y,Z,a0,a1,a2,a3,a4,a5] s (LK (fq14.n3_J a c d f g j l o I) m Q)):WC E fq14.n3 [a,c,d,f,g,i,j,l,o,p,q,r,t,u,w,y,z,A,B,C,D,F,G,H,L,M,N,P,R,T,U,V,W,X,Y,Z,a0,a1,a2,a3,a4,a5] s Q:=WC_loop (J:=fq14.n3_J a c d f g j l o I) m hm ⟨_,_,_,_,_,_,_,_,_,_,_,_,_,_,_,_,_,_,_,_,_,_,_,_,_,_,_,_,_,_,_,_,_,_,rfl,h0⟩ (fun m ρ s ⟨i,p,q,r,t,u,w,y,z,A,B,C,D,F,G,H,L,M,N,P,R,T,U,V,W,X,Y,Z,a0,a1,a2,a3,a4,a5,e,h⟩=>by rw [e]; exact step m i p q r t u w y z A B C D F G H L M N P R T U V W X Y Z a0 a1 a2 a3 a4 a5 s h)
theorem fq38.enter {k:Nat} {b:Option Nat} {K:AV→St→Prop} (h:WC ⟨prog,k,some s.heap.length⟩ fq38.n0 [a,.undef] { s with leak:=false } (RK s.heap.length s.leak fq38.res K)):VC ⟨prog,k + 1,b⟩ F_fq38 [a] s K:=VC_ra (P:=prog) (F':=fq38.fn) rfl fq38.ra fq38.ul rfl h
theorem fq38.ret {n:Nat} {lk:Bool} {K:AV→St→Prop}:RK n lk fq38.res K .ret [a,c] s=(K (leave n lk [⟨1,none,none⟩] [c] s).1 (leave n lk [⟨1,none,none⟩] [c] s).2):=by kernel_rfl
theorem fq38.n0_w:WC E fq38.n0 [a,c] s Q=(VC E F_fq0 [a] s fun v1 s2=>Q .ret [v1,v1] s2):=by kernel_rfl
theorem fq39.enter {k:Nat} {b:Option Nat} {K:AV→St→Prop} (h:WC ⟨prog,k,some s.heap.length⟩ fq39.n0 [a,c,.undef] { s with leak:=false } (RK s.heap.length s.leak fq39.res K)):VC ⟨prog,k + 1,b⟩ F_fq39 [a,c] s K:=VC_ra (P:=prog) (F':=fq39.fn) rfl fq39.ra fq39.ul rfl h
theorem fq39.ret {n:Nat} {lk:Bool} {K:AV→St→Prop}:RK n lk fq39.res K .ret [a,c,d] s=(K (leave n lk [⟨2,none,none⟩] [d] s).1 (leave n lk [⟨2,none,none⟩] [d] s).2):=by kernel_rfl
theorem fq39.n0_w:WC E fq39.n0 [a,c,d] s Q=(oM (vConv .u64 c) fun v1=>oM (evBin .shl (.int .u64 1) v1) fun v2=>oM (evBin .andNot a v2) fun v3=>Q .ret [v3,v2,v3] s):=by kernel_rfl
theorem fq40.enter {k:Nat} {b:Option Nat} {K:AV→St→Prop} (h:WC ⟨prog,k,some s.heap.length⟩ fq40.n0 [a,.undef,.undef] { s with leak:=false } (RK s.heap.length s.leak fq40.res K)):VC ⟨prog,k + 1,b⟩ F_fq40 [a] s K:=VC_ra (P:=prog) (F':=fq40.fn) rfl fq40.ra fq40.ul rfl h
theorem fq40.ret {n:Nat} {lk:Bool} {K:AV→St→Prop}:RK n lk fq40.res K .ret [a,c,d] s=(K (leave n lk [⟨1,none,none⟩] [c] s).1 (leave n lk [⟨1,none,none⟩] [c] s).2):=by kernel_rfl
theorem fq40.n0_w:WC E fq40.n0 [a,c,d] s Q=(oM (evUn .neg a) fun v1=>oM (evMinMax true a [v1]) fun v2=>Q .ret [v2,v2,v1] s):=by kernel_rfl
theorem fq16.enter {k:Nat} {b:Option Nat} {K:AV→St→Prop} (h:WC ⟨prog,k,some s.heap.length⟩ fq16.n0 [a,c,d,f,g,.undef,.undef,.undef,.undef,.undef,.undef,.undef,.undef,.undef,.undef,.undef,.undef,.undef,.undef,.undef,.undef,.undef,.undef] { s with leak:=false } (RK s.heap.length s.leak fq16.res K)):VC ⟨prog,k + 1,b⟩ F_fq16 [a,c,d,f,g] s K:=VC_ra (P:=prog) (F':=fq16.fn) rfl fq16.ra fq16.ul rfl h
theorem fq16.ret {n:Nat} {lk:Bool} {K:AV→St→Prop}:RK n lk fq16.res K .ret [a,c,d,f,g,i,j,l,o,p,q,r,t,u,w,y,z,A,B,C,D,F,G] s=(K (leave n lk [⟨5,none,none⟩] [i] s).1 (leave n lk [⟨5,none,none⟩] [i] s).2):=by kernel_rfl
theorem fq16.n0_w:WC E fq16.n0 [a,c,d,f,g,i,j,l,o,p,q,r,t,u,w,y,z,A,B,C,D,F,G] s Q=(oM (evBin .eql a (.int .u64 0)) fun v1=>cM v1 (WC E fq16.n1 [a,c,d,f,g,(.int .i64 0),j,l,v1,p,q,r,t,u,w,y,z,A,B,C,D,F,G] s (sK (WC E fq16.n2) Q)) ((sK (WC E fq16.n2) Q) .normal [a,c,d,f,g,(.int .i64 0),j,l,v1,p,q,r,t,u,w,y,z,A,B,C,D,F,G] s)):=by kernel_rfl
theorem fq16.n1_w:WC E fq16.n1 [a,c,d,f,g,i,j,l,o,p,q,r,t,u,w,y,z,A,B,C,D,F,G] s Q=(Q .ret [a,c,d,f,g,(.int .i64 0),j,l,o,p,q,r,t,u,w,y,z,A,B,C,D,F,G] s):=by kernel_rfl
theorem fq16.n2_w:WC E fq16.n2 [a,c,d,f,g,i,j,l,o,p,q,r,t,u,w,y,z,A,B,C,D,F,G] s Q=(oM (ld s.heap none d) fun v1=>oM (vLook s.heap (.mk false [(.int .u64)]) (.int .i64 0) true v1 a) fun v2=>oM (vExt 0 v2) fun v3=>oM (vExt 1 v2) fun v4=>cM v4 (WC E fq16.n3 [a,c,d,f,g,i,j,l,v4,v3,q,r,t,u,w,y,z,A,B,C,D,F,G] s (sK (WC E fq16.n4) Q)) ((sK (WC E fq16.n4) Q) .normal [a,c,d,f,g,i,j,l,v4,v3,q,r,t,u,w,y,z,A,B,C,D,F,G] s)):=by kernel_rfl
theorem fq16.n3_w:WC E fq16.n3 [a,c,d,f,g,i,j,l,o,p,q,r,t,u,w,y,z,A,B,C,D,F,G] s Q=(Q .ret [a,c,d,f,g,p,j,l,o,p,q,r,t,u,w,y,z,A,B,C,D,F,G] s):=by kernel_rfl
theorem fq16.n4_w:WC E fq16.n4 [a,c,d,f,g,i,j,l,o,p,q,r,t,u,w,y,z,A,B,C,D,F,G] s Q=((sK (WC E (.block 0 fq16.n5)) (sK (WC E fq16.n11) Q)) .normal [a,c,d,f,g,i,(.int .i64 (-1)),a,o,p,q,r,t,u,w,y,z,A,B,C,D,F,G] s):=by kernel_rfl
theorem fq16.n6_w:WC E fq16.n6 [a,c,d,f,g,i,j,l,o,p,q,r,t,u,w,y,z,A,B,C,D,F,G] s Q=(oM (evBin .neq l (.int .u64 0)) fun v1=>cM v1 ((sK (WC E fq16.n8) Q) .normal [a,c,d,f,g,i,j,l,v1,p,q,r,t,u,w,y,z,A,B,C,D,F,G] s) ((sK (WC E fq16.n8) Q) (.exit 0) [a,c,d,f,g,i,j,l,v1,p,q,r,t,u,w,y,z,A,B,C,D,F,G] s)):=by kernel_rfl
theorem fq16.n8_w:WC E fq16.n8 [a,c,d,f,g,i,j,l,o,p,q,r,t,u,w,y,z,A,B,C,D,F,G] s Q=(VC E F_fq34 [l] s fun v1 s2=>oM (ld s2.heap none f) fun v3=>VC E F_fq37 [a,v1] s2 fun v4 s5=>oM (evBin .add c (.int .i64 1)) fun v6=>VV E v3 [v4,v6] s5 fun v7 s8=>oM (vIaddr s8.heap 8 (some 8) g c) fun v9=>oM (vIaddr s8.heap 1 (some 8) v9 v1) fun v10=>oM (ld s8.heap none v10) fun v11=>oM (evBin .add v7 v11) fun v12=>(chkRead E.base [a,c,d,f,g,i,j,l,v1,v3,a,v1,v4,c,v6,v7,c,v1,v9,v10,v11,v12,v12] ⟨(some 9),(.load none (.r 3)),none⟩ [s2.heap,s5.heap]=true)∧(chkRead E.base [a,c,d,f,g,i,j,l,v1,v3,a,v1,v4,c,v6,v7,c,v1,v9,v10,v11,v12,v12] ⟨(some 20),(.load none (.r 19)),none⟩ [s2.heap,s5.heap,s8.heap]=true)∧oM (evBin .lss j (.int .i64 0)) fun v13=>gO v13 false s8 (fun k14=>k14 v12 s8) fun v15 s15=>gO v13 false s15 (fun k16=>k16 j s15) fun v17 s17=>gO v13 false s17 (fun k18=>oM (evBin .lss v15 v17) fun v19=>k18 v19 s17) fun v20 s20=>oM (vPick v13 (.bool true) v20) fun v21=>cM v21 (WC E fq16.n9 [a,c,d,f,g,i,j,l,v21,v20,v17,v1,v4,c,v6,v7,c,v1,v9,v10,v11,v12,v12] s20 (bK 1 (sK (WC E fq16.n10) Q))) ((bK 1 (sK (WC E fq16.n10) Q)) .normal [a,c,d,f,g,i,j,l,v21,v20,v17,v1,v4,c,v6,v7,c,v1,v9,v10,v11,v12,v12] s20)):=by kernel_rfl
theorem fq16.n9_w:WC E fq16.n9 [a,c,d,f,g,i,j,l,o,p,q,r,t,u,w,y,z,A,B,C,D,F,G] s Q=(Q .normal [a,c,d,f,g,i,G,l,o,p,q,r,t,u,w,y,z,A,B,C,D,F,G] s):=by kernel_rfl
theorem fq16.n10_w:WC E fq16.n10 [a,c,d,f,g,i,j,l,o,p,q,r,t,u,w,y,z,A,B,C,D,F,G] s Q=(VC E F_fq34 [l] s fun v1 s2=>VC E F_fq37 [l,v1] s2 fun v3 s4=>Q .normal [a,c,d,f,g,i,j,v3,v3,p,q,r,t,u,w,y,z,A,B,C,D,F,G] s4):=by kernel_rfl
theorem fq16.n11_w:WC E fq16.n11 [a,c,d,f,g,i,j,l,o,p,q,r,t,u,w,y,z,A,B,C,D,F,G] s Q=(oM (ld s.heap none d) fun v1=>oM (eMupd E.base s (.mk false [(.int .u64)]) v1 a j) fun s2=>Q .ret [a,v1,d,f,g,j,j,l,o,p,q,r,t,u,w,y,z,A,B,C,D,F,G] s2):=by kernel_rfl
def fq16.n5_J (a c d f g i:AV) (I:Nat→AV→AV→St→Prop) (m:Nat) (ρ:Regs) (s:St):Prop:=∃ j l o p q r t u w y z A B C D F G:AV,ρ=[a,c,d,f,g,i,j,l,o,p,q,r,t,u,w,y,z,A,B,C,D,F,G]∧I m j l s
theorem fq16.n5_go {I:Nat→AV→AV→St→Prop} {m m':Nat} (hm:m' < m) (h:I m' j l s):LK (fq16.n5_J a c d f g i I) m Q .normal [a,c,d,f,g,i,j,l,o,p,q,r,t,u,w,y,z,A,B,C,D,F,G] s:=⟨m',hm,_,_,_,_,_,_,_,_,_,_,_,_,_,_,_,_,_,rfl,h⟩
theorem fq16.n5_l (I:Nat→AV→AV→St→Prop) (m:Nat) (hm:m < E.k) (h0:I m j l s) (step:∀ (m:Nat) (j l o p q r t u w y z A B C D F G:AV) (s:St),I m j l s→WC E fq16.n6 [a,c,d,f,g,i,j,l,o,p,q,r,t,u,w,y,z,A,B,C,D,F,G] s (LK (fq16.n5_J a c d f g i I) m Q)):WC E fq16.n5 [a,c,d,f,g,i,j,l,o,p,q,r,t,u,w,y,z,A,B,C,D,F,G] s Q:=WC_loop (J:=fq16.n5_J a c d f g i I) m hm ⟨_,_,_,_,_,_,_,_,_,_,_,_,_,_,_,_,_,rfl,h0⟩ (fun m ρ s ⟨j,l,o,p,q,r,t,u,w,y,z,A,B,C,D,F,G,e,h⟩=>by rw [e]; exact step m j l o p q r t u w y z A B C D F G s h)
theorem fq37.enter {k:Nat} {b:Option Nat} {K:AV→St→Prop} (h:WC ⟨prog,k,some s.heap.length⟩ fq37.n0 [a,c,.undef] { s with leak:=false } (RK s.heap.length s.leak fq37.res K)):VC ⟨prog,k + 1,b⟩ F_fq37 [a,c] s K:=VC_ra (P:=prog) (F':=fq37.fn) rfl fq37.ra fq37.ul rfl h
theorem fq37.ret {n:Nat} {lk:Bool} {K:AV→St→Prop}:RK n lk fq37.res K .ret [a,c,d] s=(K (leave n lk [⟨2,none,none⟩] [d] s).1 (leave n lk [⟨2,none,none⟩] [d] s).2):=by kernel_rfl
theorem fq37.n0_w:WC E fq37.n0 [a,c,d] s Q=(oM (vConv .u64 c) fun v1=>oM (evBin .shl (.int .u64 1) v1) fun v2=>oM (evBin .andNot a v2) fun v3=>Q .ret [v3,v2,v3] s):=by kernel_rfl
theorem fq34.enter {k:Nat} {b:Option Nat} {K:AV→St→Prop} (h:WC ⟨prog,k,some s.heap.length⟩ fq34.n0 [a,.undef] { s with leak:=false } (RK s.heap.length s.leak fq34.res K)):VC ⟨prog,k + 1,b⟩ F_fq34 [a] s K:=VC_ra (P:=prog) (F':=fq34.fn) rfl fq34.ra fq34.ul rfl h
theorem fq34.ret {n:Nat} {lk:Bool} {K:AV→St→Prop}:RK n lk fq34.res K .ret [a,c] s=(K (leave n lk [⟨1,none,none⟩] [c] s).1 (leave n lk [⟨1,none,none⟩] [c] s).2):=by kernel_rfl
theorem fq34.n0_w:WC E fq34.n0 [a,c] s Q=(VC E F_fq0 [a] s fun v1 s2=>Q .ret [v1,v1] s2):=by kernel_rfl
theorem fq43.enter {k:Nat} {b:Option Nat} {K:AV→St→Prop} (h:WC ⟨prog,k,some s.heap.length⟩ fq43.n0 [a,c,d,.undef] { s with leak:=false } (RK s.heap.length s.leak fq43.res K)):VC ⟨prog,k + 1,b⟩ F_fq43 [a,c,d] s K:=VC_ra (P:=prog) (F':=fq43.fn) rfl fq43.ra fq43.ul rfl h
theorem fq43.ret {n:Nat} {lk:Bool} {K:AV→St→Prop}:RK n lk fq43.res K .ret [a,c,d,f] s=(K (leave n lk [⟨3,none,none⟩] [f] s).1 (leave n lk [⟨3,none,none⟩] [f] s).2):=by kernel_rfl
theorem fq43.n0_w:WC E fq43.n0 [a,c,d,f] s Q=(oM (evBin .leq c a) fun v1=>gO v1 true s (fun k2=>k2 a s) fun v3 s3=>gO v1 true s3 (fun k4=>k4 d s3) fun v5 s5=>gO v1 true s5 (fun k6=>oM (evBin .leq v3 v5) fun v7=>k6 v7 s5) fun v8 s8=>oM (vPick v1 v8 (.bool false)) fun v9=>Q .ret [v9,v1,v5,v9] s8):=by kernel_rfl
theorem fq60.enter {k:Nat} {b:Option Nat} {K:AV→St→Prop} (h:WC ⟨prog,k,some s.heap.length⟩ fq60.n0 [a,c,.undef] { s with leak:=false } (RK s.heap.length s.leak fq60.res K)):VC ⟨prog,k + 1,b⟩ F_fq60 [a,c] s K:=VC_ra (P:=prog) (F':=fq60.fn) rfl fq60.ra fq60.ul rfl h
theorem fq60.ret {n:Nat} {lk:Bool} {K:AV→St→Prop}:RK n lk fq60.res K .ret [a,c,d] s=(K (leave n lk [⟨2,none,none⟩] [d] s).1 (leave n lk [⟨2,none,none⟩] [d] s).2):=by kernel_rfl
theorem fq60.n0_w:WC E fq60.n0 [a,c,d] s Q=(VC E F_fq64 [a,c] s fun v1 s2=>oM (evBin .geq v1 (.int .i64 0)) fun v3=>Q .ret [v3,c,v3] s2):=by kernel_rfl
theorem fq8.enter {k:Nat} {b:Option Nat} {K:AV→St→Prop} (h:WC ⟨prog,k,some s.heap.length⟩ fq8.n0 [a,c,.undef,.undef,.undef,.undef,.undef,.undef,.undef,.undef] { s with leak:=false } (RK s.heap.length s.leak fq8.res K)):VC ⟨prog,k + 1,b⟩ F_fq8 [a,c] s K:=VC_ra (P:=prog) (F':=fq8.fn) rfl fq8.ra fq8.ul rfl h
theorem fq8.ret {n:Nat} {lk:Bool} {K:AV→St→Prop}:RK n lk fq8.res K .ret [a,c,d,f,g,i,j,l,o,p] s=(K (leave n lk [⟨2,none,none⟩] [d] s).1 (leave n lk [⟨2,none,none⟩] [d] s).2):=by kernel_rfl
theorem fq8.n0_w:WC E fq8.n0 [a,c,d,f,g,i,j,l,o,p] s Q=(oM (vLen false a) fun v1=>(sK (WC E (.block 0 fq8.n1)) (sK (WC E fq8.n8) Q)) .normal [a,c,(.bool false),(.int .u64 0),(.int .i64 0),v1,j,l,o,p] s):=by kernel_rfl
theorem fq8.n2_w:WC E fq8.n2 [a,c,d,f,g,i,j,l,o,p] s Q=(oM (evBin .lss g i) fun v1=>cM v1 ((sK (WC E fq8.n4) Q) .normal [a,c,d,f,g,i,v1,l,o,p] s) ((sK (WC E fq8.n4) Q) (.exit 0) [a,c,d,f,g,i,v1,l,o,p] s)):=by kernel_rfl
theorem fq8.n4_w:WC E fq8.n4 [a,c,d,f,g,i,j,l,o,p] s Q=(oM (vIaddr s.heap 1 none a g) fun v1=>oM (ld s.heap none v1) fun v2=>oM (ld s.heap none c) fun v3=>oM (evBin .sub v3 (.int .i64 1)) fun v4=>VC E F_fq43 [v2,(.int .i64 0),v4] s fun v5 s6=>oM (evUn .not v5) fun v7=>gO v7 false s6 (fun k8=>k8 f s6) fun v9 s9=>gO v7 false s9 (fun k10=>k10 v2 s9) fun v11 s11=>gO v7 false s11 (fun k12=>VC E F_fq35 [v9,v11] s11 fun v13 s14=>k12 v13 s14) fun v15 s15=>oM (vPick v7 (.bool true) v15) fun v16=>cM v16 (WC E fq8.n5 [a,c,d,f,g,i,v2,v16,v15,v11] s15 (sK (WC E fq8.n6) (bK 1 (sK (WC E fq8.n7) Q)))) ((sK (WC E fq8.n6) (bK 1 (sK (WC E fq8.n7) Q))) .normal [a,c,d,f,g,i,v2,v16,v15,v11] s15)):=by kernel_rfl
theorem fq8.n5_w:WC E fq8.n5 [a,c,d,f,g,i,j,l,o,p] s Q=(Q .ret [a,c,(.bool true),f,g,i,j,l,o,p] s):=by kernel_rfl
theorem fq8.n6_w:WC E fq8.n6 [a,c,d,f,g,i,j,l,o,p] s Q=(VC E F_fq36 [f,j] s fun v1 s2=>Q .normal [a,c,d,v1,g,i,v1,l,o,p] s2):=by kernel_rfl
theorem fq8.n7_w:WC E fq8.n7 [a,c,d,f,g,i,j,l,o,p] s Q=(oM (evBin .add g (.int .i64 1)) fun v1=>Q .normal [a,c,d,f,v1,i,v1,l,o,p] s):=by kernel_rfl
theorem fq8.n8_w:WC E fq8.n8 [a,c,d,f,g,i,j,l,o,p] s Q=(oM (vLen false a) fun v1=>oM (ld s.heap none c) fun v2=>oM (evBin .neq v1 v2) fun v3=>Q .ret [v3,v2,v3,f,g,i,j,l,o,p] s):=by kernel_rfl
def fq8.n1_J (a c i:AV) (I:Nat→AV→AV→St→Prop) (m:Nat) (ρ:Regs) (s:St):Prop:=∃ d f g j l o p:AV,ρ=[a,c,d,f,g,i,j,l,o,p]∧I m f g s
theorem fq8.n1_go {I:Nat→AV→AV→St→Prop} {m m':Nat} (hm:m' < m) (h:I m' f g s):LK (fq8.n1_J a c i I) m Q .normal [a,c,d,f,g,i,j,l,o,p] s:=⟨m',hm,_,_,_,_,_,_,_,rfl,h⟩
theorem fq8.n1_l (I:Nat→AV→AV→St→Prop) (m:Nat) (hm:m < E.k) (h0:I m f g s) (step:∀ (m:Nat) (d f g j l o p:AV) (s:St),I m f g s→WC E fq8.n2 [a,c,d,f,g,i,j,l,o,p] s (LK (fq8.n1_J a c i I) m Q)):WC E fq8.n1 [a,c,d,f,g,i,j,l,o,p] s Q:=WC_loop (J:=fq8.n1_J a c i I) m hm ⟨_,_,_,_,_,_,_,rfl,h0⟩ (fun m ρ s ⟨d,f,g,j,l,o,p,e,h⟩=>by rw [e]; exact step m d f g j l o p s h)
theorem fq35.enter {k:Nat} {b:Option Nat} {K:AV→St→Prop} (h:WC ⟨prog,k,some s.heap.length⟩ fq35.n0 [a,c,.undef] { s with leak:=false } (RK s.heap.length s.leak fq35.res K)):VC ⟨prog,k + 1,b⟩ F_fq35 [a,c] s K:=VC_ra (P:=prog) (F':=fq35.fn) rfl fq35.ra fq35.ul rfl h
theorem fq35.ret {n:Nat} {lk:Bool} {K:AV→St→Prop}:RK n lk fq35.res K .ret [a,c,d] s=(K (leave n lk [⟨2,none,none⟩] [d] s).1 (leave n lk [⟨2,none,none⟩] [d] s).2):=by kernel_rfl
theorem fq35.n0_w:WC E fq35.n0 [a,c,d] s Q=(oM (vConv .u64 c) fun v1=>oM (evBin .shr a v1) fun v2=>oM (evBin .and v2 (.int .u64 1)) fun v3=>oM (evBin .eql v3 (.int .u64 1)) fun v4=>Q .ret [v4,v1,v4] s):=by kernel_rfl
theorem fq36.enter {k:Nat} {b:Option Nat} {K:AV→St→Prop} (h:WC ⟨prog,k,some s.heap.length⟩ fq36.n0 [a,c,.undef] { s with leak:=false } (RK s.heap.length s.leak fq36.res K)):VC ⟨prog,k + 1,b⟩ F_fq36 [a,c] s K:=VC_ra (P:=prog) (F':=fq36.fn) rfl fq36.ra fq36.ul rfl h
theorem fq36.ret {n:Nat} {lk:Bool} {K:AV→St→Prop}:RK n lk fq36.res K .ret [a,c,d] s=(K (leave n lk [⟨2,none,none⟩] [d] s).1 (leave n lk [⟨2,none,none⟩] [d] s).2):=by kernel_rfl
theorem fq36.n0_w:WC E fq36.n0 [a,c,d] s Q=(oM (vConv .u64 c) fun v1=>oM (evBin .shl (.int .u64 1) v1) fun v2=>oM (evBin .or a v2) fun v3=>Q .ret [v3,v2,v3] s):=by kernel_rfl
end Go.Proofs.YtcebebhaahpoiaaDoor
end
section
namespace Go.Proofs.YtcebebhaahpoiaaDoor
open Go Go.Ai Go.W
set_option maxRecDepth 100000
set_option linter.unusedVariables false
variable {E:Env} {s:St} {Q:AExit→Regs→St→Prop} {a c d f g i j l o p q r t u w y z A B C D F G H L M N P R T U V W X Y Z a0 a1 a2 a3 a4 a5 a6 a7 a8 a9 c0 c1 c2 c3 c4 c5 c6 c7 c8 c9 d0 d1 d2 d3 d4 d5 d6 d7 d8 d9 f0:AV}
theorem fq29.enter {k:Nat} {b:Option Nat} {K:AV→St→Prop} (h:WC ⟨prog,k,some s.heap.length⟩ fq29.n0 [a,c,.undef,.undef,.undef,.undef,.undef] { s with leak:=false } (RK s.heap.length s.leak fq29.res K)):VC ⟨prog,k + 1,b⟩ F_fq29 [a,c] s K:=VC_ra (P:=prog) (F':=fq29.fn) rfl fq29.ra fq29.ul rfl h
theorem fq29.ret {n:Nat} {lk:Bool} {K:AV→St→Prop}:RK n lk fq29.res K .ret [a,c,d,f,g,i,j] s=(K (leave n lk [⟨2,none,none⟩,⟨3,none,none⟩] [d,f] s).1 (leave n lk [⟨2,none,none⟩,⟨3,none,none⟩] [d,f] s).2):=by kernel_rfl
theorem fq29.n0_w:WC E fq29.n0 [a,c,d,f,g,i,j] s Q=(oM (eBox s 6 a) fun v1=>oM (ld (v1.2).heap (some 6) v1.1) fun v3=>VC E F_fq24 [v3] (v1.2) fun v4 s5=>oM (vExt 0 v4) fun v6=>oM (vExt 1 v4) fun v7=>oM (eStore E.base ((push s5 (.cells [.nilptr]))) 1 (.ptr s5.heap.length 0 1) v6) fun s8=>oM (evUn .not v7) fun v9=>gO v9 false s8 (fun k10=>k10 c s8) fun v11 s11=>gO v9 false s11 (fun k12=>oM (vLen false v11) fun v13=>k12 v13 s11) fun v14 s14=>gO v9 false s14 (fun k15=>oM (vOff 3 v1.1) fun v16=>k15 v16 s14) fun v17 s17=>gO v9 false s17 (fun k18=>oM (ld s17.heap none v17) fun v19=>k18 v19 s17) fun v20 s20=>gO v9 false s20 (fun k21=>oM (vLen false v20) fun v22=>k21 v22 s20) fun v23 s23=>gO v9 false s23 (fun k24=>oM (evBin .neq v14 v23) fun v25=>k24 v25 s23) fun v26 s26=>oM (vPick v9 (.bool true) v26) fun v27=>gO v27 false s26 (fun k28=>k28 c s26) fun v29 s29=>gO v27 false s29 (fun k30=>k30 (.fn F_fq30 [(.ptr s5.heap.length 0 1)]) s29) fun v31 s31=>gO v27 false s31 (fun k32=>VC E F_fq59 [v29,v31] s31 fun v33 s34=>k32 v33 s34) fun v35 s35=>oM (vPick v27 (.bool true) v35) fun v36=>cM v36 (WC E fq29.n1 [v36,v35,.nilptr,(.bool false),v31,v14,(.ptr s5.heap.length 0 1)] s35 (sK (WC E fq29.n2) Q)) ((sK (WC E fq29.n2) Q) .normal [v36,v35,.nilptr,(.bool false),v31,v14,(.ptr s5.heap.length 0 1)] s35)):=by kernel_rfl
theorem fq29.n1_w:WC E fq29.n1 [a,c,d,f,g,i,j] s Q=(Q .ret [a,c,.nilptr,(.bool false),g,i,j] s):=by kernel_rfl
theorem fq29.n2_w:WC E fq29.n2 [a,c,d,f,g,i,j] s Q=(oM (ld s.heap none j) fun v1=>Q .ret [v1,c,v1,(.bool true),g,i,j] s):=by kernel_rfl
theorem fq26.enter {k:Nat} {b:Option Nat} {K:AV→St→Prop} (h:WC ⟨prog,k,some s.heap.length⟩ fq26.n0 [a,c,d,f,.undef,.undef,.undef,.undef,.undef,.undef,.undef,.undef,.undef,.undef,.undef,.undef] { s with leak:=false } (RK s.heap.length s.leak fq26.res K)):VC ⟨prog,k + 1,b⟩ F_fq26 [a,c,d,f] s K:=VC_ra (P:=prog) (F':=fq26.fn) rfl fq26.ra fq26.ul rfl h
theorem fq26.ret {n:Nat} {lk:Bool} {K:AV→St→Prop}:RK n lk fq26.res K .ret [a,c,d,f,g,i,j,l,o,p,q,r,t,u,w,y] s=(K (leave n lk [⟨4,none,none⟩] [g] s).1 (leave n lk [⟨4,none,none⟩] [g] s).2):=by kernel_rfl
theorem fq26.n0_w:WC E fq26.n0 [a,c,d,f,g,i,j,l,o,p,q,r,t,u,w,y] s Q=(oM (vChk a) fun v1=>oM (vOff 0 v1) fun v2=>oM (vOff 4 v2) fun v3=>oM (ld s.heap none v3) fun v4=>oM (vIaddr s.heap 1 none v4 c) fun v5=>oM (ld s.heap none v5) fun v6=>oM (vChk a) fun v7=>oM (vOff 7 v7) fun v8=>oM (ld s.heap none v8) fun v9=>oM (vIaddr s.heap 1 none v9 f) fun v10=>oM (ld s.heap none v10) fun v11=>oM (evBin .mul v6 v11) fun v12=>oM (evBin .andNot f d) fun v13=>oM (vConv .u64 v13) fun v14=>(sK (WC E (.block 0 fq26.n1)) (sK (WC E fq26.n5) Q)) .normal [a,v14,d,f,(.int .i64 0),v12,v14,v11,o,p,q,r,t,u,w,y] s):=by kernel_rfl
theorem fq26.n2_w:WC E fq26.n2 [a,c,d,f,g,i,j,l,o,p,q,r,t,u,w,y] s Q=(oM (evBin .neq j (.int .u64 0)) fun v1=>cM v1 ((sK (WC E fq26.n4) Q) .normal [a,v1,d,f,g,i,j,l,o,p,q,r,t,u,w,y] s) ((sK (WC E fq26.n4) Q) (.exit 0) [a,v1,d,f,g,i,j,l,o,p,q,r,t,u,w,y] s)):=by kernel_rfl
theorem fq26.n4_w:WC E fq26.n4 [a,c,d,f,g,i,j,l,o,p,q,r,t,u,w,y] s Q=(oM (vChk a) fun v1=>oM (vOff 0 v1) fun v2=>oM (vOff 5 v2) fun v3=>oM (ld s.heap none v3) fun v4=>VC E F_fq31 [j] s fun v5 s6=>oM (vIaddr s6.heap 3 none v4 v5) fun v7=>oM (vOff 2 v7) fun v8=>oM (ld s6.heap none v8) fun v9=>oM (evBin .add i v9) fun v10=>(chkRead E.base [a,i,a,v1,g,v10,j,v2,v3,v4,j,v5,v7,v8,v9,v10] ⟨(some 9),(.load none (.r 8)),none⟩ [s.heap,s6.heap]=true)∧VC E F_fq31 [j] s6 fun v11 s12=>VC E F_fq33 [j,v11] s12 fun v13 s14=>Q .normal [a,v13,a,v1,g,v10,v13,v2,v3,v4,j,v5,v7,v8,v9,v10] s14):=by kernel_rfl
theorem fq26.n5_w:WC E fq26.n5 [a,c,d,f,g,i,j,l,o,p,q,r,t,u,w,y] s Q=(Q .ret [a,c,d,f,i,i,j,l,o,p,q,r,t,u,w,y] s):=by kernel_rfl
def fq26.n1_J (a g:AV) (I:Nat→AV→AV→St→Prop) (m:Nat) (ρ:Regs) (s:St):Prop:=∃ c d f i j l o p q r t u w y:AV,ρ=[a,c,d,f,g,i,j,l,o,p,q,r,t,u,w,y]∧I m i j s
theorem fq26.n1_go {I:Nat→AV→AV→St→Prop} {m m':Nat} (hm:m' < m) (h:I m' i j s):LK (fq26.n1_J a g I) m Q .normal [a,c,d,f,g,i,j,l,o,p,q,r,t,u,w,y] s:=⟨m',hm,_,_,_,_,_,_,_,_,_,_,_,_,_,_,rfl,h⟩
theorem fq26.n1_l (I:Nat→AV→AV→St→Prop) (m:Nat) (hm:m < E.k) (h0:I m i j s) (step:∀ (m:Nat) (c d f i j l o p q r t u w y:AV) (s:St),I m i j s→WC E fq26.n2 [a,c,d,f,g,i,j,l,o,p,q,r,t,u,w,y] s (LK (fq26.n1_J a g I) m Q)):WC E fq26.n1 [a,c,d,f,g,i,j,l,o,p,q,r,t,u,w,y] s Q:=WC_loop (J:=fq26.n1_J a g I) m hm ⟨_,_,_,_,_,_,_,_,_,_,_,_,_,_,rfl,h0⟩ (fun m ρ s ⟨c,d,f,i,j,l,o,p,q,r,t,u,w,y,e,h⟩=>by rw [e]; exact step m c d f i j l o p q r t u w y s h)
theorem fq19.enter {k:Nat} {b:Option Nat} {K:AV→St→Prop} (h:WC ⟨prog,k,some s.heap.length⟩ fq19.n0 [a,c,.undef] { s with leak:=false } (RK s.heap.length s.leak fq19.res K)):VC ⟨prog,k + 1,b⟩ F_fq19 [a,c] s K:=VC_ra (P:=prog) (F':=fq19.fn) rfl fq19.ra fq19.ul rfl h
theorem fq19.ret {n:Nat} {lk:Bool} {K:AV→St→Prop}:RK n lk fq19.res K .ret [a,c,d] s=(K (leave n lk [⟨2,none,none⟩] [d] s).1 (leave n lk [⟨2,none,none⟩] [d] s).2):=by kernel_rfl
theorem fq19.n0_w:WC E fq19.n0 [a,c,d] s Q=(VC E F_fq4 [a] s fun v1 s2=>oM (evUn .not v1) fun v3=>cM v3 (WC E fq19.n1 [v3,c,(.int .i64 0)] s2 (bK 0 (sK (WC E fq19.n4) Q))) (WC E fq19.n2 [v3,c,(.int .i64 0)] s2 (bK 0 (sK (WC E fq19.n4) Q)))):=by kernel_rfl
theorem fq19.n1_w:WC E fq19.n1 [a,c,d] s Q=(Q .ret [a,c,(.int .i64 2)] s):=by kernel_rfl
theorem fq19.n2_w:WC E fq19.n2 [a,c,d] s Q=(VC E F_fq43 [c,(.int .i64 1),(.int .i64 8)] s fun v1 s2=>oM (evUn .not v1) fun v3=>cM v3 (WC E fq19.n3 [v3,c,d] s2 Q) (Q .normal [v3,c,d] s2)):=by kernel_rfl
theorem fq19.n3_w:WC E fq19.n3 [a,c,d] s Q=(Q .ret [a,c,(.int .i64 4)] s):=by kernel_rfl
theorem fq19.n4_w:WC E fq19.n4 [a,c,d] s Q=(Q .ret [a,c,(.int .i64 0)] s):=by kernel_rfl
theorem fq18.enter {k:Nat} {b:Option Nat} {K:AV→St→Prop} (h:WC ⟨prog,k,some s.heap.length⟩ fq18.n0 [a,c,d,.undef,.undef,.undef,.undef] { s with leak:=false } (RK s.heap.length s.leak fq18.res K)):VC ⟨prog,k + 1,b⟩ F_fq18 [a,c,d] s K:=VC_ra (P:=prog) (F':=fq18.fn) rfl fq18.ra fq18.ul rfl h
theorem fq18.ret {n:Nat} {lk:Bool} {K:AV→St→Prop}:RK n lk fq18.res K .ret [a,c,d,f,g,i,j] s=(K (leave n lk [⟨3,none,none⟩] [f] s).1 (leave n lk [⟨3,none,none⟩] [f] s).2):=by kernel_rfl
theorem fq18.n0_w:WC E fq18.n0 [a,c,d,f,g,i,j] s Q=(oM (ld s.heap none d) fun v1=>oM (vIaddr s.heap 3 none v1 a) fun v2=>oM (vOff 2 v2) fun v3=>oM (ld s.heap none v3) fun v4=>oM (ld s.heap none d) fun v5=>oM (vIaddr s.heap 3 none v5 c) fun v6=>oM (vOff 2 v6) fun v7=>oM (ld s.heap none v7) fun v8=>oM (evBin .lss v4 v8) fun v9=>gO v9 false s (fun k10=>oM (ld s.heap none d) fun v11=>k10 v11 s) fun v12 s12=>gO v9 false s12 (fun k13=>k13 a s12) fun v14 s14=>gO v9 false s14 (fun k15=>oM (vIaddr s14.heap 3 none v12 v14) fun v16=>k15 v16 s14) fun v17 s17=>gO v9 false s17 (fun k18=>oM (vOff 2 v17) fun v19=>k18 v19 s17) fun v20 s20=>gO v9 false s20 (fun k21=>oM (ld s20.heap none v20) fun v22=>k21 v22 s20) fun v23 s23=>gO v9 false s23 (fun k24=>oM (ld s23.heap none d) fun v25=>k24 v25 s23) fun v26 s26=>gO v9 false s26 (fun k27=>k27 c s26) fun v28 s28=>gO v9 false s28 (fun k29=>oM (vIaddr s28.heap 3 none v26 v28) fun v30=>k29 v30 s28) fun v31 s31=>gO v9 false s31 (fun k32=>oM (vOff 2 v31) fun v33=>k32 v33 s31) fun v34 s34=>gO v9 false s34 (fun k35=>oM (ld s34.heap none v34) fun v36=>k35 v36 s34) fun v37 s37=>gO v9 false s37 (fun k38=>oM (evBin .eql v23 v37) fun v39=>k38 v39 s37) fun v40 s40=>gO v9 false s40 (fun k41=>k41 v40 s40) fun v42 s42=>gO v42 true s42 (fun k43=>k43 a s42) fun v44 s44=>gO v42 true s44 (fun k45=>k45 c s44) fun v46 s46=>gO v42 true s46 (fun k47=>oM (evBin .lss v44 v46) fun v48=>k47 v48 s46) fun v49 s49=>gO v9 false s49 (fun k50=>oM (vPick v42 v49 (.bool false)) fun v51=>k50 v51 s49) fun v52 s52=>oM (vPick v9 (.bool true) v52) fun v53=>Q .ret [v53,v46,v42,v53,v9,v23,v28] s52):=by kernel_rfl
theorem fq41.enter {k:Nat} {b:Option Nat} {K:AV→St→Prop} (h:WC ⟨prog,k,some s.heap.length⟩ fq41.n0 [a,.undef,.undef,.undef,.undef,.undef,.undef,.undef,.undef,.undef,.undef,.undef,.undef,.undef,.undef,.undef] { s with leak:=false } (RK s.heap.length s.leak fq41.res K)):VC ⟨prog,k + 1,b⟩ F_fq41 [a] s K:=VC_ra (P:=prog) (F':=fq41.fn) rfl fq41.ra fq41.ul rfl h
theorem fq41.ret {n:Nat} {lk:Bool} {K:AV→St→Prop}:RK n lk fq41.res K .ret [a,c,d,f,g,i,j,l,o,p,q,r,t,u,w,y] s=(K (leave n lk [⟨1,none,none⟩] [c] s).1 (leave n lk [⟨1,none,none⟩] [c] s).2):=by kernel_rfl
theorem fq41.n0_w:WC E fq41.n0 [a,c,d,f,g,i,j,l,o,p,q,r,t,u,w,y] s Q=(oM (eStore E.base ((push ((push s (.map (.mk false [(.int .i64)]) 0 []))) (.cells [.nilmap]))) 1 (.ptr ((push s (.map (.mk false [(.int .i64)]) 0 []))).heap.length 0 1) (.map s.heap.length)) fun s1=>oM (vLen false a) fun v2=>(sK (WC E (.block 0 fq41.n1)) (sK (WC E fq41.n5) Q)) .normal [a,.nilfn,(.int .i64 0),v2,(.ptr ((push s (.map (.mk false [(.int .i64)]) 0 []))).heap.length 0 1),i,j,l,o,p,q,r,t,u,w,y] s1):=by kernel_rfl
theorem fq41.n2_w:WC E fq41.n2 [a,c,d,f,g,i,j,l,o,p,q,r,t,u,w,y] s Q=(oM (evBin .lss d f) fun v1=>cM v1 ((sK (WC E fq41.n4) Q) .normal [a,c,d,f,g,v1,j,l,o,p,q,r,t,u,w,y] s) ((sK (WC E fq41.n4) Q) (.exit 0) [a,c,d,f,g,v1,j,l,o,p,q,r,t,u,w,y] s)):=by kernel_rfl
theorem fq41.n4_w:WC E fq41.n4 [a,c,d,f,g,i,j,l,o,p,q,r,t,u,w,y] s Q=(oM (vIaddr s.heap 3 none a d) fun v1=>oM (ld s.heap (some 3) v1) fun v2=>oM (eStore E.base ((push s (.cells [(.int .i64 0),(.int .i64 0),(.int .i64 0)]))) 3 (.ptr s.heap.length 0 3) v2) fun s3=>oM (ld s3.heap none g) fun v4=>oM (vOff 1 (.ptr s.heap.length 0 3)) fun v5=>oM (ld s3.heap none v5) fun v6=>oM (ld s3.heap none g) fun v7=>oM (vOff 1 (.ptr s.heap.length 0 3)) fun v8=>oM (ld s3.heap none v8) fun v9=>oM (vLook s3.heap (.mk false [(.int .i64)]) (.slice true 0 []) false v7 v9) fun v10=>oM (eLit s3 1 [(.int .i64 0)] [(0,1,d)] false false) fun v11=>oM (eApp E.base (v11.2) 1 8 v10 v11.1) fun v13=>oM (eMupd E.base (v13.2) (.mk false [(.int .i64)]) v4 v6 v13.1) fun s15=>(chkRead E.base [a,c,d,f,g,v4,(.ptr s.heap.length 0 3),v5,v6,v7,v8,v9,v10,d,v11.1,v13.1] ⟨(some 5),(.load none (.r 4)),none⟩ [s3.heap,(v13.2).heap]=true)∧(chkRead E.base [a,c,d,f,g,v4,(.ptr s.heap.length 0 3),v5,v6,v7,v8,v9,v10,d,v11.1,v13.1] ⟨(some 8),(.load none (.r 7)),none⟩ [s3.heap,(v13.2).heap]=true)∧oM (evBin .add d (.int .i64 1)) fun v16=>Q .normal [a,c,v16,f,g,v16,(.ptr s.heap.length 0 3),v5,v6,v7,v8,v9,v10,d,v11.1,v13.1] s15):=by kernel_rfl
theorem fq41.n5_w:WC E fq41.n5 [a,c,d,f,g,i,j,l,o,p,q,r,t,u,w,y] s Q=(Q .ret [(.fn F_fq42 [g]),(.fn F_fq42 [g]),d,f,g,i,j,l,o,p,q,r,t,u,w,y] s):=by kernel_rfl
theorem fq22.enter {k:Nat} {b:Option Nat} {K:AV→St→Prop} (h:WC ⟨prog,k,some s.heap.length⟩ fq22.n0 [a,c,.undef,.undef,.undef,.undef,.undef] { s with leak:=false } (RK s.heap.length s.leak fq22.res K)):VC ⟨prog,k + 1,b⟩ F_fq22 [a,c] s K:=VC_ra (P:=prog) (F':=fq22.fn) rfl fq22.ra fq22.ul rfl h
theorem fq22.ret {n:Nat} {lk:Bool} {K:AV→St→Prop}:RK n lk fq22.res K .ret [a,c,d,f,g,i,j] s=(K (leave n lk [] [] s).1 (leave n lk [] [] s).2):=by kernel_rfl
theorem fq22.n0_w:WC E fq22.n0 [a,c,d,f,g,i,j] s Q=(oM (vChk a) fun v1=>oM (vOff 0 v1) fun v2=>oM (ld s.heap none v2) fun v3=>oM (eLit s 1 [(.int .i64 0)] [(0,1,c)] false true) fun v4=>oM (eApp E.base (v4.2) 1 8 v3 v4.1) fun v6=>oM (vChk a) fun v8=>oM (vOff 0 v8) fun v9=>oM (eStore E.base (v6.2) 1 v9 v6.1) fun s10=>oM (vChk a) fun v11=>oM (vOff 0 v11) fun v12=>oM (ld s10.heap none v12) fun v13=>oM (vLen false v13) fun v14=>oM (evBin .sub v14 (.int .i64 1)) fun v15=>(sK (WC E (.block 0 fq22.n1)) Q) .normal [a,v15,v15,v9,g,i,j] s10):=by kernel_rfl
theorem fq22.n2_w:WC E fq22.n2 [a,c,d,f,g,i,j] s Q=(oM (evBin .gtr d (.int .i64 0)) fun v1=>cM v1 ((sK (WC E fq22.n4) Q) .normal [a,v1,d,f,g,i,j] s) ((sK (WC E fq22.n4) Q) (.exit 0) [a,v1,d,f,g,i,j] s)):=by kernel_rfl
theorem fq22.n4_w:WC E fq22.n4 [a,c,d,f,g,i,j] s Q=(oM (evBin .sub d (.int .i64 1)) fun v1=>oM (evBin .quo v1 (.int .i64 2)) fun v2=>oM (vChk a) fun v3=>oM (vOff 1 v3) fun v4=>oM (ld s.heap none v4) fun v5=>oM (vChk a) fun v6=>oM (vOff 0 v6) fun v7=>oM (ld s.heap none v7) fun v8=>oM (vIaddr s.heap 1 none v8 d) fun v9=>oM (ld s.heap none v9) fun v10=>oM (vChk a) fun v11=>oM (vOff 0 v11) fun v12=>oM (ld s.heap none v12) fun v13=>oM (vIaddr s.heap 1 none v13 v2) fun v14=>oM (ld s.heap none v14) fun v15=>VV E v5 [v10,v15] s fun v16 s17=>oM (evUn .not v16) fun v18=>cM v18 ((sK (WC E fq22.n5) (bK 1 Q)) .ret [a,v2,d,v18,v10,v15,j] s17) ((sK (WC E fq22.n5) (bK 1 Q)) .normal [a,v2,d,v18,v10,v15,j] s17)):=by kernel_rfl
theorem fq22.n5_w:WC E fq22.n5 [a,c,d,f,g,i,j] s Q=(oM (vChk a) fun v1=>oM (vOff 0 v1) fun v2=>oM (ld s.heap none v2) fun v3=>oM (vChk a) fun v4=>oM (vOff 0 v4) fun v5=>oM (ld s.heap none v5) fun v6=>oM (vChk a) fun v7=>oM (vOff 0 v7) fun v8=>oM (ld s.heap none v8) fun v9=>oM (vIaddr s.heap 1 none v9 c) fun v10=>oM (ld s.heap none v10) fun v11=>oM (vChk a) fun v12=>oM (vOff 0 v12) fun v13=>oM (ld s.heap none v13) fun v14=>oM (vIaddr s.heap 1 none v14 d) fun v15=>oM (ld s.heap none v15) fun v16=>oM (vIaddr s.heap 1 none v3 d) fun v17=>oM (eStore E.base s 1 v17 v11) fun s18=>oM (vIaddr s18.heap 1 none v6 c) fun v19=>oM (eStore E.base s18 1 v19 v16) fun s20=>Q .normal [a,c,c,v19,v6,v11,v16] s20):=by kernel_rfl
theorem fq23.enter {k:Nat} {b:Option Nat} {K:AV→St→Prop} (h:WC ⟨prog,k,some s.heap.length⟩ fq23.n0 [a,.undef,.undef,.undef,.undef,.undef,.undef,.undef,.undef,.undef,.undef,.undef,.undef,.undef] { s with leak:=false } (RK s.heap.length s.leak fq23.res K)):VC ⟨prog,k + 1,b⟩ F_fq23 [a] s K:=VC_ra (P:=prog) (F':=fq23.fn) rfl fq23.ra fq23.ul rfl h
theorem fq23.ret {n:Nat} {lk:Bool} {K:AV→St→Prop}:RK n lk fq23.res K .ret [a,c,d,f,g,i,j,l,o,p,q,r,t,u] s=(K (leave n lk [⟨1,none,none⟩] [c] s).1 (leave n lk [⟨1,none,none⟩] [c] s).2):=by kernel_rfl
theorem fq23.n0_w:WC E fq23.n0 [a,c,d,f,g,i,j,l,o,p,q,r,t,u] s Q=(oM (vChk a) fun v1=>oM (vOff 0 v1) fun v2=>oM (ld s.heap none v2) fun v3=>oM (vIaddr s.heap 1 none v3 (.int .i64 0)) fun v4=>oM (ld s.heap none v4) fun v5=>oM (vChk a) fun v6=>oM (vOff 0 v6) fun v7=>oM (ld s.heap none v7) fun v8=>oM (vLen false v8) fun v9=>oM (evBin .sub v9 (.int .i64 1)) fun v10=>oM (vChk a) fun v11=>oM (vOff 0 v11) fun v12=>oM (ld s.heap none v12) fun v13=>oM (vChk a) fun v14=>oM (vOff 0 v14) fun v15=>oM (ld s.heap none v15) fun v16=>oM (vIaddr s.heap 1 none v16 v10) fun v17=>oM (ld s.heap none v17) fun v18=>oM (vIaddr s.heap 1 none v13 (.int .i64 0)) fun v19=>oM (eStore E.base s 1 v19 v18) fun s20=>oM (vChk a) fun v21=>oM (vOff 0 v21) fun v22=>oM (ld s20.heap none v22) fun v23=>oM (vSlc s20.heap 1 v23 none (some v10)) fun v24=>oM (vChk a) fun v25=>oM (vOff 0 v25) fun v26=>oM (eStore E.base s20 1 v26 v24) fun s27=>(sK (WC E (.block 0 fq23.n1)) Q) .normal [a,(.int .i64 0),(.int .i64 0),f,g,v5,v10,v24,v26,p,q,r,t,u] s27):=by kernel_rfl
theorem fq23.n2_w:WC E fq23.n2 [a,c,d,f,g,i,j,l,o,p,q,r,t,u] s Q=(oM (evBin .mul (.int .i64 2) d) fun v1=>oM (evBin .add v1 (.int .i64 1)) fun v2=>oM (evBin .mul (.int .i64 2) d) fun v3=>oM (evBin .add v3 (.int .i64 2)) fun v4=>oM (fillA [(.int .i64 0),(.int .i64 0)] [(0,1,v2),(1,1,v4)]) fun v5=>(sK (WC E (.block 2 fq23.n3)) (sK (WC E fq23.n9) (bK 1 Q))) .normal [a,c,d,d,(.int .i64 0),i,j,(.agg v5),v4,p,q,r,t,u] s):=by kernel_rfl
theorem fq23.n4_w:WC E fq23.n4 [a,c,d,f,g,i,j,l,o,p,q,r,t,u] s Q=(oM (evBin .lss g (.int .i64 2)) fun v1=>cM v1 ((sK (WC E fq23.n6) Q) .normal [a,c,d,f,g,i,j,l,v1,p,q,r,t,u] s) ((sK (WC E fq23.n6) Q) (.exit 2) [a,c,d,f,g,i,j,l,v1,p,q,r,t,u] s)):=by kernel_rfl
theorem fq23.n6_w:WC E fq23.n6 [a,c,d,f,g,i,j,l,o,p,q,r,t,u] s Q=(oM (vAidx 1 2 none l g) fun v1=>oM (evBin .lss v1 j) fun v2=>gO v2 true s (fun k3=>k3 a s) fun v4 s4=>gO v2 true s4 (fun k5=>oM (vChk v4) fun v6=>k5 v6 s4) fun v7 s7=>gO v2 true s7 (fun k8=>oM (vOff 1 v7) fun v9=>k8 v9 s7) fun v10 s10=>gO v2 true s10 (fun k11=>oM (ld s10.heap none v10) fun v12=>k11 v12 s10) fun v13 s13=>gO v2 true s13 (fun k14=>k14 a s13) fun v15 s15=>gO v2 true s15 (fun k16=>oM (vChk v15) fun v17=>k16 v17 s15) fun v18 s18=>gO v2 true s18 (fun k19=>oM (vOff 0 v18) fun v20=>k19 v20 s18) fun v21 s21=>gO v2 true s21 (fun k22=>oM (ld s21.heap none v21) fun v23=>k22 v23 s21) fun v24 s24=>gO v2 true s24 (fun k25=>k25 v1 s24) fun v26 s26=>gO v2 true s26 (fun k27=>oM (vIaddr s26.heap 1 none v24 v26) fun v28=>k27 v28 s26) fun v29 s29=>gO v2 true s29 (fun k30=>oM (ld s29.heap none v29) fun v31=>k30 v31 s29) fun v32 s32=>gO v2 true s32 (fun k33=>k33 a s32) fun v34 s34=>gO v2 true s34 (fun k35=>oM (vChk v34) fun v36=>k35 v36 s34) fun v37 s37=>gO v2 true s37 (fun k38=>oM (vOff 0 v37) fun v39=>k38 v39 s37) fun v40 s40=>gO v2 true s40 (fun k41=>oM (ld s40.heap none v40) fun v42=>k41 v42 s40) fun v43 s43=>gO v2 true s43 (fun k44=>k44 f s43) fun v45 s45=>gO v2 true s45 (fun k46=>oM (vIaddr s45.heap 1 none v43 v45) fun v47=>k46 v47 s45) fun v48 s48=>gO v2 true s48 (fun k49=>oM (ld s48.heap none v48) fun v50=>k49 v50 s48) fun v51 s51=>gO v2 true s51 (fun k52=>VV E v13 [v32,v51] s51 fun v53 s54=>k52 v53 s54) fun v55 s55=>oM (vPick v2 v55 (.bool false)) fun v56=>cM v56 (WC E fq23.n7 [a,c,d,f,g,i,j,l,v1,v56,v55,v32,v51,v45] s55 (bK 3 (sK (WC E fq23.n8) Q))) ((bK 3 (sK (WC E fq23.n8) Q)) .normal [a,c,d,f,g,i,j,l,v1,v56,v55,v32,v51,v45] s55)):=by kernel_rfl
theorem fq23.n8_w:WC E fq23.n8 [a,c,d,f,g,i,j,l,o,p,q,r,t,u] s Q=(oM (evBin .add g (.int .i64 1)) fun v1=>Q .normal [a,c,d,f,v1,i,j,l,v1,p,q,r,t,u] s):=by kernel_rfl
theorem fq23.n9_w:WC E fq23.n9 [a,c,d,f,g,i,j,l,o,p,q,r,t,u] s Q=(oM (evBin .eql f d) fun v1=>cM v1 (WC E fq23.n10 [a,c,d,f,g,i,j,v1,o,p,q,r,t,u] s (sK (WC E fq23.n11) Q)) ((sK (WC E fq23.n11) Q) .normal [a,c,d,f,g,i,j,v1,o,p,q,r,t,u] s)):=by kernel_rfl
theorem fq23.n10_w:WC E fq23.n10 [a,c,d,f,g,i,j,l,o,p,q,r,t,u] s Q=(Q .ret [a,i,d,f,g,i,j,l,o,p,q,r,t,u] s):=by kernel_rfl
theorem fq32.enter {k:Nat} {b:Option Nat} {K:AV→St→Prop} (h:WC ⟨prog,k,some s.heap.length⟩ fq32.n0 [a,c,.undef] { s with leak:=false } (RK s.heap.length s.leak fq32.res K)):VC ⟨prog,k + 1,b⟩ F_fq32 [a,c] s K:=VC_ra (P:=prog) (F':=fq32.fn) rfl fq32.ra fq32.ul rfl h
theorem fq32.ret {n:Nat} {lk:Bool} {K:AV→St→Prop}:RK n lk fq32.res K .ret [a,c,d] s=(K (leave n lk [⟨2,none,none⟩] [d] s).1 (leave n lk [⟨2,none,none⟩] [d] s).2):=by kernel_rfl
theorem fq32.n0_w:WC E fq32.n0 [a,c,d] s Q=(oM (vConv .u64 c) fun v1=>oM (evBin .shr a v1) fun v2=>oM (evBin .and v2 (.int .u64 1)) fun v3=>oM (evBin .eql v3 (.int .u64 1)) fun v4=>Q .ret [v4,v1,v4] s):=by kernel_rfl
theorem fq28.enter {k:Nat} {b:Option Nat} {K:AV→St→Prop} (h:WC ⟨prog,k,some s.heap.length⟩ fq28.n0 [a,.undef,.undef,.undef,.undef,.undef,.undef,.undef,.undef,.undef,.undef,.undef] { s with leak:=false } (RK s.heap.length s.leak fq28.res K)):VC ⟨prog,k + 1,b⟩ F_fq28 [a] s K:=VC_ra (P:=prog) (F':=fq28.fn) rfl fq28.ra fq28.ul rfl h
theorem fq28.ret {n:Nat} {lk:Bool} {K:AV→St→Prop}:RK n lk fq28.res K .ret [a,c,d,f,g,i,j,l,o,p,q,r] s=(K (leave n lk [⟨1,none,none⟩] [c] s).1 (leave n lk [⟨1,none,none⟩] [c] s).2):=by kernel_rfl
theorem fq28.n0_w:WC E fq28.n0 [a,c,d,f,g,i,j,l,o,p,q,r] s Q=(oM (vChk a) fun v1=>oM (vOff 0 v1) fun v2=>oM (vOff 0 v2) fun v3=>oM (ld ((push s (.map (.mk true [(.int .i64),(.int .i64)]) 0 []))).heap none v3) fun v4=>oM (fillA [(.int .i64 0),(.int .i64 0)] [(0,1,v4),(1,1,(.int .i64 0))]) fun v5=>oM (eMupd E.base ((push s (.map (.mk true [(.int .i64),(.int .i64)]) 0 []))) (.mk true [(.int .i64),(.int .i64)]) (.map s.heap.length) (.agg v5) (.bool true)) fun s6=>oM (eLit s6 1 [.nilmap] [(0,1,(.map s.heap.length))] false true) fun v7=>oM (vChk a) fun v9=>oM (vOff 0 v9) fun v10=>oM (vOff 3 v10) fun v11=>oM (ld (v7.2).heap none v11) fun v12=>oM (vLen false v12) fun v13=>(sK (WC E (.block 0 fq28.n1)) (sK (WC E fq28.n17) Q)) .normal [a,(.slice true 0 []),v7.1,(.int .i64 0),g,v13,(.agg v5),l,o,p,q,r] (v7.2)):=by kernel_rfl
theorem fq28.n2_w:WC E fq28.n2 [a,c,d,f,g,i,j,l,o,p,q,r] s Q=(oM (evBin .lss f i) fun v1=>cM v1 ((sK (WC E fq28.n4) Q) .normal [a,c,d,f,g,i,v1,l,o,p,q,r] s) ((sK (WC E fq28.n4) Q) (.exit 0) [a,c,d,f,g,i,v1,l,o,p,q,r] s)):=by kernel_rfl
theorem fq28.n4_w:WC E fq28.n4 [a,c,d,f,g,i,j,l,o,p,q,r] s Q=(oM (vIaddr ((push s (.map (.mk true [(.int .i64),(.int .i64)]) 0 []))).heap 1 none d f) fun v1=>oM (ld ((push s (.map (.mk true [(.int .i64),(.int .i64)]) 0 []))).heap none v1) fun v2=>oM (eRange ((push s (.map (.mk true [(.int .i64),(.int .i64)]) 0 []))) v2) fun v3=>(sK (WC E (.block 2 fq28.n5)) (sK (WC E fq28.n15) (bK 1 (sK (WC E fq28.n16) Q)))) .normal [a,c,d,f,g,i,(.map s.heap.length),v3.1,o,p,q,r] (v3.2)):=by kernel_rfl
theorem fq28.n6_w:WC E fq28.n6 [a,c,d,f,g,i,j,l,o,p,q,r] s Q=(VN l s fun v1 s2=>oM (vExt 0 v1) fun v3=>cM v3 ((sK (WC E fq28.n8) Q) .normal [a,c,d,f,g,i,j,l,v3,p,q,r] s2) ((sK (WC E fq28.n8) Q) (.exit 2) [a,c,d,f,g,i,j,l,v3,p,q,r] s2)):=by kernel_rfl
theorem fq28.n8_w:WC E fq28.n8 [a,c,d,f,g,i,j,l,o,p,q,r] s Q=(oM (vEntry s.heap l) fun v1=>oM (vExt 0 v1) fun v2=>oM (eStore E.base ((push s (.cells [(.int .i64 0),(.int .i64 0)]))) 2 (.ptr s.heap.length 0 2) v2) fun s3=>oM (vChk a) fun v4=>oM (vOff 6 v4) fun v5=>oM (ld s3.heap none v5) fun v6=>oM (vLen false v6) fun v7=>(sK (WC E (.block 4 fq28.n9)) (bK 3 Q)) .normal [a,c,d,f,(.int .i64 0),i,j,l,v7,(.ptr s.heap.length 0 2),q,r] s3):=by kernel_rfl
theorem fq28.n10_w:WC E fq28.n10 [a,c,d,f,g,i,j,l,o,p,q,r] s Q=(oM (evBin .lss g o) fun v1=>cM v1 ((sK (WC E fq28.n12) Q) .normal [a,c,d,f,g,i,j,l,o,p,v1,r] s) ((sK (WC E fq28.n12) Q) (.exit 4) [a,c,d,f,g,i,j,l,o,p,v1,r] s)):=by kernel_rfl
theorem fq28.n12_w:WC E fq28.n12 [a,c,d,f,g,i,j,l,o,p,q,r] s Q=(oM (vOff 0 p) fun v1=>oM (ld s.heap none v1) fun v2=>VC E F_fq27 [a,f,v2,g] s fun v3 s4=>oM (vChk a) fun v5=>oM (vOff 0 v5) fun v6=>oM (vOff 2 v6) fun v7=>oM (ld s4.heap none v7) fun v8=>oM (evBin .leq v3 v8) fun v9=>cM v9 (WC E fq28.n13 [a,c,d,f,g,i,j,l,o,p,v3,v9] s4 (bK 5 (sK (WC E fq28.n14) Q))) ((bK 5 (sK (WC E fq28.n14) Q)) .normal [a,c,d,f,g,i,j,l,o,p,v3,v9] s4)):=by kernel_rfl
theorem fq28.n13_w:WC E fq28.n13 [a,c,d,f,g,i,j,l,o,p,q,r] s Q=(oM (fillA [(.int .i64 0),(.int .i64 0)] [(0,1,q),(1,1,g)]) fun v1=>oM (eMupd E.base s (.mk true [(.int .i64),(.int .i64)]) j (.agg v1) (.bool true)) fun s2=>Q .normal [a,c,d,f,g,i,j,l,o,p,(.agg v1),r] s2):=by kernel_rfl
theorem fq28.n14_w:WC E fq28.n14 [a,c,d,f,g,i,j,l,o,p,q,r] s Q=(oM (evBin .add g (.int .i64 1)) fun v1=>Q .normal [a,c,d,f,v1,i,j,l,o,p,v1,r] s):=by kernel_rfl
theorem fq28.n15_w:WC E fq28.n15 [a,c,d,f,g,i,j,l,o,p,q,r] s Q=(oM (eLit s 1 [.nilmap] [(0,1,j)] false true) fun v1=>oM (eApp E.base (v1.2) 1 8 d v1.1) fun v3=>Q .normal [a,c,v3.1,f,g,i,v3.1,l,o,p,q,r] (v3.2)):=by kernel_rfl
theorem fq28.n16_w:WC E fq28.n16 [a,c,d,f,g,i,j,l,o,p,q,r] s Q=(oM (evBin .add f (.int .i64 1)) fun v1=>Q .normal [a,c,d,v1,g,i,v1,l,o,p,q,r] s):=by kernel_rfl
theorem fq28.n17_w:WC E fq28.n17 [a,c,d,f,g,i,j,l,o,p,q,r] s Q=(Q .ret [a,d,d,f,g,i,j,l,o,p,q,r] s):=by kernel_rfl
def fq28.n1_J (a c i:AV) (I:Nat→AV→AV→St→Prop) (m:Nat) (ρ:Regs) (s:St):Prop:=∃ d f g j l o p q r:AV,ρ=[a,c,d,f,g,i,j,l,o,p,q,r]∧I m d f s
theorem fq28.n1_go {I:Nat→AV→AV→St→Prop} {m m':Nat} (hm:m' < m) (h:I m' d f s):LK (fq28.n1_J a c i I) m Q .normal [a,c,d,f,g,i,j,l,o,p,q,r] s:=⟨m',hm,_,_,_,_,_,_,_,_,_,rfl,h⟩
theorem fq28.n1_l (I:Nat→AV→AV→St→Prop) (m:Nat) (hm:m < E.k) (h0:I m d f s) (step:∀ (m:Nat) (d f g j l o p q r:AV) (s:St),I m d f s→WC E fq28.n2 [a,c,d,f,g,i,j,l,o,p,q,r] s (LK (fq28.n1_J a c i I) m Q)):WC E fq28.n1 [a,c,d,f,g,i,j,l,o,p,q,r] s Q:=WC_loop (J:=fq28.n1_J a c i I) m hm ⟨_,_,_,_,_,_,_,_,_,rfl,h0⟩ (fun m ρ s ⟨d,f,g,j,l,o,p,q,r,e,h⟩=>by rw [e]; exact step m d f g j l o p q r s h)
def fq28.n5_J (a c d f i j l:AV) (I:Nat→St→Prop) (m:Nat) (ρ:Regs) (s:St):Prop:=∃ g o p q r:AV,ρ=[a,c,d,f,g,i,j,l,o,p,q,r]∧I m  s
theorem fq28.n5_go {I:Nat→St→Prop} {m m':Nat} (hm:m' < m) (h:I m'  s):LK (fq28.n5_J a c d f i j l I) m Q .normal [a,c,d,f,g,i,j,l,o,p,q,r] s:=⟨m',hm,_,_,_,_,_,rfl,h⟩
theorem fq28.n5_l (I:Nat→St→Prop) (m:Nat) (hm:m < E.k) (h0:I m  s) (step:∀ (m:Nat) (g o p q r:AV) (s:St),I m  s→WC E fq28.n6 [a,c,d,f,g,i,j,l,o,p,q,r] s (LK (fq28.n5_J a c d f i j l I) m Q)):WC E fq28.n5 [a,c,d,f,g,i,j,l,o,p,q,r] s Q:=WC_loop (J:=fq28.n5_J a c d f i j l I) m hm ⟨_,_,_,_,_,rfl,h0⟩ (fun m ρ s ⟨g,o,p,q,r,e,h⟩=>by rw [e]; exact step m g o p q r s h)
def fq28.n9_J (a c d f i j l o p:AV) (I:Nat→AV→St→Prop) (m:Nat) (ρ:Regs) (s:St):Prop:=∃ g q r:AV,ρ=[a,c,d,f,g,i,j,l,o,p,q,r]∧I m g s
theorem fq28.n9_go {I:Nat→AV→St→Prop} {m m':Nat} (hm:m' < m) (h:I m' g s):LK (fq28.n9_J a c d f i j l o p I) m Q .normal [a,c,d,f,g,i,j,l,o,p,q,r] s:=⟨m',hm,_,_,_,rfl,h⟩
theorem fq28.n9_l (I:Nat→AV→St→Prop) (m:Nat) (hm:m < E.k) (h0:I m g s) (step:∀ (m:Nat) (g q r:AV) (s:St),I m g s→WC E fq28.n10 [a,c,d,f,g,i,j,l,o,p,q,r] s (LK (fq28.n9_J a c d f i j l o p I) m Q)):WC E fq28.n9 [a,c,d,f,g,i,j,l,o,p,q,r] s Q:=WC_loop (J:=fq28.n9_J a c d f i j l o p I) m hm ⟨_,_,_,rfl,h0⟩ (fun m ρ s ⟨g,q,r,e,h⟩=>by rw [e]; exact step m g q r s h)
theorem fq49.enter {k:Nat} {b:Option Nat} {K:AV→St→Prop} (h:WC ⟨prog,k,some s.heap.length⟩ fq49.n0 [a,c,.undef,.undef,.undef] { s with leak:=false } (RK s.heap.length s.leak fq49.res K)):VC ⟨prog,k + 1,b⟩ F_fq49 [a,c] s K:=VC_ra (P:=prog) (F':=fq49.fn) rfl fq49.ra fq49.ul rfl h
theorem fq49.ret {n:Nat} {lk:Bool} {K:AV→St→Prop}:RK n lk fq49.res K .ret [a,c,d,f,g] s=(K (leave n lk [⟨2,none,none⟩] [d] s).1 (leave n lk [⟨2,none,none⟩] [d] s).2):=by kernel_rfl
theorem fq49.n0_w:WC E fq49.n0 [a,c,d,f,g] s Q=((sK (WC E (.block 0 fq49.n1)) (sK (WC E fq49.n5) Q)) .normal [a,c,(.bool false),(.int .i64 0),g] s):=by kernel_rfl
theorem fq49.n2_w:WC E fq49.n2 [a,c,d,f,g] s Q=(oM (evBin .lss f c) fun v1=>cM v1 ((sK (WC E fq49.n4) Q) .normal [a,c,d,f,v1] s) ((sK (WC E fq49.n4) Q) (.exit 0) [a,c,d,f,v1] s)):=by kernel_rfl
theorem fq49.n4_w:WC E fq49.n4 [a,c,d,f,g] s Q=(oM (evBin .quo a (.int .i64 2)) fun v1=>oM (evBin .add f (.int .i64 1)) fun v2=>Q .normal [v1,c,d,v2,v2] s):=by kernel_rfl
theorem fq49.n5_w:WC E fq49.n5 [a,c,d,f,g] s Q=(oM (evBin .rem a (.int .i64 2)) fun v1=>oM (evBin .eql v1 (.int .i64 1)) fun v2=>Q .ret [a,v2,v2,f,g] s):=by kernel_rfl
def fq49.n1_J (c d:AV) (I:Nat→AV→AV→St→Prop) (m:Nat) (ρ:Regs) (s:St):Prop:=∃ a f g:AV,ρ=[a,c,d,f,g]∧I m a f s
theorem fq49.n1_go {I:Nat→AV→AV→St→Prop} {m m':Nat} (hm:m' < m) (h:I m' a f s):LK (fq49.n1_J c d I) m Q .normal [a,c,d,f,g] s:=⟨m',hm,_,_,_,rfl,h⟩
theorem fq49.n1_l (I:Nat→AV→AV→St→Prop) (m:Nat) (hm:m < E.k) (h0:I m a f s) (step:∀ (m:Nat) (a f g:AV) (s:St),I m a f s→WC E fq49.n2 [a,c,d,f,g] s (LK (fq49.n1_J c d I) m Q)):WC E fq49.n1 [a,c,d,f,g] s Q:=WC_loop (J:=fq49.n1_J c d I) m hm ⟨_,_,_,rfl,h0⟩ (fun m ρ s ⟨a,f,g,e,h⟩=>by rw [e]; exact step m a f g s h)
theorem fq44.enter {k:Nat} {b:Option Nat} {K:AV→St→Prop} (h:WC ⟨prog,k,some s.heap.length⟩ fq44.n0 [a,c,d,.undef] { s with leak:=false } (RK s.heap.length s.leak fq44.res K)):VC ⟨prog,k + 1,b⟩ F_fq44 [a,c,d] s K:=VC_ra (P:=prog) (F':=fq44.fn) rfl fq44.ra fq44.ul rfl h
theorem fq44.ret {n:Nat} {lk:Bool} {K:AV→St→Prop}:RK n lk fq44.res K .ret [a,c,d,f] s=(K (leave n lk [⟨3,none,none⟩] [f] s).1 (leave n lk [⟨3,none,none⟩] [f] s).2):=by kernel_rfl
theorem fq44.n0_w:WC E fq44.n0 [a,c,d,f] s Q=(oM (evBin .leq c a) fun v1=>gO v1 true s (fun k2=>k2 a s) fun v3 s3=>gO v1 true s3 (fun k4=>k4 d s3) fun v5 s5=>gO v1 true s5 (fun k6=>oM (evBin .leq v3 v5) fun v7=>k6 v7 s5) fun v8 s8=>oM (vPick v1 v8 (.bool false)) fun v9=>Q .ret [v9,v1,v5,v9] s8):=by kernel_rfl
theorem fq62.enter {k:Nat} {b:Option Nat} {K:AV→St→Prop} (h:WC ⟨prog,k,some s.heap.length⟩ fq62.n0 [a,c,.undef,.undef,.undef,.undef] { s with leak:=false } (RK s.heap.length s.leak fq62.res K)):VC ⟨prog,k + 1,b⟩ F_fq62 [a,c] s K:=VC_ra (P:=prog) (F':=fq62.fn) rfl fq62.ra fq62.ul rfl h
theorem fq62.ret {n:Nat} {lk:Bool} {K:AV→St→Prop}:RK n lk fq62.res K .ret [a,c,d,f,g,i] s=(K (leave n lk [⟨2,none,none⟩] [d] s).1 (leave n lk [⟨2,none,none⟩] [d] s).2):=by kernel_rfl
theorem fq62.n0_w:WC E fq62.n0 [a,c,d,f,g,i] s Q=(oM (vLen false a) fun v1=>(sK (WC E (.block 0 fq62.n1)) (sK (WC E fq62.n7) Q)) .normal [a,c,(.int .i64 0),(.int .i64 0),v1,i] s):=by kernel_rfl
theorem fq62.n2_w:WC E fq62.n2 [a,c,d,f,g,i] s Q=(oM (evBin .lss f g) fun v1=>cM v1 ((sK (WC E fq62.n4) Q) .normal [a,c,d,f,g,v1] s) ((sK (WC E fq62.n4) Q) (.exit 0) [a,c,d,f,g,v1] s)):=by kernel_rfl
theorem fq62.n4_w:WC E fq62.n4 [a,c,d,f,g,i] s Q=(oM (vIaddr s.heap 2 none a f) fun v1=>oM (ld s.heap (some 2) v1) fun v2=>VV E c [v2] s fun v3 s4=>cM v3 (WC E fq62.n5 [a,c,d,f,g,v3] s4 (bK 1 (sK (WC E fq62.n6) Q))) ((bK 1 (sK (WC E fq62.n6) Q)) .normal [a,c,d,f,g,v3] s4)):=by kernel_rfl
theorem fq62.n5_w:WC E fq62.n5 [a,c,d,f,g,i] s Q=(Q .ret [a,c,f,f,g,i] s):=by kernel_rfl
theorem fq62.n6_w:WC E fq62.n6 [a,c,d,f,g,i] s Q=(oM (evBin .add f (.int .i64 1)) fun v1=>Q .normal [a,c,d,v1,g,v1] s):=by kernel_rfl
theorem fq62.n7_w:WC E fq62.n7 [a,c,d,f,g,i] s Q=(Q .ret [a,c,(.int .i64 (-1)),f,g,i] s):=by kernel_rfl
def fq62.n1_J (a c g:AV) (I:Nat→AV→St→Prop) (m:Nat) (ρ:Regs) (s:St):Prop:=∃ d f i:AV,ρ=[a,c,d,f,g,i]∧I m f s
theorem fq62.n1_go {I:Nat→AV→St→Prop} {m m':Nat} (hm:m' < m) (h:I m' f s):LK (fq62.n1_J a c g I) m Q .normal [a,c,d,f,g,i] s:=⟨m',hm,_,_,_,rfl,h⟩
theorem fq62.n1_l (I:Nat→AV→St→Prop) (m:Nat) (hm:m < E.k) (h0:I m f s) (step:∀ (m:Nat) (d f i:AV) (s:St),I m f s→WC E fq62.n2 [a,c,d,f,g,i] s (LK (fq62.n1_J a c g I) m Q)):WC E fq62.n1 [a,c,d,f,g,i] s Q:=WC_loop (J:=fq62.n1_J a c g I) m hm ⟨_,_,_,rfl,h0⟩ (fun m ρ s ⟨d,f,i,e,h⟩=>by rw [e]; exact step m d f i s h)
theorem fq59.enter {k:Nat} {b:Option Nat} {K:AV→St→Prop} (h:WC ⟨prog,k,some s.heap.length⟩ fq59.n0 [a,c,.undef] { s with leak:=false } (RK s.heap.length s.leak fq59.res K)):VC ⟨prog,k + 1,b⟩ F_fq59 [a,c] s K:=VC_ra (P:=prog) (F':=fq59.fn) rfl fq59.ra fq59.ul rfl h
theorem fq59.ret {n:Nat} {lk:Bool} {K:AV→St→Prop}:RK n lk fq59.res K .ret [a,c,d] s=(K (leave n lk [⟨2,none,none⟩] [d] s).1 (leave n lk [⟨2,none,none⟩] [d] s).2):=by kernel_rfl
theorem fq59.n0_w:WC E fq59.n0 [a,c,d] s Q=(VC E F_fq63 [a,c] s fun v1 s2=>oM (evBin .geq v1 (.int .i64 0)) fun v3=>Q .ret [v3,c,v3] s2):=by kernel_rfl
theorem fq21.enter {k:Nat} {b:Option Nat} {K:AV→St→Prop} (h:WC ⟨prog,k,some s.heap.length⟩ fq21.n0 [a,.undef] { s with leak:=false } (RK s.heap.length s.leak fq21.res K)):VC ⟨prog,k + 1,b⟩ F_fq21 [a] s K:=VC_ra (P:=prog) (F':=fq21.fn) rfl fq21.ra fq21.ul rfl h
theorem fq21.ret {n:Nat} {lk:Bool} {K:AV→St→Prop}:RK n lk fq21.res K .ret [a,c] s=(K (leave n lk [⟨1,none,none⟩] [c] s).1 (leave n lk [⟨1,none,none⟩] [c] s).2):=by kernel_rfl
theorem fq21.n0_w:WC E fq21.n0 [a,c] s Q=(VC E F_fq43 [a,(.int .i64 0),(.int .i64 1000000)] s fun v1 s2=>oM (evUn .not v1) fun v3=>Q .ret [v3,v3] s2):=by kernel_rfl
theorem fq0.enter {k:Nat} {b:Option Nat} {K:AV→St→Prop} (h:WC ⟨prog,k,some s.heap.length⟩ fq0.n0 [a,.undef] { s with leak:=false } (RK s.heap.length s.leak fq0.res K)):VC ⟨prog,k + 1,b⟩ F_fq0 [a] s K:=VC_ra (P:=prog) (F':=fq0.fn) rfl fq0.ra fq0.ul rfl h
theorem fq0.ret {n:Nat} {lk:Bool} {K:AV→St→Prop}:RK n lk fq0.res K .ret [a,c] s=(K (leave n lk [⟨1,none,none⟩] [c] s).1 (leave n lk [⟨1,none,none⟩] [c] s).2):=by kernel_rfl
theorem fq0.n0_w:WC E fq0.n0 [a,c] s Q=(cM (.bool false) (WC E fq0.n1 [a,(.int .i64 0)] s (sK (WC E fq0.n2) Q)) ((sK (WC E fq0.n2) Q) .normal [a,(.int .i64 0)] s)):=by kernel_rfl
theorem fq0.n2_w:WC E fq0.n2 [a,c] s Q=(VC E F_bits_TrailingZeros64 [a] s fun v1 s2=>Q .ret [v1,v1] s2):=by kernel_rfl
theorem fq64.enter {k:Nat} {b:Option Nat} {K:AV→St→Prop} (h:WC ⟨prog,k,some s.heap.length⟩ fq64.n0 [a,c,.undef,.undef,.undef,.undef] { s with leak:=false } (RK s.heap.length s.leak fq64.res K)):VC ⟨prog,k + 1,b⟩ F_fq64 [a,c] s K:=VC_ra (P:=prog) (F':=fq64.fn) rfl fq64.ra fq64.ul rfl h
theorem fq64.ret {n:Nat} {lk:Bool} {K:AV→St→Prop}:RK n lk fq64.res K .ret [a,c,d,f,g,i] s=(K (leave n lk [⟨2,none,none⟩] [d] s).1 (leave n lk [⟨2,none,none⟩] [d] s).2):=by kernel_rfl
theorem fq64.n0_w:WC E fq64.n0 [a,c,d,f,g,i] s Q=(oM (vLen false a) fun v1=>(sK (WC E (.block 0 fq64.n1)) (sK (WC E fq64.n7) Q)) .normal [a,c,(.int .i64 0),(.int .i64 0),v1,i] s):=by kernel_rfl
theorem fq64.n2_w:WC E fq64.n2 [a,c,d,f,g,i] s Q=(oM (evBin .lss f g) fun v1=>cM v1 ((sK (WC E fq64.n4) Q) .normal [a,c,d,f,g,v1] s) ((sK (WC E fq64.n4) Q) (.exit 0) [a,c,d,f,g,v1] s)):=by kernel_rfl
theorem fq64.n4_w:WC E fq64.n4 [a,c,d,f,g,i] s Q=(oM (vIaddr s.heap 1 none a f) fun v1=>oM (ld s.heap none v1) fun v2=>VV E c [v2] s fun v3 s4=>cM v3 (WC E fq64.n5 [a,c,d,f,g,v3] s4 (bK 1 (sK (WC E fq64.n6) Q))) ((bK 1 (sK (WC E fq64.n6) Q)) .normal [a,c,d,f,g,v3] s4)):=by kernel_rfl
theorem fq64.n5_w:WC E fq64.n5 [a,c,d,f,g,i] s Q=(Q .ret [a,c,f,f,g,i] s):=by kernel_rfl
theorem fq64.n6_w:WC E fq64.n6 [a,c,d,f,g,i] s Q=(oM (evBin .add f (.int .i64 1)) fun v1=>Q .normal [a,c,d,v1,g,v1] s):=by kernel_rfl
theorem fq64.n7_w:WC E fq64.n7 [a,c,d,f,g,i] s Q=(Q .ret [a,c,(.int .i64 (-1)),f,g,i] s):=by kernel_rfl
def fq64.n1_J (a c g:AV) (I:Nat→AV→St→Prop) (m:Nat) (ρ:Regs) (s:St):Prop:=∃ d f i:AV,ρ=[a,c,d,f,g,i]∧I m f s
theorem fq64.n1_go {I:Nat→AV→St→Prop} {m m':Nat} (hm:m' < m) (h:I m' f s):LK (fq64.n1_J a c g I) m Q .normal [a,c,d,f,g,i] s:=⟨m',hm,_,_,_,rfl,h⟩
theorem fq64.n1_l (I:Nat→AV→St→Prop) (m:Nat) (hm:m < E.k) (h0:I m f s) (step:∀ (m:Nat) (d f i:AV) (s:St),I m f s→WC E fq64.n2 [a,c,d,f,g,i] s (LK (fq64.n1_J a c g I) m Q)):WC E fq64.n1 [a,c,d,f,g,i] s Q:=WC_loop (J:=fq64.n1_J a c g I) m hm ⟨_,_,_,rfl,h0⟩ (fun m ρ s ⟨d,f,i,e,h⟩=>by rw [e]; exact step m d f i s h)
theorem fq30.enter {k:Nat} {b:Option Nat} {K:AV→St→Prop} (h:WC ⟨prog,k,some s.heap.length⟩ fq30.n0 [a,c,.undef] { s with leak:=false } (RK s.heap.length s.leak fq30.res K)):VC ⟨prog,k + 1,b⟩ F_fq30 [a,c] s K:=VC_ra (P:=prog) (F':=fq30.fn) rfl fq30.ra fq30.ul rfl h
theorem fq30.ret {n:Nat} {lk:Bool} {K:AV→St→Prop}:RK n lk fq30.res K .ret [a,c,d] s=(K (leave n lk [⟨2,none,none⟩] [d] s).1 (leave n lk [⟨2,none,none⟩] [d] s).2):=by kernel_rfl
theorem fq30.n0_w:WC E fq30.n0 [a,c,d] s Q=(oM (ld s.heap none c) fun v1=>oM (vChk v1) fun v2=>oM (vOff 6 v2) fun v3=>oM (ld s.heap none v3) fun v4=>oM (vLen false v4) fun v5=>oM (evBin .sub v5 (.int .i64 1)) fun v6=>VC E F_fq43 [a,(.int .i64 0),v6] s fun v7 s8=>oM (evUn .not v7) fun v9=>Q .ret [v9,v6,v9] s8):=by kernel_rfl
theorem fq33.enter {k:Nat} {b:Option Nat} {K:AV→St→Prop} (h:WC ⟨prog,k,some s.heap.length⟩ fq33.n0 [a,c,.undef] { s with leak:=false } (RK s.heap.length s.leak fq33.res K)):VC ⟨prog,k + 1,b⟩ F_fq33 [a,c] s K:=VC_ra (P:=prog) (F':=fq33.fn) rfl fq33.ra fq33.ul rfl h
theorem fq33.ret {n:Nat} {lk:Bool} {K:AV→St→Prop}:RK n lk fq33.res K .ret [a,c,d] s=(K (leave n lk [⟨2,none,none⟩] [d] s).1 (leave n lk [⟨2,none,none⟩] [d] s).2):=by kernel_rfl
theorem fq33.n0_w:WC E fq33.n0 [a,c,d] s Q=(oM (vConv .u64 c) fun v1=>oM (evBin .shl (.int .u64 1) v1) fun v2=>oM (evBin .andNot a v2) fun v3=>Q .ret [v3,v2,v3] s):=by kernel_rfl
theorem fq31.enter {k:Nat} {b:Option Nat} {K:AV→St→Prop} (h:WC ⟨prog,k,some s.heap.length⟩ fq31.n0 [a,.undef] { s with leak:=false } (RK s.heap.length s.leak fq31.res K)):VC ⟨prog,k + 1,b⟩ F_fq31 [a] s K:=VC_ra (P:=prog) (F':=fq31.fn) rfl fq31.ra fq31.ul rfl h
theorem fq31.ret {n:Nat} {lk:Bool} {K:AV→St→Prop}:RK n lk fq31.res K .ret [a,c] s=(K (leave n lk [⟨1,none,none⟩] [c] s).1 (leave n lk [⟨1,none,none⟩] [c] s).2):=by kernel_rfl
theorem fq31.n0_w:WC E fq31.n0 [a,c] s Q=(VC E F_fq0 [a] s fun v1 s2=>Q .ret [v1,v1] s2):=by kernel_rfl
theorem fq4.enter {k:Nat} {b:Option Nat} {K:AV→St→Prop} (h:WC ⟨prog,k,some s.heap.length⟩ fq4.n0 [a,.undef,.undef] { s with leak:=false } (RK s.heap.length s.leak fq4.res K)):VC ⟨prog,k + 1,b⟩ F_fq4 [a] s K:=VC_ra (P:=prog) (F':=fq4.fn) rfl fq4.ra fq4.ul rfl h
theorem fq4.ret {n:Nat} {lk:Bool} {K:AV→St→Prop}:RK n lk fq4.res K .ret [a,c,d] s=(K (leave n lk [⟨1,none,none⟩] [c] s).1 (leave n lk [⟨1,none,none⟩] [c] s).2):=by kernel_rfl
theorem fq4.n0_w:WC E fq4.n0 [a,c,d] s Q=(oM (vLen false a) fun v1=>oM (evBin .leq v1 (.int .i64 200)) fun v2=>gO v2 true s (fun k3=>k3 a s) fun v4 s4=>gO v2 true s4 (fun k5=>VC E F_fq57 [v4,(.fn F_fq5 [])] s4 fun v6 s7=>k5 v6 s7) fun v8 s8=>gO v2 true s8 (fun k9=>oM (evUn .not v8) fun v10=>k9 v10 s8) fun v11 s11=>oM (vPick v2 v11 (.bool false)) fun v12=>Q .ret [v12,v12,v2] s11):=by kernel_rfl
theorem fq42.enter {k:Nat} {b:Option Nat} {K:AV→St→Prop} (h:WC ⟨prog,k,some s.heap.length⟩ fq42.n0 [a,c,.undef,.undef] { s with leak:=false } (RK s.heap.length s.leak fq42.res K)):VC ⟨prog,k + 1,b⟩ F_fq42 [a,c] s K:=VC_ra (P:=prog) (F':=fq42.fn) rfl fq42.ra fq42.ul rfl h
theorem fq42.ret {n:Nat} {lk:Bool} {K:AV→St→Prop}:RK n lk fq42.res K .ret [a,c,d,f] s=(K (leave n lk [] [] s).1 (leave n lk [] [] s).2):=by kernel_rfl
theorem fq42.n0_w:WC E fq42.n0 [a,c,d,f] s Q=((sK (WC E (.block 0 fq42.n1)) Q) .normal [a,c,(.int .i64 0),f] s):=by kernel_rfl
theorem fq42.n2_w:WC E fq42.n2 [a,c,d,f] s Q=(oM (evBin .lss d (.int .i64 500)) fun v1=>cM v1 ((sK (WC E fq42.n4) Q) .normal [a,c,d,v1] s) ((sK (WC E fq42.n4) Q) (.exit 0) [a,c,d,v1] s)):=by kernel_rfl
theorem fq42.n4_w:WC E fq42.n4 [a,c,d,f] s Q=(oM (ld s.heap none c) fun v1=>oM (vLook s.heap (.mk false [(.int .i64)]) (.slice true 0 []) false v1 d) fun v2=>VV E a [d,v2] s fun v3 s4=>oM (evUn .not v3) fun v5=>cM v5 ((bK 1 (sK (WC E fq42.n5) Q)) .ret [a,c,d,v5] s4) ((bK 1 (sK (WC E fq42.n5) Q)) .normal [a,c,d,v5] s4)):=by kernel_rfl
theorem fq42.n5_w:WC E fq42.n5 [a,c,d,f] s Q=(oM (evBin .add d (.int .i64 1)) fun v1=>Q .normal [a,c,v1,v1] s):=by kernel_rfl
def fq42.n1_J (a c:AV) (I:Nat→AV→St→Prop) (m:Nat) (ρ:Regs) (s:St):Prop:=∃ d f:AV,ρ=[a,c,d,f]∧I m d s
theorem fq42.n1_go {I:Nat→AV→St→Prop} {m m':Nat} (hm:m' < m) (h:I m' d s):LK (fq42.n1_J a c I) m Q .normal [a,c,d,f] s:=⟨m',hm,_,_,rfl,h⟩
theorem fq42.n1_l (I:Nat→AV→St→Prop) (m:Nat) (hm:m < E.k) (h0:I m d s) (step:∀ (m:Nat) (d f:AV) (s:St),I m d s→WC E fq42.n2 [a,c,d,f] s (LK (fq42.n1_J a c I) m Q)):WC E fq42.n1 [a,c,d,f] s Q:=WC_loop (J:=fq42.n1_J a c I) m hm ⟨_,_,rfl,h0⟩ (fun m ρ s ⟨d,f,e,h⟩=>by rw [e]; exact step m d f s h)
theorem fq63.enter {k:Nat} {b:Option Nat} {K:AV→St→Prop} (h:WC ⟨prog,k,some s.heap.length⟩ fq63.n0 [a,c,.undef,.undef,.undef,.undef] { s with leak:=false } (RK s.heap.length s.leak fq63.res K)):VC ⟨prog,k + 1,b⟩ F_fq63 [a,c] s K:=VC_ra (P:=prog) (F':=fq63.fn) rfl fq63.ra fq63.ul rfl h
theorem fq63.ret {n:Nat} {lk:Bool} {K:AV→St→Prop}:RK n lk fq63.res K .ret [a,c,d,f,g,i] s=(K (leave n lk [⟨2,none,none⟩] [d] s).1 (leave n lk [⟨2,none,none⟩] [d] s).2):=by kernel_rfl
theorem fq63.n0_w:WC E fq63.n0 [a,c,d,f,g,i] s Q=(oM (vLen false a) fun v1=>(sK (WC E (.block 0 fq63.n1)) (sK (WC E fq63.n7) Q)) .normal [a,c,(.int .i64 0),(.int .i64 0),v1,i] s):=by kernel_rfl
theorem fq63.n2_w:WC E fq63.n2 [a,c,d,f,g,i] s Q=(oM (evBin .lss f g) fun v1=>cM v1 ((sK (WC E fq63.n4) Q) .normal [a,c,d,f,g,v1] s) ((sK (WC E fq63.n4) Q) (.exit 0) [a,c,d,f,g,v1] s)):=by kernel_rfl
theorem fq63.n4_w:WC E fq63.n4 [a,c,d,f,g,i] s Q=(oM (vIaddr s.heap 1 none a f) fun v1=>oM (ld s.heap none v1) fun v2=>VV E c [v2] s fun v3 s4=>cM v3 (WC E fq63.n5 [a,c,d,f,g,v3] s4 (bK 1 (sK (WC E fq63.n6) Q))) ((bK 1 (sK (WC E fq63.n6) Q)) .normal [a,c,d,f,g,v3] s4)):=by kernel_rfl
theorem fq63.n5_w:WC E fq63.n5 [a,c,d,f,g,i] s Q=(Q .ret [a,c,f,f,g,i] s):=by kernel_rfl
theorem fq63.n6_w:WC E fq63.n6 [a,c,d,f,g,i] s Q=(oM (evBin .add f (.int .i64 1)) fun v1=>Q .normal [a,c,d,v1,g,v1] s):=by kernel_rfl
theorem fq63.n7_w:WC E fq63.n7 [a,c,d,f,g,i] s Q=(Q .ret [a,c,(.int .i64 (-1)),f,g,i] s):=by kernel_rfl
def fq63.n1_J (a c g:AV) (I:Nat→AV→St→Prop) (m:Nat) (ρ:Regs) (s:St):Prop:=∃ d f i:AV,ρ=[a,c,d,f,g,i]∧I m f s
theorem fq63.n1_go {I:Nat→AV→St→Prop} {m m':Nat} (hm:m' < m) (h:I m' f s):LK (fq63.n1_J a c g I) m Q .normal [a,c,d,f,g,i] s:=⟨m',hm,_,_,_,rfl,h⟩
theorem fq63.n1_l (I:Nat→AV→St→Prop) (m:Nat) (hm:m < E.k) (h0:I m f s) (step:∀ (m:Nat) (d f i:AV) (s:St),I m f s→WC E fq63.n2 [a,c,d,f,g,i] s (LK (fq63.n1_J a c g I) m Q)):WC E fq63.n1 [a,c,d,f,g,i] s Q:=WC_loop (J:=fq63.n1_J a c g I) m hm ⟨_,_,_,rfl,h0⟩ (fun m ρ s ⟨d,f,i,e,h⟩=>by rw [e]; exact step m d f i s h)
theorem fq57.enter {k:Nat} {b:Option Nat} {K:AV→St→Prop} (h:WC ⟨prog,k,some s.heap.length⟩ fq57.n0 [a,c,.undef] { s with leak:=false } (RK s.heap.length s.leak fq57.res K)):VC ⟨prog,k + 1,b⟩ F_fq57 [a,c] s K:=VC_ra (P:=prog) (F':=fq57.fn) rfl fq57.ra fq57.ul rfl h
theorem fq57.ret {n:Nat} {lk:Bool} {K:AV→St→Prop}:RK n lk fq57.res K .ret [a,c,d] s=(K (leave n lk [⟨2,none,none⟩] [d] s).1 (leave n lk [⟨2,none,none⟩] [d] s).2):=by kernel_rfl
theorem fq57.n0_w:WC E fq57.n0 [a,c,d] s Q=(VC E F_fq61 [a,c] s fun v1 s2=>oM (evBin .geq v1 (.int .i64 0)) fun v3=>Q .ret [v3,c,v3] s2):=by kernel_rfl
theorem fq5.enter {k:Nat} {b:Option Nat} {K:AV→St→Prop} (h:WC ⟨prog,k,some s.heap.length⟩ fq5.n0 [a,.undef,.undef,.undef] { s with leak:=false } (RK s.heap.length s.leak fq5.res K)):VC ⟨prog,k + 1,b⟩ F_fq5 [a] s K:=VC_ra (P:=prog) (F':=fq5.fn) rfl fq5.ra fq5.ul rfl h
theorem fq5.ret {n:Nat} {lk:Bool} {K:AV→St→Prop}:RK n lk fq5.res K .ret [a,c,d,f] s=(K (leave n lk [⟨1,none,none⟩] [c] s).1 (leave n lk [⟨1,none,none⟩] [c] s).2):=by kernel_rfl
theorem fq5.n0_w:WC E fq5.n0 [a,c,d,f] s Q=(oM (eBox s 3 a) fun v1=>oM (vOff 0 v1.1) fun v3=>oM (ld (v1.2).heap none v3) fun v4=>VC E F_fq43 [v4,(.int .i64 0),(.int .i64 7)] (v1.2) fun v5 s6=>oM (evUn .not v5) fun v7=>gO v7 false s6 (fun k8=>oM (vOff 1 v1.1) fun v9=>k8 v9 s6) fun v10 s10=>gO v7 false s10 (fun k11=>oM (ld s10.heap none v10) fun v12=>k11 v12 s10) fun v13 s13=>gO v7 false s13 (fun k14=>VC E F_fq43 [v13,(.int .i64 0),(.int .i64 499)] s13 fun v15 s16=>k14 v15 s16) fun v17 s17=>gO v7 false s17 (fun k18=>oM (evUn .not v17) fun v19=>k18 v19 s17) fun v20 s20=>oM (vPick v7 (.bool true) v20) fun v21=>gO v21 false s20 (fun k22=>oM (vOff 2 v1.1) fun v23=>k22 v23 s20) fun v24 s24=>gO v21 false s24 (fun k25=>oM (ld s24.heap none v24) fun v26=>k25 v26 s24) fun v27 s27=>gO v21 false s27 (fun k28=>oM (vOff 1 v1.1) fun v29=>k28 v29 s27) fun v30 s30=>gO v21 false s30 (fun k31=>oM (ld s30.heap none v30) fun v32=>k31 v32 s30) fun v33 s33=>gO v21 false s33 (fun k34=>oM (evBin .add v33 (.int .i64 1)) fun v35=>k34 v35 s33) fun v36 s36=>gO v21 false s36 (fun k37=>VC E F_fq43 [v27,v36,(.int .i64 500)] s36 fun v38 s39=>k37 v38 s39) fun v40 s40=>gO v21 false s40 (fun k41=>oM (evUn .not v40) fun v42=>k41 v42 s40) fun v43 s43=>oM (vPick v21 (.bool true) v43) fun v44=>Q .ret [v44,v44,v21,v27] s43):=by kernel_rfl
theorem fq61.enter {k:Nat} {b:Option Nat} {K:AV→St→Prop} (h:WC ⟨prog,k,some s.heap.length⟩ fq61.n0 [a,c,.undef,.undef,.undef,.undef] { s with leak:=false } (RK s.heap.length s.leak fq61.res K)):VC ⟨prog,k + 1,b⟩ F_fq61 [a,c] s K:=VC_ra (P:=prog) (F':=fq61.fn) rfl fq61.ra fq61.ul rfl h
theorem fq61.ret {n:Nat} {lk:Bool} {K:AV→St→Prop}:RK n lk fq61.res K .ret [a,c,d,f,g,i] s=(K (leave n lk [⟨2,none,none⟩] [d] s).1 (leave n lk [⟨2,none,none⟩] [d] s).2):=by kernel_rfl
theorem fq61.n0_w:WC E fq61.n0 [a,c,d,f,g,i] s Q=(oM (vLen false a) fun v1=>(sK (WC E (.block 0 fq61.n1)) (sK (WC E fq61.n7) Q)) .normal [a,c,(.int .i64 0),(.int .i64 0),v1,i] s):=by kernel_rfl
theorem fq61.n2_w:WC E fq61.n2 [a,c,d,f,g,i] s Q=(oM (evBin .lss f g) fun v1=>cM v1 ((sK (WC E fq61.n4) Q) .normal [a,c,d,f,g,v1] s) ((sK (WC E fq61.n4) Q) (.exit 0) [a,c,d,f,g,v1] s)):=by kernel_rfl
theorem fq61.n4_w:WC E fq61.n4 [a,c,d,f,g,i] s Q=(oM (vIaddr s.heap 3 none a f) fun v1=>oM (ld s.heap (some 3) v1) fun v2=>VV E c [v2] s fun v3 s4=>cM v3 (WC E fq61.n5 [a,c,d,f,g,v3] s4 (bK 1 (sK (WC E fq61.n6) Q))) ((bK 1 (sK (WC E fq61.n6) Q)) .normal [a,c,d,f,g,v3] s4)):=by kernel_rfl
theorem fq61.n5_w:WC E fq61.n5 [a,c,d,f,g,i] s Q=(Q .ret [a,c,f,f,g,i] s):=by kernel_rfl
theorem fq61.n6_w:WC E fq61.n6 [a,c,d,f,g,i] s Q=(oM (evBin .add f (.int .i64 1)) fun v1=>Q .normal [a,c,d,v1,g,v1] s):=by kernel_rfl
theorem fq61.n7_w:WC E fq61.n7 [a,c,d,f,g,i] s Q=(Q .ret [a,c,(.int .i64 (-1)),f,g,i] s):=by kernel_rfl
def fq61.n1_J (a c g:AV) (I:Nat→AV→St→Prop) (m:Nat) (ρ:Regs) (s:St):Prop:=∃ d f i:AV,ρ=[a,c,d,f,g,i]∧I m f s
theorem fq61.n1_go {I:Nat→AV→St→Prop} {m m':Nat} (hm:m' < m) (h:I m' f s):LK (fq61.n1_J a c g I) m Q .normal [a,c,d,f,g,i] s:=⟨m',hm,_,_,_,rfl,h⟩
theorem fq61.n1_l (I:Nat→AV→St→Prop) (m:Nat) (hm:m < E.k) (h0:I m f s) (step:∀ (m:Nat) (d f i:AV) (s:St),I m f s→WC E fq61.n2 [a,c,d,f,g,i] s (LK (fq61.n1_J a c g I) m Q)):WC E fq61.n1 [a,c,d,f,g,i] s Q:=WC_loop (J:=fq61.n1_J a c g I) m hm ⟨_,_,_,rfl,h0⟩ (fun m ρ s ⟨d,f,i,e,h⟩=>by rw [e]; exact step m d f i s h)
end Go.Proofs.YtcebebhaahpoiaaDoor
end
section
namespace Go.W
open Go Go.Ai
set_option linter.unusedSectionVars false
structure KeyE {κ:Type} [DecidableEq κ] (sh:Sh) (ek:κ→AV):Prop where
  keq:∀ a b,keqL (ek a).cells (ek b).cells=decide (a=b)
  sh:∀ a,hasSh sh (ek a)=true
section
variable {κ:Type} [DecidableEq κ] {sh:Sh} {ek:κ→AV}
def encE (ek:κ→AV) (l:List (κ × AV)):List (AV × AV):=l.map fun p=>(ek p.1,p.2)
def lkp:List (κ × AV)→κ→Option AV
  | [],_=>none
  | (a,v) :: r,k=>if k=a then some v else lkp r k
def ins:List (κ × AV)→κ→AV→List (κ × AV)
  | [],k,v=>[(k,v)]
  | (a,w) :: r,k,v=>if k=a then (k,v) :: r else (a,w) :: ins r k v
theorem find_enc (he:KeyE sh ek) (k:κ):∀ (l:List (κ × AV)) (i:Nat),(findE (ek k) (encE ek l) i).map (·.2)=lkp l k
  | [],_=>rfl
  | (a,v) :: r,i=>by
    simp only [encE,List.map_cons,findE,he.keq,decide_eq_true_eq,lkp]
    by_cases h:k=a
    · simp [h]
    · simp only [h,if_false]; exact find_enc he k r (i + 1)
theorem find_pos (he:KeyE sh ek) (k:κ):∀ (l:List (κ × AV)) (i:Nat),match findE (ek k) (encE ek l) i with
    | some q=>i≤q.1∧∀ v,(encE ek l).set (q.1 - i) (ek k,v)=encE ek (ins l k v)
    | none=>∀ v,encE ek l ++ [(ek k,v)]=encE ek (ins l k v)
  | [],i=>by simp [encE,findE,ins]
  | (a, w) :: r,i=>by
    have ih:=find_pos he k r (i + 1)
    have e:findE (ek k) (encE ek ((a,w) :: r)) i=if k=a then some (i,w) else findE (ek k) (encE ek r) (i + 1):=by simp [encE,findE,he.keq]
    rw [e]
    by_cases h:k=a
    · simp [h,ins,encE]
    · simp only [h,if_false,ins]
      cases hq:findE (ek k) (encE ek r) (i + 1) with
      | some q =>
        rw [hq] at ih
        dsimp only at ih ⊢
        refine ⟨by omega,fun v=>?_⟩
        have h2:=ih.2 v
        rw [show q.1 - i=(q.1 - (i + 1)) + 1 by omega]
        simp only [encE,List.map_cons,List.set_cons_succ] at h2 ⊢
        rw [h2]
      | none =>
        rw [hq] at ih
        dsimp only at ih ⊢
        intro v
        have h2:=ih v
        simp only [encE,List.map_cons,List.cons_append] at h2 ⊢
        rw [h2]
theorem put_enc (he:KeyE sh ek) (l:List (κ × AV)) (k:κ) (v:AV):putE (ek k) v (encE ek l)=encE ek (ins l k v):=by
  have:=find_pos he k l 0
  unfold putE
  split at this
  · rename_i q hq
    simp only [hq]
    have h2:=this.2 v
    rw [Nat.sub_zero] at h2
    exact h2
  · rename_i hq
    simp only [hq]
    exact this v
theorem lkp_ins (l:List (κ × AV)) (k k':κ) (v:AV):lkp (ins l k v) k'=if k'=k then some v else lkp l k':=by
  induction l with
  | nil=>simp [ins,lkp]
  | cons p r ih =>
    obtain ⟨a,w⟩:=p
    simp only [ins]
    by_cases h:k=a
    · subst h
      simp only [if_true,lkp]
      split <;> rfl
    · simp only [h,if_false,lkp,ih]
      by_cases h2:k'=a
      · have:¬ k'=k:=fun e=>h (by rw [← e,h2])
        simp [h2]
        intro e; exact absurd e.symm h
      · simp [h2]
structure MapAt (H:List AObj) (c:Nat) (sh:Sh) (ek:κ→AV) (l:List (κ × AV)):Prop where
  how:∃ ver,H[c]?=some (.map sh ver (encE ek l))
theorem shb {s:Sh}:s.beq s=true:=by
  obtain ⟨a,ks⟩:=s
  have:∀ ks:List KS,beqKS ks ks=true:=by
    intro ks
    induction ks with
    | nil=>rfl
    | cons k ks ih=>simp only [beqKS,ih,Bool.and_true]; cases k <;> simp [KS.beq]
  simp [Sh.beq,this]
theorem look_at (he:KeyE sh ek) {H:List AObj} {c:Nat} {l:List (κ × AV)} (hm:MapAt H c sh ek l) {zero:AV} {ok:Bool} (k:κ) :
    vLook H sh zero ok (.map c) (ek k)=some (if ok then .tup [(lkp l k).getD zero,.bool (lkp l k).isSome] else (lkp l k).getD zero):=by
  obtain ⟨ver,hv⟩:=hm.how
  have hf:=find_enc he k l 0
  simp only [vLook,he.sh,if_true,mapSh,hv,shb,Option.bind_some]
  cases hq:findE (ek k) (encE ek l) 0 with
  | none=>rw [hq] at hf; simp only [Option.map_none] at hf; rw [← hf]; rfl
  | some q=>rw [hq] at hf; simp only [Option.map_some] at hf; rw [← hf]; rfl
theorem upd_at (he:KeyE sh ek) {H:List AObj} {c:Nat} {l:List (κ × AV)} {ver:Nat} (hv:H[c]?=some (.map sh ver (encE ek l))) {base:Option Nat} {lk:Bool} (k:κ) {v:AV} (hc:v.clean=true) :
    eMupd base ⟨H,lk⟩ sh (.map c) (ek k) v=some ⟨H.set c (.map sh (ver + 1) (encE ek (ins l k v))),lk⟩:=by
  simp only [eMupd,hv,shb,he.sh,Bool.and_self,if_true,put_enc he]
  rw [lk_clean (by simp [cleanL,hc]),Bool.or_false]
theorem MapAt.app {H:List AObj} {c:Nat} {l:List (κ × AV)} (h:MapAt H c sh ek l) {L:List AObj}:MapAt (H ++ L) c sh ek l:=by
  obtain ⟨ver,hv⟩:=h.how
  exact ⟨ver,get_app hv⟩
theorem MapAt.lt {H:List AObj} {c:Nat} {l:List (κ × AV)} (h:MapAt H c sh ek l):c < H.length:=by
  obtain ⟨ver,hv⟩:=h.how
  exact (List.getElem?_eq_some_iff.1 hv).1
end
abbrev uvn (n:Nat):AV:=.int .u64 n
theorem key_uv:KeyE ⟨false,[.int .u64]⟩ uvn:=⟨fun a b=>by simp [AV.cells,keqL]; exact Bool.eq_iff_iff.2 (by simp; omega),fun a=>by simp [hasSh,fits]⟩
abbrev ev2 (p:Int × Int):AV:=.agg [iv p.1,iv p.2]
theorem key_iv2:KeyE ⟨true,[.int .i64,.int .i64]⟩ ev2 :=
  ⟨fun a b=>by simp [AV.cells,keqL]; exact Bool.eq_iff_iff.2 (by simp [Prod.ext_iff]),fun a=>by simp [hasSh,fits]⟩
theorem VN_it {b m ver:Nat} {s:St} {rest:List (AV × AV)} {lst:Option (AV × AV)} {sh:Sh} {es:List (AV × AV)} {K:AV→St→Prop} (h1:s.heap[b]?=some (.iter m ver rest lst)) (h2:s.heap[m]?=some (.map sh ver es))
    (h0:rest=[]→K (.tup [.bool false]) s) (h3:∀ i k v,rest[i]?=some (k,v)→K (.tup [.bool true,k,v]) ⟨s.heap.set b (.iter m ver (rest.eraseIdx i) (some (k,v))),s.leak⟩):VN (.iter b) s K:=by
  simp only [VN,h1,h2]
  exact ⟨trivial,h0,h3⟩
theorem rng_at {H:List AObj} {lk:Bool} {c ver:Nat} {sh:Sh} {es:List (AV × AV)} (h:H[c]?=some (.map sh ver es)):eRange ⟨H,lk⟩ (.map c)=some (.iter H.length,⟨H ++ [.iter c ver es none],lk⟩):=by
  simp only [eRange,h,push]
theorem ent_at {H:List AObj} {b m ver:Nat} {rest:List (AV × AV)} {k v:AV} {sh:Sh} {es:List (AV × AV)} (h1:H[b]?=some (.iter m ver rest (some (k,v)))) (h2:H[m]?=some (.map sh ver es)):vEntry H (.iter b)=some (.tup [k,v]):=by
  simp only [vEntry,h1,h2,if_true]
end Go.W
end
