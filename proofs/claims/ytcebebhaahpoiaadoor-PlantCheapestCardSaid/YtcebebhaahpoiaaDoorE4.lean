/- PlantCheapest: for every plant, schedule, and change of it the law answers true and turns nothing, with no condition. Part 4 of 5. -/
import Derived.Test.YtcebebhaahpoiaaDoorE3
set_option maxHeartbeats 2000000
set_option linter.unusedSimpArgs false
set_option linter.unusedVariables false
set_option linter.deprecated false
set_option linter.all false
section
namespace Go.W
open Go Go.Ai
set_option linter.unusedVariables false
def RF (l:Nat) (ρ:Regs) (Q:AExit→Regs→St→Prop) (s:St):Prop:=match s.heap[l]? with
  | some (.loop ρ' ps x y true none)=>Q .normal ρ { s with heap:=s.heap.set l (.loop ρ' ps x y false none) }
  | some (.loop ρ' ps x y r (some .ret))=>Q .ret ρ { s with heap:=s.heap.set l (.loop ρ' ps x y false (some .ret)) }
  | some (.loop ρ' ps x y r (some (.exit id)))=>Q (.exit id) ρ { s with heap:=s.heap.set l (.loop ρ' ps x y false (some (.exit id))) }
  | _=>False
theorem WC_rf {E:Env} {g:AOpd} {ps:List Nat} {assign body:ACode} {ρ:Regs} {s:St} {Q:AExit→Regs→St→Prop} {f:FuncId} {caps:List AV} (hg:g.ev ρ=.fn f caps)
    (h:VC E f (.yield s.heap.length :: caps) { s with heap:=s.heap ++ [.loop ρ ps assign body true none] } fun _ s'=>RF s.heap.length ρ Q s'):WC E (.rangeF g ps assign body) ρ s Q:=by
  unfold WC
  simp only [evCode,hg]
  unfold VC at h
  refine Res.All.bind.2 (Res.All.mono (fun r hr=>?_) h)
  obtain ⟨v,s'⟩:=r
  cases v with
  | panic v=>exact hr.elim
  | val v =>
    dsimp only at hr ⊢
    unfold RF at hr
    split at hr
    · rename_i e; rw [e]; exact hr
    · rename_i r e; rw [e]; cases r <;> exact hr
    · rename_i r id e; rw [e]; cases r <;> exact hr
    · exact hr.elim
theorem lv_t {n:Nat} {lk:Bool} {rs:List ARes} {vs:List AV} {H:List AObj}:leave n lk rs vs ⟨H,true⟩=(packR vs,⟨H,true⟩):=by
  simp [leave]
theorem RK_n {n:Nat} {lk:Bool} {rs:List ARes} {Q:AV→St→Prop} {ρ:Regs} {s:St}:RK n lk rs Q .normal ρ s=RK n lk rs Q .ret ρ s:=rfl
theorem RK_r {n:Nat} {lk:Bool} {rs:List ARes} {Q:AV→St→Prop} {ρ:Regs} {s:St}:RK n lk rs Q .ret ρ s=oM (resultsOf ρ s.heap rs) fun vs=>Q (leave n lk rs vs s).1 (leave n lk rs vs s).2:=rfl
def YK (l:Nat) (ρ:Regs) (ps:List Nat) (assign body:ACode) (K:AV→St→Prop):AExit→Regs→St→Prop
  | .normal,_,s=>K (.bool true) { s with heap:=s.heap.set l (.loop ρ ps assign body true none) }
  | .ret,_,s=>K (.bool false) { s with heap:=s.heap.set l (.loop ρ ps assign body false (some .ret)) }
  | .exit id,_,s=>K (.bool false) { s with heap:=s.heap.set l (.loop ρ ps assign body false (some (.exit id))) }
  | .panic _,_,_=>False
theorem YC_go {P:AProg} {k:Nat} {b:Option Nat} {l:Nat} {args:List AV} {s:St} {K:AV→St→Prop} {ρ:Regs} {ps:List Nat} {assign body:ACode} {j:Option Jump}
    (hl:s.heap[l]?=some (.loop ρ ps assign body true j)) (hn:args.length=ps.length)
    (h:WC ⟨P,k,none⟩ assign ((ps.zip args).foldl (fun ρ p=>ρ.set p.1 p.2) ρ) s fun e ρ1 s1=>e=.normal∧(∃ a1 a2 a3 a4,s1.heap[l]?=some (.loop a1 a2 a3 a4 true none)) ∧
      WC ⟨P,k,none⟩ body ρ1 { s1 with heap:=s1.heap.set l (.loop ρ ps assign body false none) } (YK l ρ ps assign body K)):YC ⟨P,k + 1,b⟩ l args s K:=by
  unfold YC
  simp only [ev,hl]
  rw [if_pos hn]
  refine Res.All.bind.2 (Res.All.mono (fun r hr=>?_) (evCode_of h))
  obtain ⟨e,ρ1,s1⟩:=r
  obtain ⟨h1,⟨a1,a2,a3,a4,h2⟩,h3⟩:=hr
  dsimp only at h1 h2 h3
  subst h1
  dsimp only
  rw [h2]
  dsimp only
  refine Res.All.bind.2 (Res.All.mono (fun r hr=>?_) (evCode_of h3))
  obtain ⟨e,ρ2,s2⟩:=r
  cases e with
  | normal=>exact hr
  | ret=>exact hr
  | exit id=>exact hr
  | panic v=>exact hr.elim
theorem VV_y {E:Env} {l args s} {K:AV→St→Prop}:VV E (.yield l) args s K=YC E l args s K:=rfl
theorem WC_lp {E:Env} {b:ACode} {ρ s Q}:WC E (.loop b) ρ s Q=wLoop (WC E b) E.k ρ s Q:=rfl
theorem wl_s {W:Regs→St→(AExit→Regs→St→Prop)→Prop} {n ρ s Q}:wLoop W (n + 1) ρ s Q=W ρ s (sK (wLoop W n) Q):=rfl
theorem idx_0 {n:Nat} {k:IntKind}:idxOf n (.int k 0)=if 0 < n then some 0 else none:=by have:=idx_i (k:=k) (n:=n) (i:=0); exact this
theorem idx_1 {n:Nat} {k:IntKind}:idxOf n (.int k 1)=if 1 < n then some 1 else none:=by have:=idx_i (k:=k) (n:=n) (i:=1); exact this
theorem idx_2 {n:Nat} {k:IntKind}:idxOf n (.int k 2)=if 2 < n then some 2 else none:=by have:=idx_i (k:=k) (n:=n) (i:=2); exact this
theorem idx_3 {n:Nat} {k:IntKind}:idxOf n (.int k 3)=if 3 < n then some 3 else none:=by have:=idx_i (k:=k) (n:=n) (i:=3); exact this
theorem zero_lt_s {n:Nat}:(0 < n + 1)=True:=by simp
theorem lkL {base:Option Nat} {b:Nat} {vs:List AV} (h:cleanL vs=true):leaks base b vs=false:=by cases base <;> simp [leaks,h]
theorem lkN {b:Nat} {vs:List AV}:leaks none b vs=!cleanL vs:=rfl
theorem wl_1 {W:Regs→St→(AExit→Regs→St→Prop)→Prop} {n ρ s Q} (h:0 < n):wLoop W n ρ s Q=W ρ s (sK (wLoop W (n - 1)) Q):=by
  obtain ⟨n,rfl⟩:∃ j,n=j + 1:=⟨n - 1,by omega⟩
  rfl
end Go.W
end
section
namespace Go.W
open Go Go.Ai
set_option linter.unusedVariables false
set_option maxRecDepth 10000
theorem sw0:type_of% (And.intro (@oM_s) (And.intro (@oM_n) (And.intro (@oM_if) (And.intro (@oM_b) (And.intro (@sK_n) (And.intro (@sK_e) (And.intro (@sK_r) (And.intro (@bK_n) (And.intro (@bK_e) (And.intro (@bK_r) (And.intro (@LK_e) (And.intro (@LK_r) (And.intro (@cM_b) (And.intro (@WC_block) (And.intro (@WC_seq) (And.intro (@WC_skip) (And.intro (@WC_exit) (And.intro (@WC_ret) (And.intro (@gO_t) (And.intro (@gO_f) (And.intro (@gO_t') (And.intro (@gO_f') (And.intro (@vPick_t) (And.intro (@vPick_f) (And.intro (@VV_fn) (And.intro (@b_add) (And.intro (@b_sub) (And.intro (@b_mul) (And.intro (@b_quo) (And.intro (@b_rem) (And.intro (@b_and) (@b_or)))))))))))))))))))))))))))))))):=(And.intro (@oM_s) (And.intro (@oM_n) (And.intro (@oM_if) (And.intro (@oM_b) (And.intro (@sK_n) (And.intro (@sK_e) (And.intro (@sK_r) (And.intro (@bK_n) (And.intro (@bK_e) (And.intro (@bK_r) (And.intro (@LK_e) (And.intro (@LK_r) (And.intro (@cM_b) (And.intro (@WC_block) (And.intro (@WC_seq) (And.intro (@WC_skip) (And.intro (@WC_exit) (And.intro (@WC_ret) (And.intro (@gO_t) (And.intro (@gO_f) (And.intro (@gO_t') (And.intro (@gO_f') (And.intro (@vPick_t) (And.intro (@vPick_f) (And.intro (@VV_fn) (And.intro (@b_add) (And.intro (@b_sub) (And.intro (@b_mul) (And.intro (@b_quo) (And.intro (@b_rem) (And.intro (@b_and) (@b_or))))))))))))))))))))))))))))))))
theorem sw1:type_of% (And.intro (@b_andNot) (And.intro (@b_shl) (And.intro (@b_shr) (And.intro (@b_eql) (And.intro (@b_neq) (And.intro (@b_lss) (And.intro (@b_leq) (And.intro (@b_gtr) (And.intro (@b_geq) (And.intro (@u_not) (And.intro (@u_neg) (And.intro (@m_nil) (And.intro (@m_max) (And.intro (@m_min) (And.intro (@conv_i) (And.intro (@len_slice) (And.intro (@len_sref) (And.intro (@ext_t) (And.intro (@off_p) (And.intro (@off_v) (And.intro (@fld_a) (And.intro (@rdc_n) (And.intro (@rdc_s) (And.intro (@ld_p) (And.intro (@ld_v) (And.intro (@iaddr_slice) (And.intro (@iaddr_sref) (And.intro (@iaddr_arr) (And.intro (@iaddr_varr) (And.intro (@idx_i) (And.intro (@push_mk) (@cells_agg)))))))))))))))))))))))))))))))):=(And.intro (@b_andNot) (And.intro (@b_shl) (And.intro (@b_shr) (And.intro (@b_eql) (And.intro (@b_neq) (And.intro (@b_lss) (And.intro (@b_leq) (And.intro (@b_gtr) (And.intro (@b_geq) (And.intro (@u_not) (And.intro (@u_neg) (And.intro (@m_nil) (And.intro (@m_max) (And.intro (@m_min) (And.intro (@conv_i) (And.intro (@len_slice) (And.intro (@len_sref) (And.intro (@ext_t) (And.intro (@off_p) (And.intro (@off_v) (And.intro (@fld_a) (And.intro (@rdc_n) (And.intro (@rdc_s) (And.intro (@ld_p) (And.intro (@ld_v) (And.intro (@iaddr_slice) (And.intro (@iaddr_sref) (And.intro (@iaddr_arr) (And.intro (@iaddr_varr) (And.intro (@idx_i) (And.intro (@push_mk) (@cells_agg))))))))))))))))))))))))))))))))
theorem sw2:type_of% (And.intro (@cells_int) (And.intro (@cells_bool) (And.intro (@cells_sref) (And.intro (@cells_ptr) (And.intro (@cells_np) (And.intro (@cells_slice) (And.intro (@cells_map) (And.intro (@cells_fn) (And.intro (@one_np) (And.intro (@one_fn) (And.intro (@decide_eq_true_eq) (And.intro (@decide_true) (And.intro (@decide_false) (And.intro (@Bool.not_eq_true') (And.intro (@decide_eq_false_iff_not) (And.intro (@if_true.{1}) (And.intro (@if_false.{1}) (And.intro (@Bool.false_eq_true) (And.intro (@List.cons_append.{0}) (And.intro (@List.nil_append.{0}) (And.intro (@List.append_assoc.{0}) (And.intro (@List.getElem?_cons_zero.{0}) (And.intro (@List.getElem?_cons_succ.{0}) (And.intro (@row_end) (And.intro (@row_end0) (And.intro (@row_cons) (And.intro (@row_hd) (And.intro (@List.length_append.{0}) (And.intro (@List.length_cons.{0}) (And.intro (@List.length_nil.{0}) (And.intro (@Nat.zero_add) (@Option.bind_some.{0,0})))))))))))))))))))))))))))))))):=(And.intro (@cells_int) (And.intro (@cells_bool) (And.intro (@cells_sref) (And.intro (@cells_ptr) (And.intro (@cells_np) (And.intro (@cells_slice) (And.intro (@cells_map) (And.intro (@cells_fn) (And.intro (@one_np) (And.intro (@one_fn) (And.intro (@decide_eq_true_eq) (And.intro (@decide_true) (And.intro (@decide_false) (And.intro (@Bool.not_eq_true') (And.intro (@decide_eq_false_iff_not) (And.intro (@if_true.{1}) (And.intro (@if_false.{1}) (And.intro (@Bool.false_eq_true) (And.intro (@List.cons_append.{0}) (And.intro (@List.nil_append.{0}) (And.intro (@List.append_assoc.{0}) (And.intro (@List.getElem?_cons_zero.{0}) (And.intro (@List.getElem?_cons_succ.{0}) (And.intro (@row_end) (And.intro (@row_end0) (And.intro (@row_cons) (And.intro (@row_hd) (And.intro (@List.length_append.{0}) (And.intro (@List.length_cons.{0}) (And.intro (@List.length_nil.{0}) (And.intro (@Nat.zero_add) (@Option.bind_some.{0,0}))))))))))))))))))))))))))))))))
theorem sw3:type_of% (And.intro (@Option.bind_none.{0,0}) (And.intro (@List.append_nil.{0}) (And.intro (@get_end) (And.intro (@get_end0) (And.intro (@set_end) (And.intro (@set_end0) (And.intro (@Nat.add_zero) (And.intro (@List.set_cons_zero.{0}) (And.intro (@List.set_cons_succ.{0}) (And.intro (@lv_def) (And.intro (@fz_nil) (And.intro (@fz_none) (And.intro (@fz_some) (And.intro (@fz_slice) (And.intro (@fz_int) (And.intro (@ul_nil) (And.intro (@ul_cons) (And.intro (@pk_one) (And.intro (@pk_two) (And.intro (@pk_nil) (And.intro (@take_all) (And.intro (@take_app) (And.intro (@Bool.and_true) (And.intro (@Bool.and_self) (And.intro (@st_p) (And.intro (@sa_nil) (And.intro (@sa_cons) (And.intro (@lk_some) (And.intro (@nlt_add) (And.intro (@nlt_self) (And.intro (@chk_p) (@one_int)))))))))))))))))))))))))))))))):=(And.intro (@Option.bind_none.{0,0}) (And.intro (@List.append_nil.{0}) (And.intro (@get_end) (And.intro (@get_end0) (And.intro (@set_end) (And.intro (@set_end0) (And.intro (@Nat.add_zero) (And.intro (@List.set_cons_zero.{0}) (And.intro (@List.set_cons_succ.{0}) (And.intro (@lv_def) (And.intro (@fz_nil) (And.intro (@fz_none) (And.intro (@fz_some) (And.intro (@fz_slice) (And.intro (@fz_int) (And.intro (@ul_nil) (And.intro (@ul_cons) (And.intro (@pk_one) (And.intro (@pk_two) (And.intro (@pk_nil) (And.intro (@take_all) (And.intro (@take_app) (And.intro (@Bool.and_true) (And.intro (@Bool.and_self) (And.intro (@st_p) (And.intro (@sa_nil) (And.intro (@sa_cons) (And.intro (@lk_some) (And.intro (@nlt_add) (And.intro (@nlt_self) (And.intro (@chk_p) (@one_int))))))))))))))))))))))))))))))))
theorem sw4:type_of% (And.intro (@one_bool) (And.intro (@one_slice) (And.intro (@one_map) (And.intro (@one_sref) (And.intro (@one_ptr) (And.intro (@cl_int) (And.intro (@cl_bool) (And.intro (@cl_slice) (And.intro (@cl_map) (And.intro (@cl_sref) (And.intro (@cl_ptr) (And.intro (@cl_nil) (And.intro (@cl_cons) (And.intro (@ck_z) (And.intro (@ck_s) (And.intro (@bx) (And.intro (@fl_nil) (And.intro (@fl_cons) (And.intro (@lit_def) (And.intro (@List.all_cons.{0}) (And.intro (@List.all_nil.{0}) (And.intro (@Bool.or_false) (And.intro (@Bool.false_or) (And.intro (@Bool.and_false) (And.intro (@Bool.true_and) (And.intro (@Bool.true_or) (And.intro (@Bool.or_true) (And.intro (@Bool.or_self) (And.intro (@Bool.false_and) (And.intro (@Bool.not_true) (And.intro (@Bool.not_false) (@Nat.le_refl)))))))))))))))))))))))))))))))):=(And.intro (@one_bool) (And.intro (@one_slice) (And.intro (@one_map) (And.intro (@one_sref) (And.intro (@one_ptr) (And.intro (@cl_int) (And.intro (@cl_bool) (And.intro (@cl_slice) (And.intro (@cl_map) (And.intro (@cl_sref) (And.intro (@cl_ptr) (And.intro (@cl_nil) (And.intro (@cl_cons) (And.intro (@ck_z) (And.intro (@ck_s) (And.intro (@bx) (And.intro (@fl_nil) (And.intro (@fl_cons) (And.intro (@lit_def) (And.intro (@List.all_cons.{0}) (And.intro (@List.all_nil.{0}) (And.intro (@Bool.or_false) (And.intro (@Bool.false_or) (And.intro (@Bool.and_false) (And.intro (@Bool.true_and) (And.intro (@Bool.true_or) (And.intro (@Bool.or_true) (And.intro (@Bool.or_self) (And.intro (@Bool.false_and) (And.intro (@Bool.not_true) (And.intro (@Bool.not_false) (@Nat.le_refl))))))))))))))))))))))))))))))))
theorem sw5:type_of% (And.intro (@and_self) (And.intro (@List.take_succ_cons.{0}) (And.intro (@List.take_zero.{0}) (And.intro (@List.drop_succ_cons.{0}) (And.intro (@List.drop_zero.{0}) (And.intro (@under_int) (And.intro (@under_bool) (And.intro (@under_slice) (And.intro (@under_np) (And.intro (@eq_self.{1}) (And.intro (@ck_nl) (And.intro (@ck_ni) (And.intro (@ck_aa) (And.intro (@ckA_nil) (And.intro (@ckA_cons) (And.intro (@ck_ld) (And.intro (@ck_ia) (And.intro (@ev_r) (And.intro (@ev_c) (And.intro (@List.getD_cons_zero.{0}) (And.intro (@List.getD_cons_succ.{0}) (And.intro (@Option.some.injEq.{0}) (And.intro (@and_true) (And.intro (@true_and) (And.intro (@not_false_eq_true) (@not_true_eq_false)))))))))))))))))))))))))):=(And.intro (@and_self) (And.intro (@List.take_succ_cons.{0}) (And.intro (@List.take_zero.{0}) (And.intro (@List.drop_succ_cons.{0}) (And.intro (@List.drop_zero.{0}) (And.intro (@under_int) (And.intro (@under_bool) (And.intro (@under_slice) (And.intro (@under_np) (And.intro (@eq_self.{1}) (And.intro (@ck_nl) (And.intro (@ck_ni) (And.intro (@ck_aa) (And.intro (@ckA_nil) (And.intro (@ckA_cons) (And.intro (@ck_ld) (And.intro (@ck_ia) (And.intro (@ev_r) (And.intro (@ev_c) (And.intro (@List.getD_cons_zero.{0}) (And.intro (@List.getD_cons_succ.{0}) (And.intro (@Option.some.injEq.{0}) (And.intro (@and_true) (And.intro (@true_and) (And.intro (@not_false_eq_true) (@not_true_eq_false))))))))))))))))))))))))))
theorem dw0:type_of% (And.intro (@wrap64) (And.intro (@Int.cast_ofNat_Int) (And.intro (@Int.natCast_zero) (And.intro (@Int.natCast_one) (And.intro (@idx_0) (And.intro (@idx_1) (And.intro (@idx_2) (And.intro (@idx_3) (And.intro (@List.length_set.{0}) (And.intro (@Nat.lt_irrefl) (And.intro (@ge_iff_le.{0}) (And.intro (@gt_iff_lt.{0}) (And.intro (@Nat.mul_one) (And.intro (@Nat.zero_mul) (And.intro (@Int.add_zero) (And.intro (@Int.zero_add) (And.intro (@zero_lt_s) (@ne_eq.{1})))))))))))))))))):=(And.intro (@wrap64) (And.intro (@Int.cast_ofNat_Int) (And.intro (@Int.natCast_zero) (And.intro (@Int.natCast_one) (And.intro (@idx_0) (And.intro (@idx_1) (And.intro (@idx_2) (And.intro (@idx_3) (And.intro (@List.length_set.{0}) (And.intro (@Nat.lt_irrefl) (And.intro (@ge_iff_le.{0}) (And.intro (@gt_iff_lt.{0}) (And.intro (@Nat.mul_one) (And.intro (@Nat.zero_mul) (And.intro (@Int.add_zero) (And.intro (@Int.zero_add) (And.intro (@zero_lt_s) (@ne_eq.{1}))))))))))))))))))
theorem xw0:type_of% (And.intro (@beq_self_eq_true.{0}) (And.intro (@Option.isSome_some.{0}) (And.intro (@Option.isSome_none.{0}) (And.intro (@List.flatten_cons.{0}) (And.intro (@List.flatten_nil.{0}) (And.intro (@iaddr_slice) (And.intro (@List.replicate_succ.{0}) (And.intro (@List.replicate_zero.{0}) (And.intro (@Bool.not_not) (And.intro (@Bool.decide_eq_true) (And.intro (@Nat.add_one_sub_one) (And.intro (@Nat.add_eq_zero_iff) (And.intro (@Nat.one_ne_zero) (And.intro (@and_false) (And.intro (@false_and) (And.intro (@or_true) (And.intro (@true_or) (And.intro (@or_false) (And.intro (@false_or) (And.intro (@lk_end) (And.intro (@lk_end0) (And.intro (@VV_y) (And.intro (@VV_fn) (And.intro (@lv_t) (And.intro (@RK_n) (And.intro (@List.zip_cons_cons.{0,0}) (And.intro (@List.zip_nil_left.{0,0}) (And.intro (@List.foldl_cons.{0,0}) (And.intro (@List.foldl_nil.{0,0}) (And.intro (@Nat.add_assoc) (And.intro (@Nat.lt_add_right_iff_pos) (@List.take_append_of_le_length.{0})))))))))))))))))))))))))))))))):=(And.intro (@beq_self_eq_true.{0}) (And.intro (@Option.isSome_some.{0}) (And.intro (@Option.isSome_none.{0}) (And.intro (@List.flatten_cons.{0}) (And.intro (@List.flatten_nil.{0}) (And.intro (@iaddr_slice) (And.intro (@List.replicate_succ.{0}) (And.intro (@List.replicate_zero.{0}) (And.intro (@Bool.not_not) (And.intro (@Bool.decide_eq_true) (And.intro (@Nat.add_one_sub_one) (And.intro (@Nat.add_eq_zero_iff) (And.intro (@Nat.one_ne_zero) (And.intro (@and_false) (And.intro (@false_and) (And.intro (@or_true) (And.intro (@true_or) (And.intro (@or_false) (And.intro (@false_or) (And.intro (@lk_end) (And.intro (@lk_end0) (And.intro (@VV_y) (And.intro (@VV_fn) (And.intro (@lv_t) (And.intro (@RK_n) (And.intro (@List.zip_cons_cons.{0,0}) (And.intro (@List.zip_nil_left.{0,0}) (And.intro (@List.foldl_cons.{0,0}) (And.intro (@List.foldl_nil.{0,0}) (And.intro (@Nat.add_assoc) (And.intro (@Nat.lt_add_right_iff_pos) (@List.take_append_of_le_length.{0}))))))))))))))))))))))))))))))))
end Go.W
end
section
namespace Go.W
open Go Go.Ai
set_option linter.unusedSectionVars false
set_option linter.unusedVariables false
set_option linter.unusedSimpArgs false
section
variable {α:Type} {n:Nat} {f:α→List AV} {xs ys:List α} {H H' X:List AObj} {lk:Bool} {v y:AV}
theorem flat_take (hf:∀ x,(f x).length=n):∀ (xs:List α) (i:Nat),((xs.take i).map f).flatten=(xs.map f).flatten.take (i * n)
  | [],i=>by simp
  | x :: xs,0=>by simp
  | x :: xs,i + 1=>by
    simp only [List.take_succ_cons,List.map_cons,List.flatten_cons,flat_take hf xs i]
    rw [show (i + 1) * n=(f x).length + i * n by rw [hf,Nat.add_mul]; omega,List.take_length_add_append]
theorem flat_drop (hf:∀ x,(f x).length=n):∀ (xs:List α) (i:Nat),((xs.drop i).map f).flatten=(xs.map f).flatten.drop (i * n)
  | [],i=>by simp
  | x :: xs,0=>by simp
  | x :: xs,i + 1=>by
    simp only [List.drop_succ_cons,List.map_cons,List.flatten_cons,flat_drop hf xs i]
    rw [show (i + 1) * n=(f x).length + i * n by rw [hf,Nat.add_mul]; omega,List.drop_length_add_append]
theorem Sl.mono (h:Sl H n f v xs) (hk:∀ (d:Nat) (cs:List AV),H[d]?=some (AObj.cells cs)→H'[d]?=some (AObj.cells cs)):Sl H' n f v xs:=by
  refine ⟨h.pos,h.size,?_⟩
  rcases h.how with ⟨fl,z,rfl,hz⟩ | ⟨b,o,ver,cs,rfl,hr,hc⟩
  · exact .inl ⟨fl,z,rfl,hz⟩
  · refine .inr ⟨b,o,ver,cs,rfl,?_,hc⟩
    unfold row at hr ⊢
    split at hr
    · rename_i c hc'
      rw [hk _ _ hc']
      exact hr
    · cases hr
theorem Sl.rowOf (h:Sl H n f v xs):Ai.rowOf H n v=some (xs.length,(xs.map f).flatten):=by
  rcases h.how with ⟨fl,z,rfl,hz⟩ | ⟨b,o,ver,cs,rfl,hr,hc⟩
  · rw [rowOf_slice,if_pos (by rcases hz with h | h <;> simp [h]),List.length_map]
  · simp only [Ai.rowOf,if_true,hr,Option.bind_some,hc]
theorem bounds_le {m l u:Nat} {lo hi:Option AV} (h:boundsOf m lo hi=some (l,u)):l≤u∧u≤m:=by
  unfold boundsOf at h
  obtain ⟨h1,e1,h⟩:=Option.bind_eq_some_iff.1 h
  obtain ⟨l1,e2,h⟩:=Option.bind_eq_some_iff.1 h
  simp only [Option.some.injEq,Prod.mk.injEq] at h
  obtain ⟨rfl,rfl⟩:=h
  have key:∀ (m:Nat) (v:AV) (r:Nat),boundOf m v=some r→r≤m:=by
    intro m v r hr
    unfold boundOf at hr
    split at hr
    · split at hr
      · simp only [Option.some.injEq] at hr; omega
      · cases hr
    · cases hr
  constructor
  · split at e2
    · exact key _ _ _ e2
    · simp only [Option.some.injEq] at e2; omega
  · split at e1
    · exact key _ _ _ e1
    · simp only [Option.some.injEq] at e1; omega
theorem Sl.slc (h:Sl H n f v xs) {lo hi:Option AV} {l u:Nat} (hb:boundsOf xs.length lo hi=some (l,u)):∃ v',vSlc H n v lo hi=some v'∧Sl H n f v' ((xs.take u).drop l):=by
  obtain ⟨b1,b2⟩:=bounds_le hb
  rcases h.how with ⟨fl,z,rfl,hz⟩ | ⟨b,o,ver,cs,rfl,hr,hc⟩
  · refine ⟨.slice (fl && decide (u=xs.length)) z (((xs.take u).drop l).map f),?_,h.pos,h.size,.inl ⟨_,z,rfl,?_⟩⟩
    · simp only [vSlc,List.length_map]
      rw [if_pos (by rcases hz with h | h <;> simp [h]),hb]
      simp [List.map_drop,List.map_take]
    · rcases hz with h | h
      · exact .inl h
      · exact .inr (by simp [h])
  · simp only [vSlc,if_true,hr,Option.bind_some,hb]
    by_cases e:l=u
    · subst e
      rw [if_pos rfl]
      refine ⟨_,rfl,?_⟩
      have:(xs.take l).drop l=[]:=by simp
      rw [this]
      exact Sl.nil h.pos h.size
    · rw [if_neg e]
      refine ⟨_,rfl,h.pos,h.size,.inr ⟨b,o + l * n,ver,cs,?_,hr,?_⟩⟩
      · have:((xs.take u).drop l).length=u - l:=by simp; omega
        rw [this]
      · have hlen:((xs.take u).drop l).length=u - l:=by simp; omega
        have h1:l * n≤u * n:=Nat.mul_le_mul_right _ b1
        have h2:u * n≤xs.length * n:=Nat.mul_le_mul_right _ b2
        have h3:(u - l) * n=u * n - l * n:=Nat.sub_mul _ _ _
        rw [hlen,flat_drop h.size,flat_take h.size,← hc]
        rw [List.take_take,List.drop_take,List.drop_drop,Nat.min_eq_left h2,h3]
def VS (n:Nat) (f:α→List AV) (v:AV) (xs:List α):Prop:=∃ fl z,v=.slice fl z (xs.map f)∧(z=n∨xs=[])
theorem VS.sl (h:VS n f v xs) (h0:0 < n) (hf:∀ x,(f x).length=n):Sl H n f v xs:=by
  obtain ⟨fl,z,rfl,hz⟩:=h
  exact ⟨h0,hf,.inl ⟨fl,z,rfl,hz⟩⟩
theorem VS.one (h:VS n f v xs):v.one=true:=by obtain ⟨fl,z,rfl,hz⟩:=h; rfl
theorem VS.clean (h:VS n f v xs):v.clean=true:=by obtain ⟨fl,z,rfl,hz⟩:=h; rfl
theorem VS.cells (h:VS n f v xs):v.cells=[v]:=by obtain ⟨fl,z,rfl,hz⟩:=h; rfl
theorem VS.under (h:VS n f v xs) {m:Nat}:v.under m=true:=by obtain ⟨fl,z,rfl,hz⟩:=h; rfl
theorem VS.fz (h:VS n f v xs) {m:Nat} {H:List AObj} {k:Nat}:frz m H k v=v:=by obtain ⟨fl,z,rfl,hz⟩:=h; rfl
theorem VS.nil {fl:Bool} {z:Nat}:VS n f (.slice fl z []) []:=⟨fl,z,rfl,.inr rfl⟩
theorem VS.mk {fl:Bool}:VS n f (.slice fl n (xs.map f)) xs:=⟨fl,n,rfl,.inl rfl⟩
structure Own (H X:List AObj) (n:Nat) (f:α→List AV) (v:AV) (xs:List α):Prop where
  pos:0 < n
  size:∀ x,(f x).length=n
  how:(∃ z,v=.slice true z (xs.map f)∧(z=n∨xs=[]))∨∃ c,v=.sref (H.length + c) 0 xs.length (xs.length * n) n∧X[c]?=some (.cells (xs.map f).flatten)
theorem Own.sl (h:Own H X n f v xs):Sl (H ++ X) n f v xs:=by
  refine ⟨h.pos,h.size,?_⟩
  rcases h.how with ⟨z,rfl,hz⟩ | ⟨c,rfl,hc⟩
  · exact .inl ⟨true,z,rfl,hz⟩
  · refine .inr ⟨H.length + c,0,xs.length * n,(xs.map f).flatten,rfl,?_,?_⟩
    · rw [row_end]; unfold row; rw [hc]; simp only [flat_len h.size,if_true]
    · rw [List.drop_zero,← flat_len h.size xs,List.take_length]
theorem Own.ext {Y:List AObj} (h:Own H X n f v xs):Own H (X ++ Y) n f v xs:=by
  refine ⟨h.pos,h.size,?_⟩
  rcases h.how with h | ⟨c,rfl,hc⟩
  · exact .inl h
  · exact .inr ⟨c,rfl,get_app hc⟩
theorem Own.pre {Y:List AObj} (h:Own (H ++ Y) X n f v xs):Own H (Y ++ X) n f v xs:=by
  refine ⟨h.pos,h.size,?_⟩
  rcases h.how with h | ⟨c,rfl,hc⟩
  · exact .inl h
  · refine .inr ⟨Y.length + c,by rw [List.length_append,Nat.add_assoc],?_⟩
    rw [get_end]; exact hc
theorem Own.nil (h0:0 < n) (hf:∀ x,(f x).length=n) {z:Nat}:Own H X n f (.slice true z []) []:=⟨h0,hf,.inl ⟨z,rfl,.inr rfl⟩⟩
theorem Own.lit (h0:0 < n) (hf:∀ x,(f x).length=n):Own H X n f (.slice true n (xs.map f)) xs:=⟨h0,hf,.inl ⟨n,rfl,.inl rfl⟩⟩
def Keep (H X X':List AObj) (v:AV):Prop:=X.length≤X'.length∧∀ c,c < X.length→(∀ o l w m,v ≠ .sref (H.length + c) o l w m)→X'[c]?=X[c]?
theorem Own.app (h:Own H X n f v xs) {bytes m:Nat} (hm:m≤H.length) (hy:Ai.rowOf (H ++ X) n y=some (ys.length,(ys.map f).flatten)) (h1:∀ x,(f x).all AV.one=true) (hz:(xs.length + ys.length) * bytes≤140737488355328) :
    ∃ v' X',eApp (some m) ⟨H ++ X,lk⟩ n bytes v y=some (v',⟨H ++ X',lk⟩)∧Own H X' n f v' (xs ++ ys)∧Keep H X X' v:=by
  have hall:∀ l:List α,(l.map f).flatten.all AV.one=true:=by
    intro l
    induction l with
    | nil=>rfl
    | cons a l ih=>simp only [List.map_cons,List.flatten_cons,List.all_append,h1 a,ih,Bool.and_self]
  by_cases hn:ys=[]
  · subst hn
    refine ⟨v,X,?_,by rw [List.append_nil]; exact h,Nat.le_refl _,fun _ _ _=>rfl⟩
    rcases h.how with ⟨z,rfl,hz'⟩ | ⟨c,rfl,hc⟩
    · simp only [eApp,hy,Option.bind_some,List.length_nil,if_true]
    · have hr:row (H ++ X) (H.length + c) (xs.length * n)=some (xs.map f).flatten:=by rw [row_end]; unfold row; rw [hc]; simp only [flat_len h.size,if_true]
      simp only [eApp,hy,Option.bind_some,List.length_nil,if_true,hr]
  · have hne:ys.length ≠ 0:=fun e=>hn (List.eq_nil_of_length_eq_zero e)
    have hfl:=flat_len h.size (xs ++ ys)
    rcases h.how with ⟨z,rfl,hz'⟩ | ⟨c,rfl,hc⟩
    · refine ⟨.sref (H.length + X.length) 0 (xs ++ ys).length ((xs ++ ys).length * n) n,X ++ [.cells ((xs ++ ys).map f).flatten],?_,⟨h.pos,h.size,.inr ⟨X.length,rfl,by simp⟩⟩,by simp,fun c hc _=>by rw [List.getElem?_append_left hc]⟩
      simp only [eApp,hy,Option.bind_some,hne,if_false,List.length_map]
      rw [if_pos ⟨trivial,by rcases hz' with h | h <;> simp [h],hz,flat_len h.size xs,flat_len h.size ys,hall xs,hall ys⟩]
      simp [push]
    · have hr:row (H ++ X) (H.length + c) (xs.length * n)=some (xs.map f).flatten:=by rw [row_end]; unfold row; rw [hc]; simp only [flat_len h.size,if_true]
      have ha:appRow (xs.map f).flatten (ys.map f).flatten (xs.length * n) (xs.length * n)=((xs ++ ys).map f).flatten:=by
        unfold appRow
        have:0 < ys.length * n:=Nat.mul_pos (by omega) h.pos
        rw [if_neg (by rw [flat_len h.size ys]; omega),← flat_len h.size xs,List.take_length]
        simp
      have hcl:c < X.length:=(List.getElem?_eq_some_iff.1 hc).1
      refine ⟨.sref (H.length + c) 0 (xs ++ ys).length ((xs ++ ys).length * n) n,X.set c (.cells ((xs ++ ys).map f).flatten),?_,⟨h.pos,h.size,.inr ⟨c,rfl,by rw [List.getElem?_set_self hcl]⟩⟩,by simp,fun d hd hv=>?_⟩
      · simp only [eApp,hy,Option.bind_some,hne,if_false,hr,ha,hfl]
        rw [if_pos ⟨trivial,trivial,hz,flat_len h.size ys,hall ys,Nat.le_refl _⟩,set_end]
        have:leaks (some m) (H.length + c) (ys.map f).flatten=false:=by simp [leaks]; omega
        rw [this,Bool.or_false,List.length_append]
      · have hdc:c ≠ d:=fun e=>by subst e; exact hv _ _ _ _ rfl
        rw [List.getElem?_set_ne hdc]
theorem Own.fz (h:Own H X n f v xs) {m:Nat} (hm:m≤H.length) (hc:∀ x,cleanL (f x)=true):VS n f (frz m (H ++ X) n v) xs:=by
  rcases h.how with ⟨z,rfl,hz⟩ | ⟨c,rfl,hx⟩
  · exact ⟨true,z,rfl,hz⟩
  · rw [fz_own h.pos h.size hc rfl (by rw [row_end]; unfold row; rw [hx]; simp only [flat_len h.size,if_true]) (by omega)]
    exact VS.mk
theorem Own.keep {Y:List AObj} {u:AV} (h:Own H X n f v xs) (hk:Keep H X Y u) (hne:∀ c o l w m o' l' w' m',v=.sref c o l w m→u ≠ .sref c o' l' w' m'):Own H Y n f v xs:=by
  refine ⟨h.pos,h.size,?_⟩
  rcases h.how with ⟨z,rfl,hz⟩ | ⟨c,rfl,hx⟩
  · exact .inl ⟨z,rfl,hz⟩
  · refine .inr ⟨c,rfl,?_⟩
    rw [hk.2 c (List.getElem?_eq_some_iff.1 hx).1 (fun o l w m=>hne _ _ _ _ _ o l w m rfl)]
    exact hx
end
end Go.W
end
section
namespace Go.Proofs.YtcebebhaahpoiaaDoor
open Go Go.Ai Go.W
attribute [local irreducible] VC YC WC
set_option linter.unusedSimpArgs false
set_option linter.unusedVariables false
set_option maxRecDepth 10000
variable {k:Nat} {b:Option Nat} {H:List AObj} {lk:Bool} {K:AV→St→Prop}
theorem within_s (hk:1≤k) {n a c:Int}:VC ⟨prog,k,b⟩ F_fq43 [iv n,iv a,iv c] ⟨H,lk⟩ K=K (.bool (decide (a≤n∧n≤c))) ⟨H,lk⟩:=by
  obtain ⟨k,rfl⟩:∃ j,k=j + 1:=⟨k - 1,by omega⟩
  apply VC_iff
  apply fq43.enter
  by_cases h1:a≤n
  · simp -implicitDefEqProofs only [fq43.n0_w,sw0,sw1,sw2,sw3,sw4,sw5,reduceCtorEq,Nat.reduceEqDiff,Nat.reduceAdd,Nat.reduceDiv,Nat.reduceLeDiff,h1,fq43.ret]
  · simp -implicitDefEqProofs only [fq43.n0_w,sw0,sw1,sw2,sw3,sw4,sw5,reduceCtorEq,Nat.reduceEqDiff,Nat.reduceAdd,Nat.reduceDiv,Nat.reduceLeDiff,h1,fq43.ret,false_and,decide_false,decide_true]
theorem r02_In_s (hk:1≤k) {n a c:Int}:VC ⟨prog,k,b⟩ F_fq44 [iv n,iv a,iv c] ⟨H,lk⟩ K=K (.bool (decide (a≤n∧n≤c))) ⟨H,lk⟩:=by
  obtain ⟨k,rfl⟩:∃ j,k=j + 1:=⟨k - 1,by omega⟩
  apply VC_iff
  apply fq44.enter
  by_cases h1:a≤n
  · simp -implicitDefEqProofs only [fq44.n0_w,sw0,sw1,sw2,sw3,sw4,sw5,reduceCtorEq,Nat.reduceEqDiff,Nat.reduceAdd,Nat.reduceDiv,Nat.reduceLeDiff,h1,fq44.ret]
  · simp -implicitDefEqProofs only [fq44.n0_w,sw0,sw1,sw2,sw3,sw4,sw5,reduceCtorEq,Nat.reduceEqDiff,Nat.reduceAdd,Nat.reduceDiv,Nat.reduceLeDiff,h1,fq44.ret,false_and,decide_false,decide_true]
theorem r12_in_s (hk:2≤k) {n a c:Int}:VC ⟨prog,k,b⟩ F_fq56 [iv n,iv a,iv c] ⟨H,lk⟩ K=K (.bool (decide (a≤n∧n≤c))) ⟨H,lk⟩:=by
  obtain ⟨k,rfl⟩:∃ j,k=j + 1:=⟨k - 1,by omega⟩
  apply VC_iff
  apply fq56.enter
  simp -implicitDefEqProofs only [fq56.n0_w,sw0,sw1,sw2,sw3,sw4,sw5,reduceCtorEq,Nat.reduceEqDiff,Nat.reduceAdd,Nat.reduceDiv,Nat.reduceLeDiff,r02_In_s (k:=k) (by omega),fq56.ret]
def amt (n:Int):Bool:=decide (0≤n∧n≤1000000)
theorem few_1_s (hk:2≤k) {n:Int}:VC ⟨prog,k,b⟩ F_fq21 [iv n] ⟨H,lk⟩ K=K (.bool (!amt n)) ⟨H,lk⟩:=by
  obtain ⟨k,rfl⟩:∃ j,k=j + 1:=⟨k - 1,by omega⟩
  apply VC_iff
  apply fq21.enter
  simp -implicitDefEqProofs only [fq21.n0_w,sw0,sw1,sw2,sw3,sw4,sw5,reduceCtorEq,Nat.reduceEqDiff,Nat.reduceAdd,Nat.reduceDiv,Nat.reduceLeDiff,within_s (k:=k) (by omega),fq21.ret,amt]
def firstAt {α:Type} (p:α→Bool) (xs:List α):Int:=match xs.findIdx? p with
  | some i=>(i:Nat)
  | none=>-1
theorem firstAt_hit {α:Type} {p:α→Bool} {xs:List α} {i:Nat} (h:i < xs.length) (hp:p xs[i]=true) (hno:∀ j (h:j < xs.length),j < i→p xs[j]=false):firstAt p xs=i:=by
  unfold firstAt
  rw [List.findIdx?_eq_some_iff_getElem.2 ⟨h,hp,fun j hj=>by simpa using hno j (by omega) hj⟩]
theorem firstAt_none {α:Type} {p:α→Bool} {xs:List α} (hno:∀ j (h:j < xs.length),p xs[j]=false):firstAt p xs=-1:=by
  unfold firstAt
  rw [List.findIdx?_eq_none_iff.2 (fun x hx=>by obtain ⟨j,h,rfl⟩:=List.getElem_of_mem hx; exact hno j h)]
theorem firstAt_any {α:Type} {p:α→Bool} {xs:List α}:decide (0≤firstAt p xs)=xs.any p:=by
  unfold firstAt
  cases h:xs.findIdx? p with
  | none =>
    have:=List.findIdx?_eq_none_iff.1 h
    simp -implicitDefEqProofs only [Int.reduceNeg,Int.reduceLE,decide_false]
    symm
    rw [List.any_eq_false]
    intro x hx
    simp [this x hx]
  | some i =>
    obtain ⟨hi,hp,_⟩:=List.findIdx?_eq_some_iff_getElem.1 h
    have:xs.any p=true:=List.any_eq_true.2 ⟨xs[i],List.getElem_mem _,hp⟩
    rw [this]
    simp
theorem IndexFunc_int (hk:1002≤k) {f:FuncId} {caps:List AV} {v:AV} {α:Type} {cl:α→List AV} {vl:α→AV} {xs:List α} {p:α→Bool} (hs:Sl H 1 cl v xs) (hl:xs.length≤1000) (hv:∀ x,rdc (cl x) 0 none=some (vl x))
    (hp:∀ x,x ∈ xs→∀ b lk (K:AV→St→Prop),VC ⟨prog,k - 1,b⟩ f (vl x :: caps) ⟨H,lk⟩ K=K (.bool (p x)) ⟨H,lk⟩) :
    VC ⟨prog,k,b⟩ F_fq63 [v,.fn f caps] ⟨H,lk⟩ K=K (iv (firstAt p xs)) ⟨H,lk⟩:=by
  obtain ⟨k,rfl⟩:∃ j,k=j + 1:=⟨k - 1,by omega⟩
  apply VC_iff
  apply fq63.enter
  simp -implicitDefEqProofs only [fq63.n0_w,sw0,sw1,sw2,sw3,sw4,sw5,reduceCtorEq,Nat.reduceEqDiff,Nat.reduceAdd,Nat.reduceDiv,Nat.reduceLeDiff,hs.len]
  refine fq63.n1_l (fun m r3 s=>∃ i:Nat,r3=iv i∧s=⟨H,false⟩∧m=xs.length - i∧i≤xs.length∧∀ j (h:j < xs.length),j < i→p xs[j]=false) xs.length (by simp -implicitDefEqProofs only []; omega) ⟨0,rfl,rfl,by omega,by omega,fun j _ h=>by omega⟩ ?_
  rintro m r2 r3 r5 s ⟨i,rfl,rfl,hm,hi,hno⟩
  simp -implicitDefEqProofs only [fq63.n2_w,sw0,sw1,sw2,sw3,sw4,sw5,reduceCtorEq,Nat.reduceEqDiff,Nat.reduceAdd,Nat.reduceDiv,Nat.reduceLeDiff]
  split
  · rename_i hlt
    have hlt:i < xs.length:=by omega
    have hq:=hp xs[i] (List.getElem_mem _) (some H.length) false
    simp -implicitDefEqProofs only [Nat.add_sub_cancel] at hq
    have hld:ld H none (adr 1 v i 0)=some (vl xs[i]):=by
      rw [← hv]
      first | exact (hs.ld hlt hs.pos).trans (by simp [rdc]) | (rw [hs.lda hlt]; simp [rdc,hs.size]; rw [← hs.size xs[i]]; simp)
    simp -implicitDefEqProofs only [fq63.n4_w,sw0,sw1,sw2,sw3,sw4,sw5,reduceCtorEq,Nat.reduceEqDiff,Nat.reduceAdd,Nat.reduceDiv,Nat.reduceLeDiff,hs.at,hlt,hld,hq]
    split
    · rename_i hpx
      simp -implicitDefEqProofs only [fq63.n5_w,sw0,sw1,sw2,sw3,sw4,sw5,reduceCtorEq,Nat.reduceEqDiff,Nat.reduceAdd,Nat.reduceDiv,Nat.reduceLeDiff,fq63.ret,firstAt_hit hlt hpx hno]
    · rename_i hpx
      simp -implicitDefEqProofs only [fq63.n6_w,sw0,sw1,sw2,sw3,sw4,sw5,reduceCtorEq,Nat.reduceEqDiff,Nat.reduceAdd,Nat.reduceDiv,Nat.reduceLeDiff]
      refine fq63.n1_go (m':=m - 1) (by omega) ⟨i + 1,by rw [wrap64 (by omega)]; rfl,rfl,by omega,by omega,?_⟩
      intro j h hj
      by_cases hji:j=i
      · subst hji; simpa using hpx
      · exact hno j h (by omega)
  · rename_i hge
    simp -implicitDefEqProofs only [fq63.n7_w,sw0,sw1,sw2,sw3,sw4,sw5,reduceCtorEq,Nat.reduceEqDiff,Nat.reduceAdd,Nat.reduceDiv,Nat.reduceLeDiff,fq63.ret,firstAt_none (p:=p) (xs:=xs) (fun j h=>hno j h (by omega))]
theorem ContainsFunc_int (hk:1003≤k) {f:FuncId} {caps:List AV} {v:AV} {α:Type} {cl:α→List AV} {vl:α→AV} {xs:List α} {p:α→Bool} (hs:Sl H 1 cl v xs) (hl:xs.length≤1000) (hv:∀ x,rdc (cl x) 0 none=some (vl x))
    (hp:∀ x,x ∈ xs→∀ b lk (K:AV→St→Prop),VC ⟨prog,k - 2,b⟩ f (vl x :: caps) ⟨H,lk⟩ K=K (.bool (p x)) ⟨H,lk⟩) :
    VC ⟨prog,k,b⟩ F_fq59 [v,.fn f caps] ⟨H,lk⟩ K=K (.bool (xs.any p)) ⟨H,lk⟩:=by
  obtain ⟨k,rfl⟩:∃ j,k=j + 1:=⟨k - 1,by omega⟩
  apply VC_iff
  apply fq59.enter
  simp -implicitDefEqProofs only [fq59.n0_w,sw0,sw1,sw2,sw3,sw4,sw5,reduceCtorEq,Nat.reduceEqDiff,Nat.reduceAdd,Nat.reduceDiv,Nat.reduceLeDiff,IndexFunc_int (k:=k) (by omega) hs hl hv (p:=p) (fun x hx b lk K=>hp x hx b lk K),fq59.ret,firstAt_any]
theorem IndexFunc_s_int (hk:1002≤k) {f:FuncId} {caps:List AV} {v:AV} {α:Type} {cl:α→List AV} {vl:α→AV} {xs:List α} {p:α→Bool} (hs:Sl H 1 cl v xs) (hl:xs.length≤1000) (hv:∀ x,rdc (cl x) 0 none=some (vl x))
    (hp:∀ x,x ∈ xs→∀ b lk (K:AV→St→Prop),VC ⟨prog,k - 1,b⟩ f (vl x :: caps) ⟨H,lk⟩ K=K (.bool (p x)) ⟨H,lk⟩) :
    VC ⟨prog,k,b⟩ F_fq64 [v,.fn f caps] ⟨H,lk⟩ K=K (iv (firstAt p xs)) ⟨H,lk⟩:=by
  obtain ⟨k,rfl⟩:∃ j,k=j + 1:=⟨k - 1,by omega⟩
  apply VC_iff
  apply fq64.enter
  simp -implicitDefEqProofs only [fq64.n0_w,sw0,sw1,sw2,sw3,sw4,sw5,reduceCtorEq,Nat.reduceEqDiff,Nat.reduceAdd,Nat.reduceDiv,Nat.reduceLeDiff,hs.len]
  refine fq64.n1_l (fun m r3 s=>∃ i:Nat,r3=iv i∧s=⟨H,false⟩∧m=xs.length - i∧i≤xs.length∧∀ j (h:j < xs.length),j < i→p xs[j]=false) xs.length (by simp -implicitDefEqProofs only []; omega) ⟨0,rfl,rfl,by omega,by omega,fun j _ h=>by omega⟩ ?_
  rintro m r2 r3 r5 s ⟨i,rfl,rfl,hm,hi,hno⟩
  simp -implicitDefEqProofs only [fq64.n2_w,sw0,sw1,sw2,sw3,sw4,sw5,reduceCtorEq,Nat.reduceEqDiff,Nat.reduceAdd,Nat.reduceDiv,Nat.reduceLeDiff]
  split
  · rename_i hlt
    have hlt:i < xs.length:=by omega
    have hq:=hp xs[i] (List.getElem_mem _) (some H.length) false
    simp -implicitDefEqProofs only [Nat.add_sub_cancel] at hq
    have hld:ld H none (adr 1 v i 0)=some (vl xs[i]):=by
      rw [← hv]
      first | exact (hs.ld hlt hs.pos).trans (by simp [rdc]) | (rw [hs.lda hlt]; simp [rdc,hs.size]; rw [← hs.size xs[i]]; simp)
    simp -implicitDefEqProofs only [fq64.n4_w,sw0,sw1,sw2,sw3,sw4,sw5,reduceCtorEq,Nat.reduceEqDiff,Nat.reduceAdd,Nat.reduceDiv,Nat.reduceLeDiff,hs.at,hlt,hld,hq]
    split
    · rename_i hpx
      simp -implicitDefEqProofs only [fq64.n5_w,sw0,sw1,sw2,sw3,sw4,sw5,reduceCtorEq,Nat.reduceEqDiff,Nat.reduceAdd,Nat.reduceDiv,Nat.reduceLeDiff,fq64.ret,firstAt_hit hlt hpx hno]
    · rename_i hpx
      simp -implicitDefEqProofs only [fq64.n6_w,sw0,sw1,sw2,sw3,sw4,sw5,reduceCtorEq,Nat.reduceEqDiff,Nat.reduceAdd,Nat.reduceDiv,Nat.reduceLeDiff]
      refine fq64.n1_go (m':=m - 1) (by omega) ⟨i + 1,by rw [wrap64 (by omega)]; rfl,rfl,by omega,by omega,?_⟩
      intro j h hj
      by_cases hji:j=i
      · subst hji; simpa using hpx
      · exact hno j h (by omega)
  · rename_i hge
    simp -implicitDefEqProofs only [fq64.n7_w,sw0,sw1,sw2,sw3,sw4,sw5,reduceCtorEq,Nat.reduceEqDiff,Nat.reduceAdd,Nat.reduceDiv,Nat.reduceLeDiff,fq64.ret,firstAt_none (p:=p) (xs:=xs) (fun j h=>hno j h (by omega))]
theorem ContainsFunc_s_int (hk:1003≤k) {f:FuncId} {caps:List AV} {v:AV} {α:Type} {cl:α→List AV} {vl:α→AV} {xs:List α} {p:α→Bool} (hs:Sl H 1 cl v xs) (hl:xs.length≤1000) (hv:∀ x,rdc (cl x) 0 none=some (vl x))
    (hp:∀ x,x ∈ xs→∀ b lk (K:AV→St→Prop),VC ⟨prog,k - 2,b⟩ f (vl x :: caps) ⟨H,lk⟩ K=K (.bool (p x)) ⟨H,lk⟩) :
    VC ⟨prog,k,b⟩ F_fq60 [v,.fn f caps] ⟨H,lk⟩ K=K (.bool (xs.any p)) ⟨H,lk⟩:=by
  obtain ⟨k,rfl⟩:∃ j,k=j + 1:=⟨k - 1,by omega⟩
  apply VC_iff
  apply fq60.enter
  simp -implicitDefEqProofs only [fq60.n0_w,sw0,sw1,sw2,sw3,sw4,sw5,reduceCtorEq,Nat.reduceEqDiff,Nat.reduceAdd,Nat.reduceDiv,Nat.reduceLeDiff,IndexFunc_s_int (k:=k) (by omega) hs hl hv (p:=p) (fun x hx b lk K=>hp x hx b lk K),fq60.ret,firstAt_any]
theorem IndexFunc_Mark (hk:1002≤k) {f:FuncId} {caps:List AV} {v:AV} {α:Type} {cl:α→List AV} {vl:α→AV} {xs:List α} {p:α→Bool} (hs:Sl H 2 cl v xs) (hl:xs.length≤1000) (hv:∀ x,rdc (cl x) 0 (some 2)=some (vl x))
    (hp:∀ x,x ∈ xs→∀ b lk (K:AV→St→Prop),VC ⟨prog,k - 1,b⟩ f (vl x :: caps) ⟨H,lk⟩ K=K (.bool (p x)) ⟨H,lk⟩) :
    VC ⟨prog,k,b⟩ F_fq62 [v,.fn f caps] ⟨H,lk⟩ K=K (iv (firstAt p xs)) ⟨H,lk⟩:=by
  obtain ⟨k,rfl⟩:∃ j,k=j + 1:=⟨k - 1,by omega⟩
  apply VC_iff
  apply fq62.enter
  simp -implicitDefEqProofs only [fq62.n0_w,sw0,sw1,sw2,sw3,sw4,sw5,reduceCtorEq,Nat.reduceEqDiff,Nat.reduceAdd,Nat.reduceDiv,Nat.reduceLeDiff,hs.len]
  refine fq62.n1_l (fun m r3 s=>∃ i:Nat,r3=iv i∧s=⟨H,false⟩∧m=xs.length - i∧i≤xs.length∧∀ j (h:j < xs.length),j < i→p xs[j]=false) xs.length (by simp -implicitDefEqProofs only []; omega) ⟨0,rfl,rfl,by omega,by omega,fun j _ h=>by omega⟩ ?_
  rintro m r2 r3 r5 s ⟨i,rfl,rfl,hm,hi,hno⟩
  simp -implicitDefEqProofs only [fq62.n2_w,sw0,sw1,sw2,sw3,sw4,sw5,reduceCtorEq,Nat.reduceEqDiff,Nat.reduceAdd,Nat.reduceDiv,Nat.reduceLeDiff]
  split
  · rename_i hlt
    have hlt:i < xs.length:=by omega
    have hq:=hp xs[i] (List.getElem_mem _) (some H.length) false
    simp -implicitDefEqProofs only [Nat.add_sub_cancel] at hq
    have hld:ld H (some 2) (adr 2 v i 0)=some (vl xs[i]):=by
      rw [← hv]
      first | exact (hs.ld hlt hs.pos).trans (by simp [rdc]) | (rw [hs.lda hlt]; simp [rdc,hs.size]; rw [← hs.size xs[i]]; simp)
    simp -implicitDefEqProofs only [fq62.n4_w,sw0,sw1,sw2,sw3,sw4,sw5,reduceCtorEq,Nat.reduceEqDiff,Nat.reduceAdd,Nat.reduceDiv,Nat.reduceLeDiff,hs.at,hlt,hld,hq]
    split
    · rename_i hpx
      simp -implicitDefEqProofs only [fq62.n5_w,sw0,sw1,sw2,sw3,sw4,sw5,reduceCtorEq,Nat.reduceEqDiff,Nat.reduceAdd,Nat.reduceDiv,Nat.reduceLeDiff,fq62.ret,firstAt_hit hlt hpx hno]
    · rename_i hpx
      simp -implicitDefEqProofs only [fq62.n6_w,sw0,sw1,sw2,sw3,sw4,sw5,reduceCtorEq,Nat.reduceEqDiff,Nat.reduceAdd,Nat.reduceDiv,Nat.reduceLeDiff]
      refine fq62.n1_go (m':=m - 1) (by omega) ⟨i + 1,by rw [wrap64 (by omega)]; rfl,rfl,by omega,by omega,?_⟩
      intro j h hj
      by_cases hji:j=i
      · subst hji; simpa using hpx
      · exact hno j h (by omega)
  · rename_i hge
    simp -implicitDefEqProofs only [fq62.n7_w,sw0,sw1,sw2,sw3,sw4,sw5,reduceCtorEq,Nat.reduceEqDiff,Nat.reduceAdd,Nat.reduceDiv,Nat.reduceLeDiff,fq62.ret,firstAt_none (p:=p) (xs:=xs) (fun j h=>hno j h (by omega))]
theorem ContainsFunc_Mark (hk:1003≤k) {f:FuncId} {caps:List AV} {v:AV} {α:Type} {cl:α→List AV} {vl:α→AV} {xs:List α} {p:α→Bool} (hs:Sl H 2 cl v xs) (hl:xs.length≤1000) (hv:∀ x,rdc (cl x) 0 (some 2)=some (vl x))
    (hp:∀ x,x ∈ xs→∀ b lk (K:AV→St→Prop),VC ⟨prog,k - 2,b⟩ f (vl x :: caps) ⟨H,lk⟩ K=K (.bool (p x)) ⟨H,lk⟩) :
    VC ⟨prog,k,b⟩ F_fq58 [v,.fn f caps] ⟨H,lk⟩ K=K (.bool (xs.any p)) ⟨H,lk⟩:=by
  obtain ⟨k,rfl⟩:∃ j,k=j + 1:=⟨k - 1,by omega⟩
  apply VC_iff
  apply fq58.enter
  simp -implicitDefEqProofs only [fq58.n0_w,sw0,sw1,sw2,sw3,sw4,sw5,reduceCtorEq,Nat.reduceEqDiff,Nat.reduceAdd,Nat.reduceDiv,Nat.reduceLeDiff,IndexFunc_Mark (k:=k) (by omega) hs hl hv (p:=p) (fun x hx b lk K=>hp x hx b lk K),fq58.ret,firstAt_any]
theorem IndexFunc_Job (hk:1002≤k) {f:FuncId} {caps:List AV} {v:AV} {α:Type} {cl:α→List AV} {vl:α→AV} {xs:List α} {p:α→Bool} (hs:Sl H 3 cl v xs) (hl:xs.length≤1000) (hv:∀ x,rdc (cl x) 0 (some 3)=some (vl x))
    (hp:∀ x,x ∈ xs→∀ b lk (K:AV→St→Prop),VC ⟨prog,k - 1,b⟩ f (vl x :: caps) ⟨H,lk⟩ K=K (.bool (p x)) ⟨H,lk⟩) :
    VC ⟨prog,k,b⟩ F_fq61 [v,.fn f caps] ⟨H,lk⟩ K=K (iv (firstAt p xs)) ⟨H,lk⟩:=by
  obtain ⟨k,rfl⟩:∃ j,k=j + 1:=⟨k - 1,by omega⟩
  apply VC_iff
  apply fq61.enter
  simp -implicitDefEqProofs only [fq61.n0_w,sw0,sw1,sw2,sw3,sw4,sw5,reduceCtorEq,Nat.reduceEqDiff,Nat.reduceAdd,Nat.reduceDiv,Nat.reduceLeDiff,hs.len]
  refine fq61.n1_l (fun m r3 s=>∃ i:Nat,r3=iv i∧s=⟨H,false⟩∧m=xs.length - i∧i≤xs.length∧∀ j (h:j < xs.length),j < i→p xs[j]=false) xs.length (by simp -implicitDefEqProofs only []; omega) ⟨0,rfl,rfl,by omega,by omega,fun j _ h=>by omega⟩ ?_
  rintro m r2 r3 r5 s ⟨i,rfl,rfl,hm,hi,hno⟩
  simp -implicitDefEqProofs only [fq61.n2_w,sw0,sw1,sw2,sw3,sw4,sw5,reduceCtorEq,Nat.reduceEqDiff,Nat.reduceAdd,Nat.reduceDiv,Nat.reduceLeDiff]
  split
  · rename_i hlt
    have hlt:i < xs.length:=by omega
    have hq:=hp xs[i] (List.getElem_mem _) (some H.length) false
    simp -implicitDefEqProofs only [Nat.add_sub_cancel] at hq
    have hld:ld H (some 3) (adr 3 v i 0)=some (vl xs[i]):=by
      rw [← hv]
      first | exact (hs.ld hlt hs.pos).trans (by simp [rdc]) | (rw [hs.lda hlt]; simp [rdc,hs.size]; rw [← hs.size xs[i]]; simp)
    simp -implicitDefEqProofs only [fq61.n4_w,sw0,sw1,sw2,sw3,sw4,sw5,reduceCtorEq,Nat.reduceEqDiff,Nat.reduceAdd,Nat.reduceDiv,Nat.reduceLeDiff,hs.at,hlt,hld,hq]
    split
    · rename_i hpx
      simp -implicitDefEqProofs only [fq61.n5_w,sw0,sw1,sw2,sw3,sw4,sw5,reduceCtorEq,Nat.reduceEqDiff,Nat.reduceAdd,Nat.reduceDiv,Nat.reduceLeDiff,fq61.ret,firstAt_hit hlt hpx hno]
    · rename_i hpx
      simp -implicitDefEqProofs only [fq61.n6_w,sw0,sw1,sw2,sw3,sw4,sw5,reduceCtorEq,Nat.reduceEqDiff,Nat.reduceAdd,Nat.reduceDiv,Nat.reduceLeDiff]
      refine fq61.n1_go (m':=m - 1) (by omega) ⟨i + 1,by rw [wrap64 (by omega)]; rfl,rfl,by omega,by omega,?_⟩
      intro j h hj
      by_cases hji:j=i
      · subst hji; simpa using hpx
      · exact hno j h (by omega)
  · rename_i hge
    simp -implicitDefEqProofs only [fq61.n7_w,sw0,sw1,sw2,sw3,sw4,sw5,reduceCtorEq,Nat.reduceEqDiff,Nat.reduceAdd,Nat.reduceDiv,Nat.reduceLeDiff,fq61.ret,firstAt_none (p:=p) (xs:=xs) (fun j h=>hno j h (by omega))]
theorem ContainsFunc_Job (hk:1003≤k) {f:FuncId} {caps:List AV} {v:AV} {α:Type} {cl:α→List AV} {vl:α→AV} {xs:List α} {p:α→Bool} (hs:Sl H 3 cl v xs) (hl:xs.length≤1000) (hv:∀ x,rdc (cl x) 0 (some 3)=some (vl x))
    (hp:∀ x,x ∈ xs→∀ b lk (K:AV→St→Prop),VC ⟨prog,k - 2,b⟩ f (vl x :: caps) ⟨H,lk⟩ K=K (.bool (p x)) ⟨H,lk⟩) :
    VC ⟨prog,k,b⟩ F_fq57 [v,.fn f caps] ⟨H,lk⟩ K=K (.bool (xs.any p)) ⟨H,lk⟩:=by
  obtain ⟨k,rfl⟩:∃ j,k=j + 1:=⟨k - 1,by omega⟩
  apply VC_iff
  apply fq57.enter
  simp -implicitDefEqProofs only [fq57.n0_w,sw0,sw1,sw2,sw3,sw4,sw5,reduceCtorEq,Nat.reduceEqDiff,Nat.reduceAdd,Nat.reduceDiv,Nat.reduceLeDiff,IndexFunc_Job (k:=k) (by omega) hs hl hv (p:=p) (fun x hx b lk K=>hp x hx b lk K),fq57.ret,firstAt_any]
def amts (xs:List Int):Bool:=xs.all amt
theorem few_s (hk:1005≤k) {v:AV} {xs:List Int} (hs:SI H v xs) (hl:xs.length≤1000):VC ⟨prog,k,b⟩ F_fq20 [v] ⟨H,lk⟩ K=K (.bool (amts xs)) ⟨H,lk⟩:=by
  obtain ⟨k,rfl⟩:∃ j,k=j + 1:=⟨k - 1,by omega⟩
  apply VC_iff
  apply fq20.enter
  simp -implicitDefEqProofs only [fq20.n0_w,sw0,sw1,sw2,sw3,sw4,sw5,reduceCtorEq,Nat.reduceEqDiff,Nat.reduceAdd,Nat.reduceDiv,Nat.reduceLeDiff,ContainsFunc_int (k:=k) (by omega) hs hl (vl:=iv) (fun x=>rfl) (p:=fun x=>!amt x) (fun x hx b lk K=>few_1_s (k:=k - 2) (by omega)),fq20.ret]
  simp [amts,List.all_eq_not_any_not]
end Go.Proofs.YtcebebhaahpoiaaDoor
end
section
namespace Go.Proofs.YtcebebhaahpoiaaDoor
open Go Go.Ai Go.W
attribute [local irreducible] VC YC WC
set_option linter.unusedSimpArgs false
set_option linter.unusedVariables false
set_option maxRecDepth 10000
variable {k:Nat} {b:Option Nat} {H:List AObj} {lk:Bool} {K:AV→St→Prop}
structure Mach where
  cold:Int
  power:Int
  start:Int
structure Plt where
  heat:Int
  low:Int
  high:Int
  loads:List Int
  prices:List Int
  machs:List Mach
abbrev mc (m:Mach):List AV:=[iv m.cold,iv m.power,iv m.start]
def Mach.ok (m:Mach):Bool:=amts [m.cold,m.power,m.start]
def Plt.band (p:Plt):Bool:=decide (-1000000≤p.low∧p.low≤1000000) && decide (p.low≤p.high∧p.high≤p.low + 1000) && decide (p.low≤p.heat∧p.heat≤p.high)
def Plt.ok (p:Plt):Bool:=p.machs.all Mach.ok && p.band && (decide (p.loads.length=p.prices.length) && decide (p.loads.length≤48) && amts p.loads && amts p.prices) && decide (p.machs.length≤4)
structure PV (H:List AObj) (cs:List AV) (p:Plt):Prop where
  how:∃ vl vp vm,cs=[iv p.heat,iv p.low,iv p.high,vl,vp,vm]∧SI H vl p.loads∧SI H vp p.prices∧Sl H 3 mc vm p.machs
theorem PV.app {cs p} (h:PV H cs p) {L:List AObj}:PV (H ++ L) cs p:=by
  obtain ⟨vl,vp,vm,e,h1,h2,h3⟩:=h.how
  exact ⟨vl,vp,vm,e,h1.app,h2.app,h3.app⟩
theorem CheckPlant_s (hk:1010≤k) {cs:List AV} {p:Plt} (hp:PV H cs p) (hl:p.loads.length≤1000∧p.prices.length≤1000∧p.machs.length≤1000):VC ⟨prog,k,b⟩ F_fq6 [.agg cs] ⟨H,lk⟩ K=K (.bool p.ok) ⟨H,lk⟩:=by
  obtain ⟨k,rfl⟩:∃ j,k=j + 1:=⟨k - 1,by omega⟩
  obtain ⟨vl,vp,vm,rfl,h1,h2,h3⟩:=hp.how
  apply VC_iff
  apply fq6.enter
  simp -implicitDefEqProofs only [fq6.n0_w,sw0,sw1,sw2,sw3,sw4,sw5,reduceCtorEq,Nat.reduceEqDiff,Nat.reduceAdd,Nat.reduceDiv,Nat.reduceLeDiff,h1.one,h2.one,h3.one,h3.len]
  refine fq6.n1_l (fun m r2 s=>∃ (i:Nat) (L:List AObj),r2=iv i∧s=⟨H ++ (.cells [iv p.heat,iv p.low,iv p.high,vl,vp,vm] :: L),false⟩∧m=p.machs.length - i∧i≤p.machs.length∧∀ j (h:j < p.machs.length),j < i→p.machs[j].ok=true) p.machs.length (by simp -implicitDefEqProofs only []; omega) ⟨0,[],rfl,rfl,by omega,by omega,fun j _ h=>by omega⟩ ?_
  rintro m r1 r2 r5 r6 r7 s ⟨i,L,rfl,rfl,hm,hi,hno⟩
  simp -implicitDefEqProofs only [fq6.n2_w,sw0,sw1,sw2,sw3,sw4,sw5,reduceCtorEq,Nat.reduceEqDiff,Nat.reduceAdd,Nat.reduceDiv,Nat.reduceLeDiff]
  split
  · rename_i hlt
    have hlt:i < p.machs.length:=by omega
    have h3':=h3.app (L:=.cells [iv p.heat,iv p.low,iv p.high,vl,vp,vm] :: L)
    simp -implicitDefEqProofs only [fq6.n4_w,sw0,sw1,sw2,sw3,sw4,sw5,reduceCtorEq,Nat.reduceEqDiff,Nat.reduceAdd,Nat.reduceDiv,Nat.reduceLeDiff,h3'.at,hlt,h3'.lda hlt]
    simp -implicitDefEqProofs only [few_s (k:=k) (by omega) (H:=H ++ .cells [iv p.heat,iv p.low,iv p.high,vl,vp,vm] :: (L ++ [.cells [iv p.machs[i].cold,iv p.machs[i].power,iv p.machs[i].start]])) (Sl.lit (fl:=true) (es:=[[iv p.machs[i].cold],[iv p.machs[i].power],[iv p.machs[i].start]]) (xs:=[p.machs[i].cold,p.machs[i].power,p.machs[i].start]) Nat.one_pos (fun _=>rfl) rfl) (by simp),sw0,sw1,sw2,sw3,sw4,sw5,reduceCtorEq,Nat.reduceEqDiff,Nat.reduceAdd,Nat.reduceDiv,Nat.reduceLeDiff]
    split
    · rename_i hb
      simp -implicitDefEqProofs only [fq6.n5_w,sw0,sw1,sw2,sw3,sw4,sw5,reduceCtorEq,Nat.reduceEqDiff,Nat.reduceAdd,Nat.reduceDiv,Nat.reduceLeDiff,fq6.ret]
      have : p.ok=false:=by
        have h0:p.machs.all Mach.ok=false:=by
          rw [List.all_eq_false]
          exact ⟨p.machs[i],List.getElem_mem _,by simp [Mach.ok,hb]⟩
        simp [Plt.ok,h0]
      rw [this]
    · rename_i hb
      simp -implicitDefEqProofs only [fq6.n6_w,sw0,sw1,sw2,sw3,sw4,sw5,reduceCtorEq,Nat.reduceEqDiff,Nat.reduceAdd,Nat.reduceDiv,Nat.reduceLeDiff]
      refine fq6.n1_go (m':=m - 1) (by omega) ⟨i + 1,_,by rw [wrap64 (by omega)]; rfl,rfl,by omega,by omega,?_⟩
      intro j h hj
      by_cases hji:j=i
      · subst hji; simpa [Mach.ok] using hb
      · exact hno j h (by omega)
  · rename_i hge
    have h0:p.machs.all Mach.ok=true:=by
      rw [List.all_eq_true]
      intro x hx
      obtain ⟨j,h,rfl⟩:=List.getElem_of_mem hx
      exact hno j h (by omega)
    have h1':=h1.app (L:=.cells [iv p.heat,iv p.low,iv p.high,vl,vp,vm] :: L)
    have h2':=h2.app (L:=.cells [iv p.heat,iv p.low,iv p.high,vl,vp,vm] :: L)
    have h3':=h3.app (L:=.cells [iv p.heat,iv p.low,iv p.high,vl,vp,vm] :: L)
    simp -implicitDefEqProofs only [fq6.n7_w,sw0,sw1,sw2,sw3,sw4,sw5,reduceCtorEq,Nat.reduceEqDiff,Nat.reduceAdd,Nat.reduceDiv,Nat.reduceLeDiff,within_s (k:=k) (by omega)]
    by_cases c1:-1000000≤p.low∧p.low≤1000000
    · simp -implicitDefEqProofs only [c1,sw0,sw1,sw2,sw3,sw4,sw5,reduceCtorEq,Nat.reduceEqDiff,Nat.reduceAdd,Nat.reduceDiv,Nat.reduceLeDiff,within_s (k:=k) (by omega)]
      rw [wrap64 (by omega)]
      by_cases c2:p.low≤p.high∧p.high≤p.low + 1000
      · simp -implicitDefEqProofs only [c2,sw0,sw1,sw2,sw3,sw4,sw5,reduceCtorEq,Nat.reduceEqDiff,Nat.reduceAdd,Nat.reduceDiv,Nat.reduceLeDiff,within_s (k:=k) (by omega)]
        by_cases c3:p.low≤p.heat∧p.heat≤p.high
        · have hbd:p.band=true:=by simp -implicitDefEqProofs only [Plt.band,c1,c2,c3,sw0,sw1,sw2,sw3,sw4,sw5,reduceCtorEq,Nat.reduceEqDiff,Nat.reduceAdd,Nat.reduceDiv,Nat.reduceLeDiff]
          simp -implicitDefEqProofs only [c3,sw0,sw1,sw2,sw3,sw4,sw5,reduceCtorEq,Nat.reduceEqDiff,Nat.reduceAdd,Nat.reduceDiv,Nat.reduceLeDiff,h1.len,h2.len]
          have d8:decide ((p.machs.length:Int)≤4)=decide (p.machs.length≤4):=decide_eq_decide.2 (by omega)
          by_cases c4:(p.loads.length:Int)=p.prices.length
          · have c4':p.loads.length=p.prices.length:=by omega
            by_cases c5:(p.loads.length:Int)≤48
            · have c5':p.loads.length≤48:=by omega
              simp -implicitDefEqProofs only [eq_true c4,c5,sw0,sw1,sw2,sw3,sw4,sw5,reduceCtorEq,Nat.reduceEqDiff,Nat.reduceAdd,Nat.reduceDiv,Nat.reduceLeDiff,h1.len,few_s (k:=k) (by omega) h1' (by omega)]
              cases c6:amts p.loads
              · simp -implicitDefEqProofs only [sw0,sw1,sw2,sw3,sw4,sw5,reduceCtorEq,Nat.reduceEqDiff,Nat.reduceAdd,Nat.reduceDiv,Nat.reduceLeDiff,h3.len,fq6.ret,Plt.ok,h0,c6,hbd]
              · simp -implicitDefEqProofs only [sw0,sw1,sw2,sw3,sw4,sw5,reduceCtorEq,Nat.reduceEqDiff,Nat.reduceAdd,Nat.reduceDiv,Nat.reduceLeDiff,few_s (k:=k) (by omega) h2' (by omega)]
                cases c7:amts p.prices <;> simp -implicitDefEqProofs only [c7,sw0,sw1,sw2,sw3,sw4,sw5,reduceCtorEq,Nat.reduceEqDiff,Nat.reduceAdd,Nat.reduceDiv,Nat.reduceLeDiff,h3.len,fq6.ret,Plt.ok,h0,c6,hbd,eq_true c4',c5',d8]
            · have c5':¬ p.loads.length≤48:=by omega
              simp -implicitDefEqProofs only [eq_true c4,c5,sw0,sw1,sw2,sw3,sw4,sw5,reduceCtorEq,Nat.reduceEqDiff,Nat.reduceAdd,Nat.reduceDiv,Nat.reduceLeDiff,h1.len,h3.len,fq6.ret,Plt.ok,h0,hbd,c5']
          · have c4':¬ p.loads.length=p.prices.length:=by omega
            simp -implicitDefEqProofs only [eq_false c4,sw0,sw1,sw2,sw3,sw4,sw5,reduceCtorEq,Nat.reduceEqDiff,Nat.reduceAdd,Nat.reduceDiv,Nat.reduceLeDiff,h1.len,h3.len,fq6.ret,Plt.ok,h0,hbd,eq_false c4']
        · have hbd:p.band=false:=by simp -implicitDefEqProofs only [Plt.band,c1,c2,c3,sw0,sw1,sw2,sw3,sw4,sw5,reduceCtorEq,Nat.reduceEqDiff,Nat.reduceAdd,Nat.reduceDiv,Nat.reduceLeDiff]
          simp -implicitDefEqProofs only [c3,sw0,sw1,sw2,sw3,sw4,sw5,reduceCtorEq,Nat.reduceEqDiff,Nat.reduceAdd,Nat.reduceDiv,Nat.reduceLeDiff,h1.len,h2.len]
          have d8:decide ((p.machs.length:Int)≤4)=decide (p.machs.length≤4):=decide_eq_decide.2 (by omega)
          by_cases c4:(p.loads.length:Int)=p.prices.length
          · have c4':p.loads.length=p.prices.length:=by omega
            by_cases c5:(p.loads.length:Int)≤48
            · have c5':p.loads.length≤48:=by omega
              simp -implicitDefEqProofs only [eq_true c4,c5,sw0,sw1,sw2,sw3,sw4,sw5,reduceCtorEq,Nat.reduceEqDiff,Nat.reduceAdd,Nat.reduceDiv,Nat.reduceLeDiff,h1.len,few_s (k:=k) (by omega) h1' (by omega)]
              cases c6:amts p.loads
              · simp -implicitDefEqProofs only [sw0,sw1,sw2,sw3,sw4,sw5,reduceCtorEq,Nat.reduceEqDiff,Nat.reduceAdd,Nat.reduceDiv,Nat.reduceLeDiff,h3.len,fq6.ret,Plt.ok,h0,c6,hbd]
              · simp -implicitDefEqProofs only [sw0,sw1,sw2,sw3,sw4,sw5,reduceCtorEq,Nat.reduceEqDiff,Nat.reduceAdd,Nat.reduceDiv,Nat.reduceLeDiff,few_s (k:=k) (by omega) h2' (by omega)]
                cases c7:amts p.prices <;> simp -implicitDefEqProofs only [c7,sw0,sw1,sw2,sw3,sw4,sw5,reduceCtorEq,Nat.reduceEqDiff,Nat.reduceAdd,Nat.reduceDiv,Nat.reduceLeDiff,h3.len,fq6.ret,Plt.ok,h0,c6,hbd,eq_true c4',c5',d8]
            · have c5':¬ p.loads.length≤48:=by omega
              simp -implicitDefEqProofs only [eq_true c4,c5,sw0,sw1,sw2,sw3,sw4,sw5,reduceCtorEq,Nat.reduceEqDiff,Nat.reduceAdd,Nat.reduceDiv,Nat.reduceLeDiff,h1.len,h3.len,fq6.ret,Plt.ok,h0,hbd,c5']
          · have c4':¬ p.loads.length=p.prices.length:=by omega
            simp -implicitDefEqProofs only [eq_false c4,sw0,sw1,sw2,sw3,sw4,sw5,reduceCtorEq,Nat.reduceEqDiff,Nat.reduceAdd,Nat.reduceDiv,Nat.reduceLeDiff,h1.len,h3.len,fq6.ret,Plt.ok,h0,hbd,eq_false c4']
      · have hbd:p.band=false:=by simp -implicitDefEqProofs only [Plt.band,c1,c2,sw0,sw1,sw2,sw3,sw4,sw5,reduceCtorEq,Nat.reduceEqDiff,Nat.reduceAdd,Nat.reduceDiv,Nat.reduceLeDiff]
        simp -implicitDefEqProofs only [c2,sw0,sw1,sw2,sw3,sw4,sw5,reduceCtorEq,Nat.reduceEqDiff,Nat.reduceAdd,Nat.reduceDiv,Nat.reduceLeDiff,h1.len,h2.len]
        have d8:decide ((p.machs.length:Int)≤4)=decide (p.machs.length≤4):=decide_eq_decide.2 (by omega)
        by_cases c4:(p.loads.length:Int)=p.prices.length
        · have c4':p.loads.length=p.prices.length:=by omega
          by_cases c5:(p.loads.length:Int)≤48
          · have c5':p.loads.length≤48:=by omega
            simp -implicitDefEqProofs only [eq_true c4,c5,sw0,sw1,sw2,sw3,sw4,sw5,reduceCtorEq,Nat.reduceEqDiff,Nat.reduceAdd,Nat.reduceDiv,Nat.reduceLeDiff,h1.len,few_s (k:=k) (by omega) h1' (by omega)]
            cases c6:amts p.loads
            · simp -implicitDefEqProofs only [sw0,sw1,sw2,sw3,sw4,sw5,reduceCtorEq,Nat.reduceEqDiff,Nat.reduceAdd,Nat.reduceDiv,Nat.reduceLeDiff,h3.len,fq6.ret,Plt.ok,h0,c6,hbd]
            · simp -implicitDefEqProofs only [sw0,sw1,sw2,sw3,sw4,sw5,reduceCtorEq,Nat.reduceEqDiff,Nat.reduceAdd,Nat.reduceDiv,Nat.reduceLeDiff,few_s (k:=k) (by omega) h2' (by omega)]
              cases c7:amts p.prices <;> simp -implicitDefEqProofs only [c7,sw0,sw1,sw2,sw3,sw4,sw5,reduceCtorEq,Nat.reduceEqDiff,Nat.reduceAdd,Nat.reduceDiv,Nat.reduceLeDiff,h3.len,fq6.ret,Plt.ok,h0,c6,hbd,eq_true c4',c5',d8]
          · have c5':¬ p.loads.length≤48:=by omega
            simp -implicitDefEqProofs only [eq_true c4,c5,sw0,sw1,sw2,sw3,sw4,sw5,reduceCtorEq,Nat.reduceEqDiff,Nat.reduceAdd,Nat.reduceDiv,Nat.reduceLeDiff,h1.len,h3.len,fq6.ret,Plt.ok,h0,hbd,c5']
        · have c4':¬ p.loads.length=p.prices.length:=by omega
          simp -implicitDefEqProofs only [eq_false c4,sw0,sw1,sw2,sw3,sw4,sw5,reduceCtorEq,Nat.reduceEqDiff,Nat.reduceAdd,Nat.reduceDiv,Nat.reduceLeDiff,h1.len,h3.len,fq6.ret,Plt.ok,h0,hbd,eq_false c4']
    · have hbd:p.band=false:=by simp -implicitDefEqProofs only [Plt.band,c1,sw0,sw1,sw2,sw3,sw4,sw5,reduceCtorEq,Nat.reduceEqDiff,Nat.reduceAdd,Nat.reduceDiv,Nat.reduceLeDiff]
      simp -implicitDefEqProofs only [c1,sw0,sw1,sw2,sw3,sw4,sw5,reduceCtorEq,Nat.reduceEqDiff,Nat.reduceAdd,Nat.reduceDiv,Nat.reduceLeDiff,h1.len,h2.len]
      have d8:decide ((p.machs.length:Int)≤4)=decide (p.machs.length≤4):=decide_eq_decide.2 (by omega)
      by_cases c4:(p.loads.length:Int)=p.prices.length
      · have c4':p.loads.length=p.prices.length:=by omega
        by_cases c5:(p.loads.length:Int)≤48
        · have c5':p.loads.length≤48:=by omega
          simp -implicitDefEqProofs only [eq_true c4,c5,sw0,sw1,sw2,sw3,sw4,sw5,reduceCtorEq,Nat.reduceEqDiff,Nat.reduceAdd,Nat.reduceDiv,Nat.reduceLeDiff,h1.len,few_s (k:=k) (by omega) h1' (by omega)]
          cases c6:amts p.loads
          · simp -implicitDefEqProofs only [sw0,sw1,sw2,sw3,sw4,sw5,reduceCtorEq,Nat.reduceEqDiff,Nat.reduceAdd,Nat.reduceDiv,Nat.reduceLeDiff,h3.len,fq6.ret,Plt.ok,h0,c6,hbd]
          · simp -implicitDefEqProofs only [sw0,sw1,sw2,sw3,sw4,sw5,reduceCtorEq,Nat.reduceEqDiff,Nat.reduceAdd,Nat.reduceDiv,Nat.reduceLeDiff,few_s (k:=k) (by omega) h2' (by omega)]
            cases c7:amts p.prices <;> simp -implicitDefEqProofs only [c7,sw0,sw1,sw2,sw3,sw4,sw5,reduceCtorEq,Nat.reduceEqDiff,Nat.reduceAdd,Nat.reduceDiv,Nat.reduceLeDiff,h3.len,fq6.ret,Plt.ok,h0,c6,hbd,eq_true c4',c5',d8]
        · have c5':¬ p.loads.length≤48:=by omega
          simp -implicitDefEqProofs only [eq_true c4,c5,sw0,sw1,sw2,sw3,sw4,sw5,reduceCtorEq,Nat.reduceEqDiff,Nat.reduceAdd,Nat.reduceDiv,Nat.reduceLeDiff,h1.len,h3.len,fq6.ret,Plt.ok,h0,hbd,c5']
      · have c4':¬ p.loads.length=p.prices.length:=by omega
        simp -implicitDefEqProofs only [eq_false c4,sw0,sw1,sw2,sw3,sw4,sw5,reduceCtorEq,Nat.reduceEqDiff,Nat.reduceAdd,Nat.reduceDiv,Nat.reduceLeDiff,h1.len,h3.len,fq6.ret,Plt.ok,h0,hbd,eq_false c4']
end Go.Proofs.YtcebebhaahpoiaaDoor
end
section
namespace Go.Proofs.YtcebebhaahpoiaaDoor
open Go Go.Ai Go.W
attribute [local irreducible] VC YC WC
set_option linter.unusedSimpArgs false
set_option linter.unusedVariables false
set_option maxRecDepth 10000
variable {k:Nat} {b:Option Nat} {H:List AObj} {lk:Bool} {K:AV→St→Prop}
theorem r12_amounts_s (hk:1005≤k) {v:AV} {xs:List Int} (hs:SI H v xs) (hl:xs.length≤1000):VC ⟨prog,k,b⟩ F_fq53 [v] ⟨H,lk⟩ K=K (.bool (amts xs)) ⟨H,lk⟩:=by
  obtain ⟨k,rfl⟩:∃ j,k=j + 1:=⟨k - 1,by omega⟩
  apply VC_iff
  apply fq53.enter
  simp -implicitDefEqProofs only [fq53.n0_w,sw0,sw1,sw2,sw3,sw4,sw5,reduceCtorEq,Nat.reduceEqDiff,Nat.reduceAdd,Nat.reduceDiv,Nat.reduceLeDiff]
  refine fq53.n1_l (fun m r2 s=>∃ i:Nat,r2=iv i∧s=⟨H,false⟩∧m=xs.length - i∧i≤xs.length∧∀ j (h:j < xs.length),j < i→amt xs[j]=true) xs.length (by simp -implicitDefEqProofs only []; omega) ⟨0,rfl,rfl,by omega,by omega,fun j _ h=>by omega⟩ ?_
  rintro m r1 r2 r3 s ⟨i,rfl,rfl,hm,hi,hno⟩
  simp -implicitDefEqProofs only [fq53.n2_w,sw0,sw1,sw2,sw3,sw4,sw5,reduceCtorEq,Nat.reduceEqDiff,Nat.reduceAdd,Nat.reduceDiv,Nat.reduceLeDiff,hs.len]
  split
  · rename_i hlt
    have hlt:i < xs.length:=by omega
    simp -implicitDefEqProofs only [fq53.n4_w,sw0,sw1,sw2,sw3,sw4,sw5,reduceCtorEq,Nat.reduceEqDiff,Nat.reduceAdd,Nat.reduceDiv,Nat.reduceLeDiff,hs.at,hlt,hs.ld hlt hs.pos,ic,r12_in_s (k:=k) (by omega)]
    split
    · rename_i hb
      have:amts xs=false:=by
        unfold amts
        rw [List.all_eq_false]
        exact ⟨xs[i],List.getElem_mem _,by unfold amt; rw [decide_eq_false hb]; simp⟩
      simp -implicitDefEqProofs only [fq53.n5_w,sw0,sw1,sw2,sw3,sw4,sw5,reduceCtorEq,Nat.reduceEqDiff,Nat.reduceAdd,Nat.reduceDiv,Nat.reduceLeDiff,fq53.ret,this]
    · rename_i hb
      simp -implicitDefEqProofs only [fq53.n6_w,sw0,sw1,sw2,sw3,sw4,sw5,reduceCtorEq,Nat.reduceEqDiff,Nat.reduceAdd,Nat.reduceDiv,Nat.reduceLeDiff]
      refine fq53.n1_go (m':=m - 1) (by omega) ⟨i + 1,by rw [wrap64 (by omega)]; rfl,rfl,by omega,by omega,?_⟩
      intro j h hj
      by_cases hji:j=i
      · subst hji; unfold amt; simpa using hb
      · exact hno j h (by omega)
  · rename_i hge
    have:amts xs=true:=by
      unfold amts
      rw [List.all_eq_true]
      intro x hx
      obtain ⟨j,h,rfl⟩:=List.getElem_of_mem hx
      exact hno j h (by omega)
    simp -implicitDefEqProofs only [fq53.n7_w,sw0,sw1,sw2,sw3,sw4,sw5,reduceCtorEq,Nat.reduceEqDiff,Nat.reduceAdd,Nat.reduceDiv,Nat.reduceLeDiff,fq53.ret,this]
theorem r02_Ints_s (hk:1005≤k) {v w:AV} {xs ys:List Int} (hs:SI H v xs) (ht:SI H w ys) (hl:xs.length≤1000):VC ⟨prog,k,b⟩ F_fq45 [v,w] ⟨H,lk⟩ K=K (.bool (decide (xs=ys))) ⟨H,lk⟩:=by
  obtain ⟨k,rfl⟩:∃ j,k=j + 1:=⟨k - 1,by omega⟩
  apply VC_iff
  apply fq45.enter
  simp -implicitDefEqProofs only [fq45.n0_w,sw0,sw1,sw2,sw3,sw4,sw5,reduceCtorEq,Nat.reduceEqDiff,Nat.reduceAdd,Nat.reduceDiv,Nat.reduceLeDiff,hs.len,ht.len]
  split
  · rename_i hne
    have:¬ xs=ys:=by intro e; subst e; exact hne rfl
    simp -implicitDefEqProofs only [fq45.n1_w,sw0,sw1,sw2,sw3,sw4,sw5,reduceCtorEq,Nat.reduceEqDiff,Nat.reduceAdd,Nat.reduceDiv,Nat.reduceLeDiff,fq45.ret,this]
  · rename_i heq
    have heq:xs.length=ys.length:=by omega
    simp -implicitDefEqProofs only [fq45.n2_w,sw0,sw1,sw2,sw3,sw4,sw5,reduceCtorEq,Nat.reduceEqDiff,Nat.reduceAdd,Nat.reduceDiv,Nat.reduceLeDiff]
    refine fq45.n3_l (fun m r3 s=>∃ i:Nat,r3=iv i∧s=⟨H,false⟩∧m=xs.length - i∧i≤xs.length∧∀ j (h:j < xs.length) (h':j < ys.length),j < i→xs[j]=ys[j]) xs.length (by simp -implicitDefEqProofs only []; omega) ⟨0,rfl,rfl,by omega,by omega,fun j _ _ h=>by omega⟩ ?_
    rintro m r2 r3 r4 r5 s ⟨i,rfl,rfl,hm,hi,hno⟩
    simp -implicitDefEqProofs only [fq45.n4_w,sw0,sw1,sw2,sw3,sw4,sw5,reduceCtorEq,Nat.reduceEqDiff,Nat.reduceAdd,Nat.reduceDiv,Nat.reduceLeDiff,hs.len]
    split
    · rename_i hlt
      have hlt:i < xs.length:=by omega
      have hlt':i < ys.length:=by omega
      simp -implicitDefEqProofs only [fq45.n6_w,sw0,sw1,sw2,sw3,sw4,sw5,reduceCtorEq,Nat.reduceEqDiff,Nat.reduceAdd,Nat.reduceDiv,Nat.reduceLeDiff,hs.at,hlt,hs.ld hlt hs.pos,ht.at,hlt',ht.ld hlt' ht.pos,ic]
      split
      · rename_i hb
        have:¬ xs=ys:=by intro e; subst e; exact hb rfl
        simp -implicitDefEqProofs only [fq45.n7_w,sw0,sw1,sw2,sw3,sw4,sw5,reduceCtorEq,Nat.reduceEqDiff,Nat.reduceAdd,Nat.reduceDiv,Nat.reduceLeDiff,fq45.ret,this]
      · rename_i hb
        simp -implicitDefEqProofs only [fq45.n8_w,sw0,sw1,sw2,sw3,sw4,sw5,reduceCtorEq,Nat.reduceEqDiff,Nat.reduceAdd,Nat.reduceDiv,Nat.reduceLeDiff]
        refine fq45.n3_go (m':=m - 1) (by omega) ⟨i + 1,by rw [wrap64 (by omega)]; rfl,rfl,by omega,by omega,?_⟩
        intro j h h' hj
        by_cases hji:j=i
        · subst hji; simpa using hb
        · exact hno j h h' (by omega)
    · rename_i hge
      have:xs=ys:=List.ext_getElem heq (fun j h h'=>hno j h h' (by omega))
      simp -implicitDefEqProofs only [fq45.n9_w,sw0,sw1,sw2,sw3,sw4,sw5,reduceCtorEq,Nat.reduceEqDiff,Nat.reduceAdd,Nat.reduceDiv,Nat.reduceLeDiff,fq45.ret,decide_eq_true this]
theorem r12_Runs_s (hk:1005≤k) {n i:Nat} (hn:n < 2 ^ 62) (hi:i≤1000):VC ⟨prog,k,b⟩ F_fq49 [iv n,iv i] ⟨H,lk⟩ K=K (.bool (n.testBit i)) ⟨H,lk⟩:=by
  obtain ⟨k,rfl⟩:∃ j,k=j + 1:=⟨k - 1,by omega⟩
  apply VC_iff
  apply fq49.enter
  simp -implicitDefEqProofs only [fq49.n0_w,sw0,sw1,sw2,sw3,sw4,sw5,reduceCtorEq,Nat.reduceEqDiff,Nat.reduceAdd,Nat.reduceDiv,Nat.reduceLeDiff]
  refine fq49.n1_l (fun m r0 r3 s=>∃ j x:Nat,r0=iv x∧r3=iv j∧s=⟨H,false⟩∧m=i - j∧j≤i∧x≤n∧x.testBit (i - j)=n.testBit i) i (by simp -implicitDefEqProofs only []; omega) ⟨0,n,rfl,rfl,rfl,by omega,by omega,by omega,rfl⟩ ?_
  rintro m r0 r3 r4 s ⟨j,x,rfl,rfl,rfl,hm,hj,hx,hb⟩
  simp -implicitDefEqProofs only [fq49.n2_w,sw0,sw1,sw2,sw3,sw4,sw5,reduceCtorEq,Nat.reduceEqDiff,Nat.reduceAdd,Nat.reduceDiv,Nat.reduceLeDiff]
  split
  · rename_i hlt
    simp -implicitDefEqProofs only [fq49.n4_w,sw0,sw1,sw2,sw3,sw4,sw5,reduceCtorEq,Nat.reduceEqDiff,Nat.reduceAdd,Nat.reduceDiv,Nat.reduceLeDiff,Int.reduceEq]
    refine fq49.n1_go (m':=m - 1) (by omega) ⟨j + 1,x / 2,?_,by rw [wrap64 (by omega)]; rfl,rfl,by omega,by omega,by omega,?_⟩
    · have:((x:Int).tdiv 2)=((x / 2:Nat):Int):=by rw [Int.tdiv_eq_ediv_of_nonneg (by omega)]; omega
      rw [this,wrap64 (by omega)]
    · rw [← hb,show i - j=(i - (j + 1)) + 1 by omega,Nat.testBit_succ]
  · rename_i hge
    have hij:i - j=0:=by omega
    rw [hij] at hb
    have hv:decide ((x:Int).tmod 2=1)=n.testBit i:=by
      rw [← hb,Nat.testBit_zero]
      have:((x:Int).tmod 2)=((x % 2:Nat):Int):=by rw [Int.tmod_eq_emod_of_nonneg (by omega)]; omega
      rw [this]
      exact decide_eq_decide.2 (by omega)
    simp -implicitDefEqProofs only [fq49.n5_w,sw0,sw1,sw2,sw3,sw4,sw5,reduceCtorEq,Nat.reduceEqDiff,Nat.reduceAdd,Nat.reduceDiv,Nat.reduceLeDiff,Int.reduceEq,fq49.ret,hv]
def coldOf:List Mach→Nat→Int
  | [],_=>0
  | m :: ms,n=>(if n.testBit 0 then m.cold else 0) + coldOf ms (n / 2)
def powerOf:List Mach→Nat→Int
  | [],_=>0
  | m :: ms,n=>(if n.testBit 0 then m.power else 0) + powerOf ms (n / 2)
def startOf:List Mach→Nat→Nat→Int
  | [],_,_=>0
  | m :: ms,n,o=>(if n.testBit 0 && !o.testBit 0 then m.start else 0) + startOf ms (n / 2) (o / 2)
theorem tb_drop (n i:Nat):(n / 2 ^ i).testBit 0=n.testBit i:=by
  rw [Nat.testBit_div_two_pow]; simp
theorem coldOf_drop {ms:List Mach} {i:Nat} (h:i < ms.length) (n:Nat):coldOf (ms.drop i) (n / 2 ^ i)=(if n.testBit i then ms[i].cold else 0) + coldOf (ms.drop (i + 1)) (n / 2 ^ (i + 1)):=by
  rw [List.drop_eq_getElem_cons h,coldOf,tb_drop,Nat.div_div_eq_div_mul,← Nat.pow_succ]
theorem powerOf_drop {ms:List Mach} {i:Nat} (h:i < ms.length) (n:Nat):powerOf (ms.drop i) (n / 2 ^ i)=(if n.testBit i then ms[i].power else 0) + powerOf (ms.drop (i + 1)) (n / 2 ^ (i + 1)):=by
  rw [List.drop_eq_getElem_cons h,powerOf,tb_drop,Nat.div_div_eq_div_mul,← Nat.pow_succ]
theorem startOf_drop {ms:List Mach} {i:Nat} (h:i < ms.length) (n o:Nat):startOf (ms.drop i) (n / 2 ^ i) (o / 2 ^ i)=(if n.testBit i && !o.testBit i then ms[i].start else 0) + startOf (ms.drop (i + 1)) (n / 2 ^ (i + 1)) (o / 2 ^ (i + 1)):=by
  rw [List.drop_eq_getElem_cons h,startOf,tb_drop,tb_drop,Nat.div_div_eq_div_mul,Nat.div_div_eq_div_mul,← Nat.pow_succ]
structure Plt.Ok (p:Plt):Prop where
  low:-1000000≤p.low∧p.low≤1000000
  high:p.low≤p.high∧p.high≤p.low + 1000
  heat:p.low≤p.heat∧p.heat≤p.high
  len:p.loads.length=p.prices.length
  hours:p.loads.length≤48
  loads:∀ i (h:i < p.loads.length),0≤p.loads[i]∧p.loads[i]≤1000000
  prices:∀ i (h:i < p.prices.length),0≤p.prices[i]∧p.prices[i]≤1000000
  few:p.machs.length≤4
  machs:∀ i (h:i < p.machs.length),(0≤p.machs[i].cold∧p.machs[i].cold≤1000000)∧(0≤p.machs[i].power∧p.machs[i].power≤1000000)∧(0≤p.machs[i].start∧p.machs[i].start≤1000000)
theorem Plt.ok_Ok {p:Plt} (h:p.ok=true):p.Ok:=by
  simp -implicitDefEqProofs only [Plt.ok,Plt.band,Mach.ok,amts,amt,Bool.and_eq_true,decide_eq_true_eq,List.all_eq_true] at h
  obtain ⟨⟨⟨h1,⟨h2,h3⟩,h4⟩,⟨⟨h5,h6⟩,h7⟩,h8⟩,h9⟩:=h
  refine ⟨h2,h3,h4,h5,h6,fun i hi=>h7 _ (List.getElem_mem _),fun i hi=>h8 _ (List.getElem_mem _),h9,fun i hi=>?_⟩
  have:=h1 _ (List.getElem_mem hi)
  simp -implicitDefEqProofs only [List.mem_cons,List.not_mem_nil,or_false,forall_eq_or_imp,forall_eq] at this
  exact this
theorem r12_all_s (hk:1005≤k) {cs:List AV} {p:Plt} (hp:PV H cs p) (hl:p.machs.length≤60):VC ⟨prog,k,b⟩ F_fq52 [.agg cs] ⟨H,lk⟩ K=K (iv (2 ^ p.machs.length:Nat)) ⟨H,lk⟩:=by
  obtain ⟨k,rfl⟩:∃ j,k=j + 1:=⟨k - 1,by omega⟩
  obtain ⟨vl,vp,vm,rfl,h1,h2,h3⟩:=hp.how
  apply VC_iff
  apply fq52.enter
  simp -implicitDefEqProofs only [fq52.n0_w,sw0,sw1,sw2,sw3,sw4,sw5,reduceCtorEq,Nat.reduceEqDiff,Nat.reduceAdd,Nat.reduceDiv,Nat.reduceLeDiff,h1.one,h2.one,h3.one]
  refine fq52.n1_l (fun m r2 r3 s=>∃ i:Nat,r2=iv (2 ^ i:Nat)∧r3=iv i∧s=⟨H ++ [.cells [iv p.heat,iv p.low,iv p.high,vl,vp,vm]],false⟩∧m=p.machs.length - i∧i≤p.machs.length) p.machs.length (by simp -implicitDefEqProofs only []; omega) ⟨0,rfl,rfl,rfl,by omega,by omega⟩ ?_
  rintro m r2 r3 r4 s ⟨i,rfl,rfl,rfl,hm,hi⟩
  simp -implicitDefEqProofs only [fq52.n2_w,sw0,sw1,sw2,sw3,sw4,sw5,reduceCtorEq,Nat.reduceEqDiff,Nat.reduceAdd,Nat.reduceDiv,Nat.reduceLeDiff,h3.len]
  split
  · rename_i hlt
    simp -implicitDefEqProofs only [fq52.n4_w,sw0,sw1,sw2,sw3,sw4,sw5,reduceCtorEq,Nat.reduceEqDiff,Nat.reduceAdd,Nat.reduceDiv,Nat.reduceLeDiff]
    refine fq52.n1_go (m':=m - 1) (by omega) ⟨i + 1,?_,by rw [wrap64 (by omega)]; rfl,rfl,by omega,by omega⟩
    have:(2:Nat) ^ i≤2 ^ 60:=Nat.pow_le_pow_right (by omega) (by omega)
    have e:(2:Nat) ^ (i + 1)=2 * 2 ^ i:=by rw [Nat.pow_succ]; omega
    rw [wrap64 (by omega),e]
    rfl
  · rename_i hge
    have:i=p.machs.length:=by omega
    subst this
    simp -implicitDefEqProofs only [fq52.n5_w,sw0,sw1,sw2,sw3,sw4,sw5,reduceCtorEq,Nat.reduceEqDiff,Nat.reduceAdd,Nat.reduceDiv,Nat.reduceLeDiff,fq52.ret]
def Plt.heatBy (p:Plt) (h:Nat) (before:Int) (n:Nat):Int:=max p.low (before + p.loads.getD h 0 - coldOf p.machs n)
def Plt.costBy (p:Plt) (h before n:Nat):Int:=p.prices.getD h 0 * powerOf p.machs n + startOf p.machs n before
theorem r12_behind_s (hk:1010≤k) {cs:List AV} {p:Plt} (hp:PV H cs p) (ho:p.Ok) {h n:Nat} {before:Int} (hh:h < p.loads.length) (hn:n < 2 ^ 62) (hb:-100000000≤before∧before≤100000000) :
    VC ⟨prog,k,b⟩ F_fq54 [.agg cs,iv h,iv before,iv n] ⟨H,lk⟩ K=K (iv (p.heatBy h before n)) ⟨H,lk⟩:=by
  obtain ⟨k,rfl⟩:∃ j,k=j + 1:=⟨k - 1,by omega⟩
  obtain ⟨vl,vp,vm,rfl,h1,h2,h3⟩:=hp.how
  apply VC_iff
  apply fq54.enter
  have h1':=h1.app (L:=[.cells [iv p.heat,iv p.low,iv p.high,vl,vp,vm]])
  have h3':=h3.app (L:=[.cells [iv p.heat,iv p.low,iv p.high,vl,vp,vm]])
  have hld:=ho.loads h hh
  have hfew:=ho.few
  simp -implicitDefEqProofs only [fq54.n0_w,sw0,sw1,sw2,sw3,sw4,sw5,reduceCtorEq,Nat.reduceEqDiff,Nat.reduceAdd,Nat.reduceDiv,Nat.reduceLeDiff,h1.one,h2.one,h3.one,h1'.at,hh,h1'.ld hh h1.pos,ic]
  rw [wrap64 (by omega)]
  refine fq54.n1_l (fun m r2 r5 s=>∃ (i:Nat) (x:Int),r2=iv x∧r5=iv i∧s=⟨H ++ [.cells [iv p.heat,iv p.low,iv p.high,vl,vp,vm]],false⟩∧m=p.machs.length - i∧i≤p.machs.length∧x≤101000000∧-100000000 - i * 1000000≤x∧x - coldOf (p.machs.drop i) (n / 2 ^ i)=before + p.loads[h] - coldOf p.machs n) p.machs.length (by simp -implicitDefEqProofs only []; omega) ⟨0,_,rfl,rfl,rfl,by omega,by omega,by omega,by omega,by simp⟩ ?_
  rintro m r1 r2 r5 s ⟨i,x,rfl,rfl,rfl,hm,hi,hx1,hx2,hx⟩
  simp -implicitDefEqProofs only [fq54.n2_w,sw0,sw1,sw2,sw3,sw4,sw5,reduceCtorEq,Nat.reduceEqDiff,Nat.reduceAdd,Nat.reduceDiv,Nat.reduceLeDiff,h3.len]
  split
  · rename_i hlt
    have hlt:i < p.machs.length:=by omega
    have hmi:=ho.machs i hlt
    rw [coldOf_drop hlt] at hx
    simp -implicitDefEqProofs only [fq54.n4_w,sw0,sw1,sw2,sw3,sw4,sw5,reduceCtorEq,Nat.reduceEqDiff,Nat.reduceAdd,Nat.reduceDiv,Nat.reduceLeDiff,r12_Runs_s (k:=k) (by omega) hn (show i≤1000 by omega)]
    split
    · rename_i hbit
      rw [if_pos hbit] at hx
      simp -implicitDefEqProofs only [fq54.n5_w,sw0,sw1,sw2,sw3,sw4,sw5,reduceCtorEq,Nat.reduceEqDiff,Nat.reduceAdd,Nat.reduceDiv,Nat.reduceLeDiff,h3'.at,hlt,h3'.off,h3'.ld hlt (show 0 < 3 by omega),mc,fq54.n6_w]
      refine fq54.n1_go (m':=m - 1) (by omega) ⟨i + 1,x - p.machs[i].cold,by rw [wrap64 (by omega)],by rw [wrap64 (by omega)]; rfl,rfl,by omega,by omega,by omega,by omega,by omega⟩
    · rename_i hbit
      rw [if_neg hbit] at hx
      simp -implicitDefEqProofs only [fq54.n6_w,sw0,sw1,sw2,sw3,sw4,sw5,reduceCtorEq,Nat.reduceEqDiff,Nat.reduceAdd,Nat.reduceDiv,Nat.reduceLeDiff]
      refine fq54.n1_go (m':=m - 1) (by omega) ⟨i + 1,x,rfl,by rw [wrap64 (by omega)]; rfl,rfl,by omega,by omega,by omega,by omega,by omega⟩
  · rename_i hge
    have hlen:i=p.machs.length:=by omega
    have hz:coldOf (p.machs.drop i) (n / 2 ^ i)=0:=by rw [List.drop_of_length_le (by omega)]; rfl
    rw [hz] at hx
    have:max x p.low=p.heatBy h before n:=by
      unfold Plt.heatBy
      simp -implicitDefEqProofs only [List.getD_eq_getElem?_getD,List.getElem?_eq_getElem hh,Option.getD_some]
      omega
    simp -implicitDefEqProofs only [fq54.n7_w,sw0,sw1,sw2,sw3,sw4,sw5,reduceCtorEq,Nat.reduceEqDiff,Nat.reduceAdd,Nat.reduceDiv,Nat.reduceLeDiff,fq54.ret,this]
end Go.Proofs.YtcebebhaahpoiaaDoor
end
section
namespace Go.Proofs.YtcebebhaahpoiaaDoor
open Go Go.Ai Go.W
attribute [local irreducible] VC YC WC
set_option linter.unusedSimpArgs false
set_option linter.unusedVariables false
set_option maxRecDepth 10000
variable {k:Nat} {b:Option Nat} {H:List AObj} {lk:Bool} {K:AV→St→Prop}
theorem coldOf_le {ms:List Mach} (h:∀ i (hi:i < ms.length),0≤ms[i].cold∧ms[i].cold≤1000000) (n:Nat):0≤coldOf ms n∧coldOf ms n≤ms.length * 1000000:=by
  induction ms generalizing n with
  | nil=>simp [coldOf]
  | cons m ms ih =>
    have h0:=h 0 (by simp)
    have:=ih (fun i hi=>by have:=h (i + 1) (by simpa using hi); simpa only [List.getElem_cons_succ] using this) (n / 2)
    simp -implicitDefEqProofs only [List.getElem_cons_zero] at h0
    simp -implicitDefEqProofs only [coldOf,List.length_cons]
    split <;> omega
theorem powerOf_le {ms:List Mach} (h:∀ i (hi:i < ms.length),0≤ms[i].power∧ms[i].power≤1000000) (n:Nat):0≤powerOf ms n∧powerOf ms n≤ms.length * 1000000:=by
  induction ms generalizing n with
  | nil=>simp [powerOf]
  | cons m ms ih =>
    have h0:=h 0 (by simp)
    have:=ih (fun i hi=>by have:=h (i + 1) (by simpa using hi); simpa only [List.getElem_cons_succ] using this) (n / 2)
    simp -implicitDefEqProofs only [List.getElem_cons_zero] at h0
    simp -implicitDefEqProofs only [powerOf,List.length_cons]
    split <;> omega
theorem startOf_le {ms:List Mach} (h:∀ i (hi:i < ms.length),0≤ms[i].start∧ms[i].start≤1000000) (n o:Nat):0≤startOf ms n o∧startOf ms n o≤ms.length * 1000000:=by
  induction ms generalizing n o with
  | nil=>simp [startOf]
  | cons m ms ih =>
    have h0:=h 0 (by simp)
    have:=ih (fun i hi=>by have:=h (i + 1) (by simpa using hi); simpa only [List.getElem_cons_succ] using this) (n / 2) (o / 2)
    simp -implicitDefEqProofs only [List.getElem_cons_zero] at h0
    simp -implicitDefEqProofs only [startOf,List.length_cons]
    split <;> omega
theorem mul_amt {a b:Int} (ha:0≤a∧a≤1000000) (hb:0≤b∧b≤4000000):0≤a * b∧a * b≤4000000000000:=by
  constructor
  · exact Int.mul_nonneg ha.1 hb.1
  · have h1:a * b≤1000000 * b:=Int.mul_le_mul_of_nonneg_right ha.2 hb.1
    omega
theorem r12_costs_s (hk:1010≤k) {cs:List AV} {p:Plt} (hp:PV H cs p) (ho:p.Ok) {h n o:Nat} (hh:h < p.loads.length) (hn:n < 2 ^ 62) (hno:o < 2 ^ 62) :
    VC ⟨prog,k,b⟩ F_fq55 [.agg cs,iv h,iv o,iv n] ⟨H,lk⟩ K=K (iv (p.costBy h o n)) ⟨H,lk⟩:=by
  obtain ⟨k,rfl⟩:∃ j,k=j + 1:=⟨k - 1,by omega⟩
  obtain ⟨vl,vp,vm,rfl,h1,h2,h3⟩:=hp.how
  apply VC_iff
  apply fq55.enter
  have h2':=h2.app (L:=[.cells [iv p.heat,iv p.low,iv p.high,vl,vp,vm]])
  have h3':=h3.app (L:=[.cells [iv p.heat,iv p.low,iv p.high,vl,vp,vm]])
  have hh2:h < p.prices.length:=by rw [← ho.len]; exact hh
  have hpr:=ho.prices h hh2
  have hfew:=ho.few
  simp -implicitDefEqProofs only [fq55.n0_w,sw0,sw1,sw2,sw3,sw4,sw5,reduceCtorEq,Nat.reduceEqDiff,Nat.reduceAdd,Nat.reduceDiv,Nat.reduceLeDiff,h1.one,h2.one,h3.one]
  refine fq55.n1_l (fun m r5 r6 s=>∃ (i:Nat) (x:Int),r5=iv x∧r6=iv i∧s=⟨H ++ [.cells [iv p.heat,iv p.low,iv p.high,vl,vp,vm]],false⟩∧m=p.machs.length - i∧i≤p.machs.length∧0≤x∧x≤i * 2000000000000 ∧
      x + (p.prices[h] * powerOf (p.machs.drop i) (n / 2 ^ i) + startOf (p.machs.drop i) (n / 2 ^ i) (o / 2 ^ i))=p.prices[h] * powerOf p.machs n + startOf p.machs n o) p.machs.length (by simp -implicitDefEqProofs only []; omega) ⟨0,_,rfl,rfl,rfl,by omega,by omega,by omega,by omega,by simp⟩ ?_
  rintro m r5 r6 r7 r8 s ⟨i,x,rfl,rfl,rfl,hm,hi,hx1,hx2,hx⟩
  simp -implicitDefEqProofs only [fq55.n2_w,sw0,sw1,sw2,sw3,sw4,sw5,reduceCtorEq,Nat.reduceEqDiff,Nat.reduceAdd,Nat.reduceDiv,Nat.reduceLeDiff,h3.len]
  split
  · rename_i hlt
    have hlt:i < p.machs.length:=by omega
    have hmi:=ho.machs i hlt
    have hmul:=mul_amt hpr ⟨hmi.2.1.1,Int.le_trans hmi.2.1.2 (by omega)⟩
    have hmul2:p.prices[h] * p.machs[i].power≤1000000000000:=by
      have h5:p.prices[h] * p.machs[i].power≤p.prices[h] * 1000000:=Int.mul_le_mul_of_nonneg_left hmi.2.1.2 hpr.1
      omega
    rw [powerOf_drop hlt,startOf_drop hlt] at hx
    simp -implicitDefEqProofs only [fq55.n4_w,sw0,sw1,sw2,sw3,sw4,sw5,reduceCtorEq,Nat.reduceEqDiff,Nat.reduceAdd,Nat.reduceDiv,Nat.reduceLeDiff,r12_Runs_s (k:=k) (by omega) hn (show i≤1000 by omega)]
    split
    · rename_i hbit
      rw [if_pos hbit,Int.mul_add] at hx
      simp -implicitDefEqProofs only [hbit,Bool.true_and] at hx
      simp -implicitDefEqProofs only [fq55.n5_w,sw0,sw1,sw2,sw3,sw4,sw5,reduceCtorEq,Nat.reduceEqDiff,Nat.reduceAdd,Nat.reduceDiv,Nat.reduceLeDiff,h2'.at,hh2,h2'.ld hh2 h2.pos,ic,h3'.at,hlt,h3'.off,h3'.ld hlt (show 1 < 3 by omega),h3'.ld hlt (show 2 < 3 by omega),mc,r12_Runs_s (k:=k) (by omega) hno (show i≤1000 by omega)]
      rw [wrap64 (n:=p.prices[h] * p.machs[i].power) (by omega),wrap64 (by omega)]
      split
      · rename_i hob
        simp -implicitDefEqProofs only [hob,Bool.not_false,if_true] at hx
        simp -implicitDefEqProofs only [fq55.n6_w,sw0,sw1,sw2,sw3,sw4,sw5,reduceCtorEq,Nat.reduceEqDiff,Nat.reduceAdd,Nat.reduceDiv,Nat.reduceLeDiff,h3'.at,hlt,h3'.off,h3'.ld hlt (show 2 < 3 by omega),mc,fq55.n7_w]
        refine fq55.n1_go (m':=m - 1) (by omega) ⟨i + 1,_,by rw [wrap64 (by omega)],by rw [wrap64 (by omega)]; rfl,rfl,by omega,by omega,by omega,by omega,by omega⟩
      · rename_i hob
        simp -implicitDefEqProofs only [Bool.not_eq_false] at hob
        simp -implicitDefEqProofs only [hob,Bool.not_true,Bool.false_eq_true,if_false] at hx
        simp -implicitDefEqProofs only [fq55.n7_w,sw0,sw1,sw2,sw3,sw4,sw5,reduceCtorEq,Nat.reduceEqDiff,Nat.reduceAdd,Nat.reduceDiv,Nat.reduceLeDiff]
        refine fq55.n1_go (m':=m - 1) (by omega) ⟨i + 1,_,rfl,by rw [wrap64 (by omega)]; rfl,rfl,by omega,by omega,by omega,by omega,by omega⟩
    · rename_i hbit
      simp -implicitDefEqProofs only [hbit,Bool.false_and,Bool.false_eq_true,if_false,Int.zero_add] at hx
      simp -implicitDefEqProofs only [fq55.n7_w,sw0,sw1,sw2,sw3,sw4,sw5,reduceCtorEq,Nat.reduceEqDiff,Nat.reduceAdd,Nat.reduceDiv,Nat.reduceLeDiff]
      refine fq55.n1_go (m':=m - 1) (by omega) ⟨i + 1,x,rfl,by rw [wrap64 (by omega)]; rfl,rfl,by omega,by omega,by omega,by omega,by omega⟩
  · rename_i hge
    have hlen:i=p.machs.length:=by omega
    rw [List.drop_of_length_le (by omega)] at hx
    simp -implicitDefEqProofs only [powerOf,startOf,Int.mul_zero,Int.add_zero] at hx
    have:x=p.costBy h o n:=by
      unfold Plt.costBy
      simp -implicitDefEqProofs only [List.getD_eq_getElem?_getD,List.getElem?_eq_getElem hh2,Option.getD_some]
      omega
    simp -implicitDefEqProofs only [fq55.n8_w,sw0,sw1,sw2,sw3,sw4,sw5,reduceCtorEq,Nat.reduceEqDiff,Nat.reduceAdd,Nat.reduceDiv,Nat.reduceLeDiff,fq55.ret,this]
theorem r12_CheckPlant_s (hk:1010≤k) {cs:List AV} {p:Plt} (hp:PV H cs p) (hl:p.loads.length≤1000∧p.prices.length≤1000∧p.machs.length≤1000):VC ⟨prog,k,b⟩ F_fq46 [.agg cs] ⟨H,lk⟩ K=K (.bool p.ok) ⟨H,lk⟩:=by
  obtain ⟨k,rfl⟩:∃ j,k=j + 1:=⟨k - 1,by omega⟩
  obtain ⟨vl,vp,vm,rfl,h1,h2,h3⟩:=hp.how
  apply VC_iff
  apply fq46.enter
  have h1':=h1.app (L:=[.cells [iv p.heat,iv p.low,iv p.high,vl,vp,vm]])
  have h2':=h2.app (L:=[.cells [iv p.heat,iv p.low,iv p.high,vl,vp,vm]])
  have h3':=h3.app (L:=[.cells [iv p.heat,iv p.low,iv p.high,vl,vp,vm]])
  simp -implicitDefEqProofs only [fq46.n0_w,sw0,sw1,sw2,sw3,sw4,sw5,reduceCtorEq,Nat.reduceEqDiff,Nat.reduceAdd,Nat.reduceDiv,Nat.reduceLeDiff,h1.one,h2.one,h3.one,r12_in_s (k:=k) (by omega)]
  have fin:p.ok=false→K=K→True:=fun _ _=>trivial
  by_cases hbd:p.band=true
  · have hb2 := hbd
    simp -implicitDefEqProofs only [Plt.band,Bool.and_eq_true,decide_eq_true_eq] at hb2
    obtain ⟨⟨c1,c2⟩,c3⟩:=hb2
    have c2a:¬ p.high < p.low:=by omega
    have c2b:¬ p.low + 1000 < p.high:=by omega
    simp -implicitDefEqProofs only [c1,c2a,sw0,sw1,sw2,sw3,sw4,sw5,reduceCtorEq,Nat.reduceEqDiff,Nat.reduceAdd,Nat.reduceDiv,Nat.reduceLeDiff]
    rw [wrap64 (by omega)]
    simp -implicitDefEqProofs only [c2b,c3,sw0,sw1,sw2,sw3,sw4,sw5,reduceCtorEq,Nat.reduceEqDiff,Nat.reduceAdd,Nat.reduceDiv,Nat.reduceLeDiff,r12_in_s (k:=k) (by omega)]
    simp -implicitDefEqProofs only [fq46.n2_w,sw0,sw1,sw2,sw3,sw4,sw5,reduceCtorEq,Nat.reduceEqDiff,Nat.reduceAdd,Nat.reduceDiv,Nat.reduceLeDiff,h1.len,h2.len]
    by_cases c4:p.loads.length=p.prices.length∧p.loads.length≤48∧amts p.loads=true∧amts p.prices=true∧p.machs.length≤4
    · obtain ⟨c4,c5,c6,c7,c8⟩:=c4
      have c4':(p.loads.length:Int)=p.prices.length:=by omega
      have c5':¬ (48:Int) < p.loads.length:=by omega
      have c8':¬ (4:Int) < p.machs.length:=by omega
      simp -implicitDefEqProofs only [eq_true c4',c5',sw0,sw1,sw2,sw3,sw4,sw5,reduceCtorEq,Nat.reduceEqDiff,Nat.reduceAdd,Nat.reduceDiv,Nat.reduceLeDiff,h1.len,r12_amounts_s (k:=k) (by omega) h1' (by omega),r12_amounts_s (k:=k) (by omega) h2' (by omega),c6,c7,h3.len,c8',fq46.n4_w]
      refine fq46.n5_l (fun m r2 s=>∃ i:Nat,r2=iv i∧s=⟨H ++ [.cells [iv p.heat,iv p.low,iv p.high,vl,vp,vm]],false⟩∧m=p.machs.length - i∧i≤p.machs.length∧∀ j (h:j < p.machs.length),j < i→p.machs[j].ok=true) p.machs.length (by simp -implicitDefEqProofs only []; omega) ⟨0,rfl,rfl,by omega,by omega,fun j _ h=>by omega⟩ ?_
      rintro m r1 r2 r3 r4 r5 s ⟨i,rfl,rfl,hm,hi,hno⟩
      simp -implicitDefEqProofs only [fq46.n6_w,sw0,sw1,sw2,sw3,sw4,sw5,reduceCtorEq,Nat.reduceEqDiff,Nat.reduceAdd,Nat.reduceDiv,Nat.reduceLeDiff,h3.len]
      split
      · rename_i hlt
        have hlt:i < p.machs.length:=by omega
        simp -implicitDefEqProofs only [fq46.n8_w,sw0,sw1,sw2,sw3,sw4,sw5,reduceCtorEq,Nat.reduceEqDiff,Nat.reduceAdd,Nat.reduceDiv,Nat.reduceLeDiff,h3'.at,hlt,h3'.off,h3'.ld hlt (show 0 < 3 by omega),h3'.ld hlt (show 1 < 3 by omega),h3'.ld hlt (show 2 < 3 by omega),mc,
          r12_amounts_s (k:=k) (by omega) (H:=H ++ [.cells [iv p.heat,iv p.low,iv p.high,vl,vp,vm]]) (Sl.lit (fl:=true) (es:=[[iv p.machs[i].cold],[iv p.machs[i].power],[iv p.machs[i].start]]) (xs:=[p.machs[i].cold,p.machs[i].power,p.machs[i].start]) Nat.one_pos (fun _=>rfl) rfl) (by simp)]
        split
        · rename_i hb
          have : p.ok=false:=by
            have h0:p.machs.all Mach.ok=false:=by
              rw [List.all_eq_false]
              exact ⟨p.machs[i],List.getElem_mem _,by simp [Mach.ok,hb]⟩
            simp [Plt.ok,h0]
          simp -implicitDefEqProofs only [fq46.n9_w,sw0,sw1,sw2,sw3,sw4,sw5,reduceCtorEq,Nat.reduceEqDiff,Nat.reduceAdd,Nat.reduceDiv,Nat.reduceLeDiff,fq46.ret,this]
        · rename_i hb
          simp -implicitDefEqProofs only [fq46.n10_w,sw0,sw1,sw2,sw3,sw4,sw5,reduceCtorEq,Nat.reduceEqDiff,Nat.reduceAdd,Nat.reduceDiv,Nat.reduceLeDiff]
          refine fq46.n5_go (m':=m - 1) (by omega) ⟨i + 1,by rw [wrap64 (by omega)]; rfl,rfl,by omega,by omega,?_⟩
          intro j h hj
          by_cases hji:j=i
          · subst hji; simpa [Mach.ok] using hb
          · exact hno j h (by omega)
      · rename_i hge
        have h0:p.machs.all Mach.ok=true:=by
          rw [List.all_eq_true]
          intro x hx
          obtain ⟨j,h,rfl⟩:=List.getElem_of_mem hx
          exact hno j h (by omega)
        have:p.ok=true:=by simp -implicitDefEqProofs only [Plt.ok,h0,hbd,c4,c6,c7,c8,Bool.and_true,Bool.true_and]; simp; omega
        simp -implicitDefEqProofs only [fq46.n11_w,sw0,sw1,sw2,sw3,sw4,sw5,reduceCtorEq,Nat.reduceEqDiff,Nat.reduceAdd,Nat.reduceDiv,Nat.reduceLeDiff,fq46.ret,this]
    · have hno : p.ok=false:=by
        rw [Bool.eq_false_iff]
        intro h
        simp -implicitDefEqProofs only [Plt.ok,Bool.and_eq_true,decide_eq_true_eq] at h
        exact c4 ⟨h.1.2.1.1.1,h.1.2.1.1.2,h.1.2.1.2,h.1.2.2,h.2⟩
      by_cases d4:(p.loads.length:Int)=p.prices.length
      · by_cases d5:(48:Int) < p.loads.length
        · simp -implicitDefEqProofs only [eq_true d4,d5,sw0,sw1,sw2,sw3,sw4,sw5,reduceCtorEq,Nat.reduceEqDiff,Nat.reduceAdd,Nat.reduceDiv,Nat.reduceLeDiff,h1.len,fq46.n3_w,fq46.ret,hno]
        · simp -implicitDefEqProofs only [eq_true d4,d5,sw0,sw1,sw2,sw3,sw4,sw5,reduceCtorEq,Nat.reduceEqDiff,Nat.reduceAdd,Nat.reduceDiv,Nat.reduceLeDiff,h1.len,r12_amounts_s (k:=k) (by omega) h1' (by omega)]
          cases d6:amts p.loads
          · simp -implicitDefEqProofs only [sw0,sw1,sw2,sw3,sw4,sw5,reduceCtorEq,Nat.reduceEqDiff,Nat.reduceAdd,Nat.reduceDiv,Nat.reduceLeDiff,fq46.n3_w,fq46.ret,hno]
          · simp -implicitDefEqProofs only [sw0,sw1,sw2,sw3,sw4,sw5,reduceCtorEq,Nat.reduceEqDiff,Nat.reduceAdd,Nat.reduceDiv,Nat.reduceLeDiff,r12_amounts_s (k:=k) (by omega) h2' (by omega)]
            cases d7:amts p.prices
            · simp -implicitDefEqProofs only [sw0,sw1,sw2,sw3,sw4,sw5,reduceCtorEq,Nat.reduceEqDiff,Nat.reduceAdd,Nat.reduceDiv,Nat.reduceLeDiff,fq46.n3_w,fq46.ret,hno]
            · have d8:(4:Int) < p.machs.length:=by
                rcases Nat.lt_or_ge 4 p.machs.length with h | h
                · omega
                · exact absurd ⟨by omega,by omega,d6,d7,by omega⟩ c4
              simp -implicitDefEqProofs only [sw0,sw1,sw2,sw3,sw4,sw5,reduceCtorEq,Nat.reduceEqDiff,Nat.reduceAdd,Nat.reduceDiv,Nat.reduceLeDiff,h3.len,d8,fq46.n3_w,fq46.ret,hno]
      · simp -implicitDefEqProofs only [eq_false d4,sw0,sw1,sw2,sw3,sw4,sw5,reduceCtorEq,Nat.reduceEqDiff,Nat.reduceAdd,Nat.reduceDiv,Nat.reduceLeDiff,fq46.n3_w,fq46.ret,hno]
  · have hno : p.ok=false:=by
      simp -implicitDefEqProofs only [Bool.not_eq_true] at hbd
      simp [Plt.ok,hbd]
    by_cases c1:-1000000≤p.low∧p.low≤1000000
    · by_cases c2:p.high < p.low
      · simp -implicitDefEqProofs only [c1,c2,sw0,sw1,sw2,sw3,sw4,sw5,reduceCtorEq,Nat.reduceEqDiff,Nat.reduceAdd,Nat.reduceDiv,Nat.reduceLeDiff,fq46.n1_w,fq46.ret,hno]
      · simp -implicitDefEqProofs only [c1,c2,sw0,sw1,sw2,sw3,sw4,sw5,reduceCtorEq,Nat.reduceEqDiff,Nat.reduceAdd,Nat.reduceDiv,Nat.reduceLeDiff]
        rw [wrap64 (by omega)]
        by_cases c3:p.low + 1000 < p.high
        · simp -implicitDefEqProofs only [c3,sw0,sw1,sw2,sw3,sw4,sw5,reduceCtorEq,Nat.reduceEqDiff,Nat.reduceAdd,Nat.reduceDiv,Nat.reduceLeDiff,fq46.n1_w,fq46.ret,hno]
        · have c4:¬ (p.low≤p.heat∧p.heat≤p.high):=by
            intro h
            apply hbd
            simp -implicitDefEqProofs only [Plt.band,Bool.and_eq_true,decide_eq_true_eq]
            exact ⟨⟨c1,by omega⟩,h⟩
          simp -implicitDefEqProofs only [c3,c4,sw0,sw1,sw2,sw3,sw4,sw5,reduceCtorEq,Nat.reduceEqDiff,Nat.reduceAdd,Nat.reduceDiv,Nat.reduceLeDiff,r12_in_s (k:=k) (by omega),fq46.n1_w,fq46.ret,hno]
    · simp -implicitDefEqProofs only [c1,sw0,sw1,sw2,sw3,sw4,sw5,reduceCtorEq,Nat.reduceEqDiff,Nat.reduceAdd,Nat.reduceDiv,Nat.reduceLeDiff,fq46.n1_w,fq46.ret,hno]
end Go.Proofs.YtcebebhaahpoiaaDoor
end
section
namespace Go.Proofs.YtcebebhaahpoiaaDoor
open Go Go.Ai Go.W
attribute [local irreducible] VC YC WC
set_option linter.unusedSimpArgs false
set_option linter.unusedVariables false
set_option maxRecDepth 10000
variable {k:Nat} {b:Option Nat} {H:List AObj} {lk:Bool} {K:AV→St→Prop}
def Plt.num (p:Plt) (n:Int):Bool:=decide (0≤n∧n≤(2 ^ p.machs.length:Nat) - 1)
def Plt.sched (p:Plt) (l:List Int):Bool:=p.ok && decide (l.length=p.loads.length) && l.all p.num
def heatsFrom (p:Plt):Nat→Int→List Int→List Int
  | _,_,[]=>[]
  | h,t,n :: l=>p.heatBy h t n.toNat :: heatsFrom p (h + 1) (p.heatBy h t n.toNat) l
def costFrom (p:Plt):Nat→Nat→List Int→Int
  | _,_,[]=>0
  | h,o,n :: l=>p.costBy h o n.toNat + costFrom p (h + 1) n.toNat l
theorem r12_Schedule_s (hk:1020≤k) {cs:List AV} {v:AV} {p:Plt} {l:List Int} (hp:PV H cs p) (hs:SI H v l) (hl:p.loads.length≤1000∧p.prices.length≤1000∧p.machs.length≤60) (hll:l.length≤1000):VC ⟨prog,k,b⟩ F_fq51 [.agg cs,v] ⟨H,lk⟩ K=K (.bool (p.sched l)) ⟨H,lk⟩:=by
  obtain ⟨k,rfl⟩:∃ j,k=j + 1:=⟨k - 1,by omega⟩
  have hp':=hp
  obtain ⟨vl,vp,vm,rfl,h1,h2,h3⟩:=hp'.how
  apply VC_iff
  apply fq51.enter
  have hpa:=hp.app (L:=[.cells [iv p.heat,iv p.low,iv p.high,vl,vp,vm]])
  have hs':=hs.app (L:=[.cells [iv p.heat,iv p.low,iv p.high,vl,vp,vm]])
  simp -implicitDefEqProofs only [fq51.n0_w,sw0,sw1,sw2,sw3,sw4,sw5,reduceCtorEq,Nat.reduceEqDiff,Nat.reduceAdd,Nat.reduceDiv,Nat.reduceLeDiff,h1.one,h2.one,h3.one,r12_CheckPlant_s (k:=k) (by omega) hpa ⟨hl.1,hl.2.1,by omega⟩]
  cases hok:p.ok
  · have hno:p.sched l=false:=by simp [Plt.sched,hok]
    simp -implicitDefEqProofs only [sw0,sw1,sw2,sw3,sw4,sw5,reduceCtorEq,Nat.reduceEqDiff,Nat.reduceAdd,Nat.reduceDiv,Nat.reduceLeDiff,fq51.n1_w,fq51.ret,hno]
  · simp -implicitDefEqProofs only [sw0,sw1,sw2,sw3,sw4,sw5,reduceCtorEq,Nat.reduceEqDiff,Nat.reduceAdd,Nat.reduceDiv,Nat.reduceLeDiff,hs.len,h1.len]
    by_cases d1:(l.length:Int)=p.loads.length
    · have d1' : l.length=p.loads.length:=by omega
      simp -implicitDefEqProofs only [eq_true d1,sw0,sw1,sw2,sw3,sw4,sw5,reduceCtorEq,Nat.reduceEqDiff,Nat.reduceAdd,Nat.reduceDiv,Nat.reduceLeDiff,fq51.n2_w]
      refine fq51.n3_l (fun m r3 s=>∃ i:Nat,r3=iv i∧s=⟨H ++ [.cells [iv p.heat,iv p.low,iv p.high,vl,vp,vm]],false⟩∧m=l.length - i∧i≤l.length∧∀ j (h:j < l.length),j < i→p.num l[j]=true) l.length (by simp -implicitDefEqProofs only []; omega) ⟨0,rfl,rfl,by omega,by omega,fun j _ h=>by omega⟩ ?_
      rintro m r2 r3 r4 r5 r6 r7 r8 r9 r10 r11 r12 s ⟨i,rfl,rfl,hm,hi,hno⟩
      simp -implicitDefEqProofs only [fq51.n4_w,sw0,sw1,sw2,sw3,sw4,sw5,reduceCtorEq,Nat.reduceEqDiff,Nat.reduceAdd,Nat.reduceDiv,Nat.reduceLeDiff,hs.len]
      split
      · rename_i hlt
        have hlt:i < l.length:=by omega
        have hpw:(2:Nat) ^ p.machs.length≤2 ^ 60:=Nat.pow_le_pow_right (by omega) hl.2.2
        have hpw2:1≤(2:Nat) ^ p.machs.length:=Nat.one_le_two_pow
        simp -implicitDefEqProofs only [fq51.n6_w,sw0,sw1,sw2,sw3,sw4,sw5,reduceCtorEq,Nat.reduceEqDiff,Nat.reduceAdd,Nat.reduceDiv,Nat.reduceLeDiff,hs'.at,hlt,hs'.ld hlt hs.pos,ic,r12_all_s (k:=k) (by omega) hpa hl.2.2,r12_in_s (k:=k) (by omega),hs'.at' hlt]
        rw [wrap64 (by omega)]
        split
        · rename_i hb
          have : p.sched l=false:=by
            have:l.all p.num=false:=by
              rw [List.all_eq_false]
              exact ⟨l[i],List.getElem_mem _,by unfold Plt.num; rw [decide_eq_false hb]; simp⟩
            simp [Plt.sched,this]
          simp -implicitDefEqProofs only [fq51.n7_w,sw0,sw1,sw2,sw3,sw4,sw5,reduceCtorEq,Nat.reduceEqDiff,Nat.reduceAdd,Nat.reduceDiv,Nat.reduceLeDiff,fq51.ret,this]
        · rename_i hb
          simp -implicitDefEqProofs only [fq51.n8_w,sw0,sw1,sw2,sw3,sw4,sw5,reduceCtorEq,Nat.reduceEqDiff,Nat.reduceAdd,Nat.reduceDiv,Nat.reduceLeDiff]
          refine fq51.n3_go (m':=m - 1) (by omega) ⟨i + 1,by rw [wrap64 (by omega)]; rfl,rfl,by omega,by omega,?_⟩
          intro j h hj
          by_cases hji:j=i
          · subst hji; unfold Plt.num; simpa using hb
          · exact hno j h (by omega)
      · rename_i hge
        have : p.sched l=true:=by
          have:l.all p.num=true:=by
            rw [List.all_eq_true]
            intro x hx
            obtain ⟨j,h,rfl⟩:=List.getElem_of_mem hx
            exact hno j h (by omega)
          simp [Plt.sched,this,hok,d1']
        simp -implicitDefEqProofs only [fq51.n9_w,sw0,sw1,sw2,sw3,sw4,sw5,reduceCtorEq,Nat.reduceEqDiff,Nat.reduceAdd,Nat.reduceDiv,Nat.reduceLeDiff,fq51.ret,this]
    · have d1':¬ l.length=p.loads.length:=by omega
      have hno:p.sched l=false:=by simp [Plt.sched,d1']
      simp -implicitDefEqProofs only [eq_false d1,sw0,sw1,sw2,sw3,sw4,sw5,reduceCtorEq,Nat.reduceEqDiff,Nat.reduceAdd,Nat.reduceDiv,Nat.reduceLeDiff,fq51.n1_w,fq51.ret,hno]
theorem sched_at {p:Plt} {l:List Int} (h:p.sched l=true):p.Ok∧l.length=p.loads.length∧∀ i (hi:i < l.length),0≤l[i]∧l[i] < 16∧l[i]≤(2 ^ p.machs.length:Nat) - 1:=by
  simp -implicitDefEqProofs only [Plt.sched,Bool.and_eq_true,decide_eq_true_eq,List.all_eq_true] at h
  have ho:=Plt.ok_Ok h.1.1
  refine ⟨ho,h.1.2,fun i hi=>?_⟩
  have:=h.2 _ (List.getElem_mem hi)
  simp -implicitDefEqProofs only [Plt.num,decide_eq_true_eq] at this
  have h4:(2:Nat) ^ p.machs.length≤2 ^ 4:=Nat.pow_le_pow_right (by omega) ho.few
  omega
theorem heatBy_le {p:Plt} (ho:p.Ok) {h:Nat} (hh:h < p.loads.length) {t:Int} {n:Nat} {B:Int} (ht:-1000000≤t∧t≤B) (hB:2000000≤B):-1000000≤p.heatBy h t n∧p.heatBy h t n≤B + 1000000:=by
  have h1:=ho.loads h hh
  have h2:=coldOf_le (fun i hi=>(ho.machs i hi).1) n
  have h3:=ho.low
  unfold Plt.heatBy
  simp -implicitDefEqProofs only [List.getD_eq_getElem?_getD,List.getElem?_eq_getElem hh,Option.getD_some]
  omega
theorem drop_at {l:List Int} {i:Nat} (h:i < l.length):l.drop i=l[i] :: l.drop (i + 1):=List.drop_eq_getElem_cons h
theorem r12_Heats_s (hk:1030≤k) {cs:List AV} {v:AV} {p:Plt} {l:List Int} (hp:PV H cs p) (hs:SI H v l) (hl:p.loads.length≤1000∧p.prices.length≤1000∧p.machs.length≤60) (hll:l.length≤1000) :
    VC ⟨prog,k,b⟩ F_fq48 [.agg cs,v] ⟨H,lk⟩ K=K (.tup (if p.sched l then [.slice false 1 ((heatsFrom p 0 p.heat l).map ic),iv 0] else [.slice true 0 [],iv 2])) ⟨H,lk⟩:=by
  obtain ⟨k,rfl⟩:∃ j,k=j + 1:=⟨k - 1,by omega⟩
  have hp':=hp
  obtain ⟨vl,vp,vm,rfl,h1,h2,h3⟩:=hp'.how
  apply VC_iff
  apply fq48.enter
  have hpa:=hp.app (L:=[.cells [iv p.heat,iv p.low,iv p.high,vl,vp,vm]])
  have hs':=hs.app (L:=[.cells [iv p.heat,iv p.low,iv p.high,vl,vp,vm]])
  simp -implicitDefEqProofs only [fq48.n0_w,sw0,sw1,sw2,sw3,sw4,sw5,reduceCtorEq,Nat.reduceEqDiff,Nat.reduceAdd,Nat.reduceDiv,Nat.reduceLeDiff,h1.one,h2.one,h3.one,r12_Schedule_s (k:=k) (by omega) hpa hs' hl hll]
  cases hok:p.sched l
  · simp -implicitDefEqProofs only [sw0,sw1,sw2,sw3,sw4,sw5,reduceCtorEq,Nat.reduceEqDiff,Nat.reduceAdd,Nat.reduceDiv,Nat.reduceLeDiff,fq48.n1_w,fq48.ret]
  · obtain ⟨ho,hlen,hnum⟩:=sched_at hok
    have hlow:=ho.low
    have hheat:=ho.heat
    have hhigh:=ho.high
    have hhrs:=ho.hours
    simp -implicitDefEqProofs only [sw0,sw1,sw2,sw3,sw4,sw5,reduceCtorEq,Nat.reduceEqDiff,Nat.reduceAdd,Nat.reduceDiv,Nat.reduceLeDiff,fq48.n2_w]
    refine fq48.n3_l (fun m r4 r5 r6 s=>∃ (i:Nat) (t:Int) (xs:List Int),r4=.sref (H.length + 1) 0 xs.length (xs.length * 1) 1∧r5=iv t∧r6=iv i∧s=⟨H ++ [.cells [iv p.heat,iv p.low,iv p.high,vl,vp,vm],.cells (xs.map ic).flatten],false⟩∧m=l.length - i∧i≤l.length∧xs.length=i ∧
      -1000000≤t∧t≤2000000 + i * 1000000∧xs ++ heatsFrom p i t (l.drop i)=heatsFrom p 0 p.heat l) l.length (by simp -implicitDefEqProofs only []; omega) ⟨0,p.heat,[],rfl,rfl,rfl,rfl,by omega,by omega,rfl,by omega,by omega,rfl⟩ ?_
    rintro m r4 r5 r6 r7 r8 s ⟨i,t,xs,rfl,rfl,rfl,rfl,hm,hi,hxl,ht1,ht2,hx⟩
    simp -implicitDefEqProofs only [fq48.n4_w,sw0,sw1,sw2,sw3,sw4,sw5,reduceCtorEq,Nat.reduceEqDiff,Nat.reduceAdd,Nat.reduceDiv,Nat.reduceLeDiff,hs.len]
    have hpb:=hp.app (L:=[.cells [iv p.heat,iv p.low,iv p.high,vl,vp,vm],.cells (xs.map ic).flatten])
    have hsb:=hs.app (L:=[.cells [iv p.heat,iv p.low,iv p.high,vl,vp,vm],.cells (xs.map ic).flatten])
    split
    · rename_i hlt
      have hlt:i < l.length:=by omega
      have hn:=hnum i hlt
      have hcast:l[i]=(l[i].toNat:Int):=by omega
      have hb:=heatBy_le ho (show i < p.loads.length by omega) (n:=l[i].toNat) ⟨ht1,ht2⟩ (by omega)
      simp -implicitDefEqProofs only [fq48.n6_w,sw0,sw1,sw2,sw3,sw4,sw5,reduceCtorEq,Nat.reduceEqDiff,Nat.reduceAdd,Nat.reduceDiv,Nat.reduceLeDiff,hsb.at,hlt,hsb.ld hlt hs.pos,ic]
      rw [hcast]
      simp -implicitDefEqProofs only [sw0,sw1,sw2,sw3,sw4,sw5,reduceCtorEq,Nat.reduceEqDiff,Nat.reduceAdd,Nat.reduceDiv,Nat.reduceLeDiff,r12_behind_s (k:=k) (by omega) hpb ho (show i < p.loads.length by omega) (show l[i].toNat < 2 ^ 62 by omega) (show -100000000≤t∧t≤100000000 by omega)]
      have hrow:row (H ++ [.cells [iv p.heat,iv p.low,iv p.high,vl,vp,vm],.cells (xs.map ic).flatten]) (H.length + 1) (xs.length * 1)=some (xs.map ic).flatten:=by
        simp -implicitDefEqProofs only [sw0,sw1,sw2,sw3,sw4,sw5,reduceCtorEq,Nat.reduceEqDiff,Nat.reduceAdd,Nat.reduceDiv,Nat.reduceLeDiff,flat_len ic_len]
      have happ:=app_own (base:=some H.length) (lk:=false) (fl:=true) (bytes:=8) (x:=p.heatBy i t l[i].toNat) Nat.one_pos ic_len (ic_one _) (ic_clean _) rfl hrow (by omega)
      simp -implicitDefEqProofs only [ic] at happ
      simp -implicitDefEqProofs only [happ,sw0,sw1,sw2,sw3,sw4,sw5,reduceCtorEq,Nat.reduceEqDiff,Nat.reduceAdd,Nat.reduceDiv,Nat.reduceLeDiff]
      refine fq48.n3_go (m':=m - 1) (by omega) ⟨i + 1,p.heatBy i t l[i].toNat,xs ++ [p.heatBy i t l[i].toNat],by simp,rfl,by rw [wrap64 (by omega)]; rfl,rfl,by omega,by omega,by simp [hxl],hb.1,by omega,?_⟩
      rw [← hx,drop_at hlt,heatsFrom]
      simp
    · rename_i hge
      have hz:l.drop i=[]:=List.drop_of_length_le (by omega)
      rw [hz] at hx
      simp -implicitDefEqProofs only [heatsFrom,List.append_nil] at hx
      have hrow:row (H ++ [.cells [iv p.heat,iv p.low,iv p.high,vl,vp,vm],.cells (xs.map ic).flatten]) (H.length + 1) (xs.length * 1)=some (xs.map ic).flatten:=by
        simp -implicitDefEqProofs only [sw0,sw1,sw2,sw3,sw4,sw5,reduceCtorEq,Nat.reduceEqDiff,Nat.reduceAdd,Nat.reduceDiv,Nat.reduceLeDiff,flat_len ic_len]
      have hfz:=fz_own (m:=H.length) Nat.one_pos ic_len ic_clean rfl hrow (by omega)
      rw [← hx]
      simp -implicitDefEqProofs only [fq48.n7_w,sw0,sw1,sw2,sw3,sw4,sw5,reduceCtorEq,Nat.reduceEqDiff,Nat.reduceAdd,Nat.reduceDiv,Nat.reduceLeDiff,fq48.ret,hfz]
theorem costBy_le {p:Plt} (ho:p.Ok) {h:Nat} (hh:h < p.loads.length) (o n:Nat):0≤p.costBy h o n∧p.costBy h o n≤4000004000000:=by
  have hh2:h < p.prices.length:=by rw [← ho.len]; exact hh
  have h1:=ho.prices h hh2
  have hf:=ho.few
  have h2:=powerOf_le (fun i hi=>(ho.machs i hi).2.1) n
  have h3:=startOf_le (fun i hi=>(ho.machs i hi).2.2) n o
  have h4:=mul_amt h1 ⟨h2.1,show powerOf p.machs n≤4000000 by omega⟩
  unfold Plt.costBy
  simp -implicitDefEqProofs only [List.getD_eq_getElem?_getD,List.getElem?_eq_getElem hh2,Option.getD_some]
  omega
theorem r12_Cost_s (hk:1030≤k) {cs:List AV} {v:AV} {p:Plt} {l:List Int} (hp:PV H cs p) (hs:SI H v l) (hl:p.loads.length≤1000∧p.prices.length≤1000∧p.machs.length≤60) (hll:l.length≤1000) :
    VC ⟨prog,k,b⟩ F_fq47 [.agg cs,v] ⟨H,lk⟩ K=K (.tup (if p.sched l then [iv (costFrom p 0 0 l),iv 0] else [iv 0,iv 2])) ⟨H,lk⟩:=by
  obtain ⟨k,rfl⟩:∃ j,k=j + 1:=⟨k - 1,by omega⟩
  have hp':=hp
  obtain ⟨vl,vp,vm,rfl,h1,h2,h3⟩:=hp'.how
  apply VC_iff
  apply fq47.enter
  have hpa:=hp.app (L:=[.cells [iv p.heat,iv p.low,iv p.high,vl,vp,vm]])
  have hs':=hs.app (L:=[.cells [iv p.heat,iv p.low,iv p.high,vl,vp,vm]])
  simp -implicitDefEqProofs only [fq47.n0_w,sw0,sw1,sw2,sw3,sw4,sw5,reduceCtorEq,Nat.reduceEqDiff,Nat.reduceAdd,Nat.reduceDiv,Nat.reduceLeDiff,h1.one,h2.one,h3.one,r12_Schedule_s (k:=k) (by omega) hpa hs' hl hll]
  cases hok:p.sched l
  · simp -implicitDefEqProofs only [sw0,sw1,sw2,sw3,sw4,sw5,reduceCtorEq,Nat.reduceEqDiff,Nat.reduceAdd,Nat.reduceDiv,Nat.reduceLeDiff,fq47.n1_w,fq47.ret]
  · obtain ⟨ho,hlen,hnum⟩:=sched_at hok
    have hhrs:=ho.hours
    simp -implicitDefEqProofs only [sw0,sw1,sw2,sw3,sw4,sw5,reduceCtorEq,Nat.reduceEqDiff,Nat.reduceAdd,Nat.reduceDiv,Nat.reduceLeDiff,fq47.n2_w]
    refine fq47.n3_l (fun m r4 r5 r6 s=>∃ (i o:Nat) (x:Int),r4=iv x∧r5=iv o∧r6=iv i∧s=⟨H ++ [.cells [iv p.heat,iv p.low,iv p.high,vl,vp,vm]],false⟩∧m=l.length - i∧i≤l.length∧o < 16 ∧
      0≤x∧x≤i * 4000004000000∧x + costFrom p i o (l.drop i)=costFrom p 0 0 l) l.length (by simp -implicitDefEqProofs only []; omega) ⟨0,0,0,rfl,rfl,rfl,rfl,by omega,by omega,by omega,by omega,by omega,by simp⟩ ?_
    rintro m r4 r5 r6 r7 r8 s ⟨i,o,x,rfl,rfl,rfl,rfl,hm,hi,ho1,hx1,hx2,hx⟩
    simp -implicitDefEqProofs only [fq47.n4_w,sw0,sw1,sw2,sw3,sw4,sw5,reduceCtorEq,Nat.reduceEqDiff,Nat.reduceAdd,Nat.reduceDiv,Nat.reduceLeDiff,hs.len]
    split
    · rename_i hlt
      have hlt:i < l.length:=by omega
      have hn:=hnum i hlt
      have hcast:l[i]=(l[i].toNat:Int):=by omega
      have hb:=costBy_le ho (show i < p.loads.length by omega) o l[i].toNat
      simp -implicitDefEqProofs only [fq47.n6_w,sw0,sw1,sw2,sw3,sw4,sw5,reduceCtorEq,Nat.reduceEqDiff,Nat.reduceAdd,Nat.reduceDiv,Nat.reduceLeDiff,hs'.at,hlt,hs'.ld hlt hs.pos,ic]
      rw [hcast]
      simp -implicitDefEqProofs only [sw0,sw1,sw2,sw3,sw4,sw5,reduceCtorEq,Nat.reduceEqDiff,Nat.reduceAdd,Nat.reduceDiv,Nat.reduceLeDiff,r12_costs_s (k:=k) (by omega) hpa ho (show i < p.loads.length by omega) (show l[i].toNat < 2 ^ 62 by omega) (show o < 2 ^ 62 by omega),hs'.at,hlt,hs'.ld hlt hs.pos,ic]
      refine fq47.n3_go (m':=m - 1) (by omega) ⟨i + 1,l[i].toNat,x + p.costBy i o l[i].toNat,by rw [wrap64 (by omega)],by rw [← hcast],by rw [wrap64 (by omega)]; rfl,rfl,by omega,by omega,by omega,by omega,by omega,?_⟩
      rw [← hx,drop_at hlt,costFrom]
      omega
    · rename_i hge
      have hz:l.drop i=[]:=List.drop_of_length_le (by omega)
      rw [hz] at hx
      simp -implicitDefEqProofs only [costFrom,Int.add_zero] at hx
      simp -implicitDefEqProofs only [fq47.n7_w,sw0,sw1,sw2,sw3,sw4,sw5,reduceCtorEq,Nat.reduceEqDiff,Nat.reduceAdd,Nat.reduceDiv,Nat.reduceLeDiff,fq47.ret,hx]
end Go.Proofs.YtcebebhaahpoiaaDoor
end
section
namespace Go.Proofs.YtcebebhaahpoiaaDoor
open Go Go.Ai Go.W
attribute [local irreducible] VC YC WC
set_option linter.unusedSimpArgs false
set_option linter.unusedVariables false
set_option maxRecDepth 10000
variable {k:Nat} {b:Option Nat} {H:List AObj} {lk:Bool} {K:AV→St→Prop}
abbrev uv (n:Nat):AV:=.int .u64 n
theorem p88:prog F_bits_TrailingZeros64=some (.ext ctz64):=by kernel_rfl
theorem ctz_nat {x:Nat} (hx:x < 18446744073709551616):ctz64 [uv x]=some (iv (ctzN 64 x)):=by
  show (if 0≤(x:Int)∧(x:Int) < 18446744073709551616 then some (AV.int .i64 (ctzN 64 (x:Int).toNat)) else none)=_
  rw [if_pos ⟨by omega,by omega⟩,Int.toNat_natCast]
theorem tz64_s (hk:1≤k) {x:Nat} (hx:x < 18446744073709551616) {s:St}:VC ⟨prog,k,b⟩ F_bits_TrailingZeros64 [uv x] s K=K (iv (ctzN 64 x)) s:=by
  obtain ⟨k,rfl⟩:∃ j,k=j + 1:=⟨k - 1,by omega⟩
  apply VC_iff
  exact VC_ext1 p88 (ctz_nat hx) ⟨rfl,rfl⟩
theorem tz_s (hk:2≤k) {x:Nat} (hx:x < 18446744073709551616):VC ⟨prog,k,b⟩ F_fq0 [uv x] ⟨H,lk⟩ K=K (iv (ctzN 64 x)) ⟨H,lk⟩:=by
  obtain ⟨k,rfl⟩:∃ j,k=j + 1:=⟨k - 1,by omega⟩
  apply VC_iff
  apply fq0.enter
  simp -implicitDefEqProofs only [fq0.n0_w,sw0,sw1,sw2,sw3,sw4,sw5,reduceCtorEq,Nat.reduceEqDiff,Nat.reduceAdd,Nat.reduceDiv,Nat.reduceLeDiff,fq0.n2_w,tz64_s (k:=k) (by omega) hx,fq0.ret]
theorem has_val {x i:Nat} (hi:i < 64) (hx:x < 18446744073709551616):((x / 2 ^ i) &&& 1=1)=(x.testBit i=true):=by
  rw [Nat.and_one_is_mod,← tb_drop,Nat.testBit_zero]
  simp
theorem first_machine (hk:3≤k) {x:Nat} (hx:x < 18446744073709551616):VC ⟨prog,k,b⟩ F_fq31 [uv x] ⟨H,lk⟩ K=K (iv (ctzN 64 x)) ⟨H,lk⟩:=by
  obtain ⟨k,rfl⟩:∃ j,k=j + 1:=⟨k - 1,by omega⟩
  apply VC_iff
  apply fq31.enter
  simp -implicitDefEqProofs only [fq31.n0_w,sw0,sw1,sw2,sw3,sw4,sw5,reduceCtorEq,Nat.reduceEqDiff,Nat.reduceAdd,Nat.reduceDiv,Nat.reduceLeDiff,tz_s (k:=k) (by omega) hx,fq31.ret]
theorem without_machine (hk:1≤k) {x i:Nat} (hx:x < 18446744073709551616) (hi:i < 64):VC ⟨prog,k,b⟩ F_fq33 [uv x,iv i] ⟨H,lk⟩ K=K (uv (clrB x i)) ⟨H,lk⟩:=by
  obtain ⟨k,rfl⟩:∃ j,k=j + 1:=⟨k - 1,by omega⟩
  apply VC_iff
  apply fq33.enter
  have hp:(2:Nat) ^ i≤2 ^ 63:=Nat.pow_le_pow_right (by omega) (by omega)
  have hlt:clrB x i < 18446744073709551616:=(BitVec.ofNat 64 x &&& ~~~BitVec.ofNat 64 (2 ^ i)).isLt
  have hneg:¬ ((i:Int) < 0):=by omega
  have e2:(1:Int) * 2 ^ min i IntKind.u64.bits=((2 ^ i:Nat):Int):=by
    rw [show IntKind.u64.bits=64 from rfl,Nat.min_eq_left (by omega)]; simp
  have e3:=andNot_nat (x:=x) (y:=2 ^ i)
  simp -implicitDefEqProofs only [fq33.n0_w,sw0,sw1,sw2,sw3,sw4,sw5,reduceCtorEq,Nat.reduceEqDiff,Nat.reduceAdd,Nat.reduceDiv,Nat.reduceLeDiff,wrapu (show i < 18446744073709551616 by omega),hneg,Int.toNat_natCast,e2,wrapu (show 2 ^ i < 18446744073709551616 by omega),e3,fq33.ret]
  rw [show (BitVec.ofNat 64 x &&& ~~~BitVec.ofNat 64 (2 ^ i)).toNat=clrB x i from rfl,wrapu hlt]
theorem first_stone (hk:3≤k) {x:Nat} (hx:x < 18446744073709551616):VC ⟨prog,k,b⟩ F_fq38 [uv x] ⟨H,lk⟩ K=K (iv (ctzN 64 x)) ⟨H,lk⟩:=by
  obtain ⟨k,rfl⟩:∃ j,k=j + 1:=⟨k - 1,by omega⟩
  apply VC_iff
  apply fq38.enter
  simp -implicitDefEqProofs only [fq38.n0_w,sw0,sw1,sw2,sw3,sw4,sw5,reduceCtorEq,Nat.reduceEqDiff,Nat.reduceAdd,Nat.reduceDiv,Nat.reduceLeDiff,tz_s (k:=k) (by omega) hx,fq38.ret]
theorem without_stone (hk:1≤k) {x i:Nat} (hx:x < 18446744073709551616) (hi:i < 64):VC ⟨prog,k,b⟩ F_fq39 [uv x,iv i] ⟨H,lk⟩ K=K (uv (clrB x i)) ⟨H,lk⟩:=by
  obtain ⟨k,rfl⟩:∃ j,k=j + 1:=⟨k - 1,by omega⟩
  apply VC_iff
  apply fq39.enter
  have hp:(2:Nat) ^ i≤2 ^ 63:=Nat.pow_le_pow_right (by omega) (by omega)
  have hlt:clrB x i < 18446744073709551616:=(BitVec.ofNat 64 x &&& ~~~BitVec.ofNat 64 (2 ^ i)).isLt
  have hneg:¬ ((i:Int) < 0):=by omega
  have e2:(1:Int) * 2 ^ min i IntKind.u64.bits=((2 ^ i:Nat):Int):=by
    rw [show IntKind.u64.bits=64 from rfl,Nat.min_eq_left (by omega)]; simp
  have e3:=andNot_nat (x:=x) (y:=2 ^ i)
  simp -implicitDefEqProofs only [fq39.n0_w,sw0,sw1,sw2,sw3,sw4,sw5,reduceCtorEq,Nat.reduceEqDiff,Nat.reduceAdd,Nat.reduceDiv,Nat.reduceLeDiff,wrapu (show i < 18446744073709551616 by omega),hneg,Int.toNat_natCast,e2,wrapu (show 2 ^ i < 18446744073709551616 by omega),e3,fq39.ret]
  rw [show (BitVec.ofNat 64 x &&& ~~~BitVec.ofNat 64 (2 ^ i)).toNat=clrB x i from rfl,wrapu hlt]
theorem first_place (hk:3≤k) {x:Nat} (hx:x < 18446744073709551616):VC ⟨prog,k,b⟩ F_fq34 [uv x] ⟨H,lk⟩ K=K (iv (ctzN 64 x)) ⟨H,lk⟩:=by
  obtain ⟨k,rfl⟩:∃ j,k=j + 1:=⟨k - 1,by omega⟩
  apply VC_iff
  apply fq34.enter
  simp -implicitDefEqProofs only [fq34.n0_w,sw0,sw1,sw2,sw3,sw4,sw5,reduceCtorEq,Nat.reduceEqDiff,Nat.reduceAdd,Nat.reduceDiv,Nat.reduceLeDiff,tz_s (k:=k) (by omega) hx,fq34.ret]
theorem without_place (hk:1≤k) {x i:Nat} (hx:x < 18446744073709551616) (hi:i < 64):VC ⟨prog,k,b⟩ F_fq37 [uv x,iv i] ⟨H,lk⟩ K=K (uv (clrB x i)) ⟨H,lk⟩:=by
  obtain ⟨k,rfl⟩:∃ j,k=j + 1:=⟨k - 1,by omega⟩
  apply VC_iff
  apply fq37.enter
  have hp:(2:Nat) ^ i≤2 ^ 63:=Nat.pow_le_pow_right (by omega) (by omega)
  have hlt:clrB x i < 18446744073709551616:=(BitVec.ofNat 64 x &&& ~~~BitVec.ofNat 64 (2 ^ i)).isLt
  have hneg:¬ ((i:Int) < 0):=by omega
  have e2:(1:Int) * 2 ^ min i IntKind.u64.bits=((2 ^ i:Nat):Int):=by
    rw [show IntKind.u64.bits=64 from rfl,Nat.min_eq_left (by omega)]; simp
  have e3:=andNot_nat (x:=x) (y:=2 ^ i)
  simp -implicitDefEqProofs only [fq37.n0_w,sw0,sw1,sw2,sw3,sw4,sw5,reduceCtorEq,Nat.reduceEqDiff,Nat.reduceAdd,Nat.reduceDiv,Nat.reduceLeDiff,wrapu (show i < 18446744073709551616 by omega),hneg,Int.toNat_natCast,e2,wrapu (show 2 ^ i < 18446744073709551616 by omega),e3,fq37.ret]
  rw [show (BitVec.ofNat 64 x &&& ~~~BitVec.ofNat 64 (2 ^ i)).toNat=clrB x i from rfl,wrapu hlt]
theorem has_machine (hk:1≤k) {x i:Nat} (hx:x < 18446744073709551616) (hi:i < 64):VC ⟨prog,k,b⟩ F_fq32 [uv x,iv i] ⟨H,lk⟩ K=K (.bool (x.testBit i)) ⟨H,lk⟩:=by
  obtain ⟨k,rfl⟩:∃ j,k=j + 1:=⟨k - 1,by omega⟩
  apply VC_iff
  apply fq32.enter
  have hneg:¬ ((i:Int) < 0):=by omega
  have e2:(x:Int).fdiv (2 ^ min i IntKind.u64.bits)=((x / 2 ^ i:Nat):Int):=by
    rw [show IntKind.u64.bits=64 from rfl,Nat.min_eq_left (by omega),show (2:Int) ^ i=((2 ^ i:Nat):Int) by simp,fdiv_nat]
  have hd:x / 2 ^ i≤x:=Nat.div_le_self _ _
  have e3:(BitVec.ofInt IntKind.u64.bits ((x / 2 ^ i:Nat):Int) &&& BitVec.ofInt IntKind.u64.bits 1).toNat=x / 2 ^ i &&& 1:=and_nat (y:=1) (by omega) (by omega)
  have hand:x / 2 ^ i &&& 1 < 18446744073709551616:=Nat.lt_of_le_of_lt Nat.and_le_right (by omega)
  simp -implicitDefEqProofs only [fq32.n0_w,sw0,sw1,sw2,sw3,sw4,sw5,reduceCtorEq,Nat.reduceEqDiff,Nat.reduceAdd,Nat.reduceDiv,Nat.reduceLeDiff,wrapu (show i < 18446744073709551616 by omega),hneg,Int.toNat_natCast,e2,e3,wrapu hand,fq32.ret]
  have:=has_val hi hx
  congr 1
  rw [Bool.eq_iff_iff,← this,decide_eq_true_eq]
  omega
theorem has_place (hk:1≤k) {x i:Nat} (hx:x < 18446744073709551616) (hi:i < 64):VC ⟨prog,k,b⟩ F_fq35 [uv x,iv i] ⟨H,lk⟩ K=K (.bool (x.testBit i)) ⟨H,lk⟩:=by
  obtain ⟨k,rfl⟩:∃ j,k=j + 1:=⟨k - 1,by omega⟩
  apply VC_iff
  apply fq35.enter
  have hneg:¬ ((i:Int) < 0):=by omega
  have e2:(x:Int).fdiv (2 ^ min i IntKind.u64.bits)=((x / 2 ^ i:Nat):Int):=by
    rw [show IntKind.u64.bits=64 from rfl,Nat.min_eq_left (by omega),show (2:Int) ^ i=((2 ^ i:Nat):Int) by simp,fdiv_nat]
  have hd:x / 2 ^ i≤x:=Nat.div_le_self _ _
  have e3:(BitVec.ofInt IntKind.u64.bits ((x / 2 ^ i:Nat):Int) &&& BitVec.ofInt IntKind.u64.bits 1).toNat=x / 2 ^ i &&& 1:=and_nat (y:=1) (by omega) (by omega)
  have hand:x / 2 ^ i &&& 1 < 18446744073709551616:=Nat.lt_of_le_of_lt Nat.and_le_right (by omega)
  simp -implicitDefEqProofs only [fq35.n0_w,sw0,sw1,sw2,sw3,sw4,sw5,reduceCtorEq,Nat.reduceEqDiff,Nat.reduceAdd,Nat.reduceDiv,Nat.reduceLeDiff,wrapu (show i < 18446744073709551616 by omega),hneg,Int.toNat_natCast,e2,e3,wrapu hand,fq35.ret]
  have:=has_val hi hx
  congr 1
  rw [Bool.eq_iff_iff,← this,decide_eq_true_eq]
  omega
def colds (p:Plt) (n:Nat):List Int:=(List.range n).map (coldOf p.machs)
def powers (p:Plt) (n:Nat):List Int:=(List.range n).map (powerOf p.machs)
theorem colds_len {p n}:(colds p n).length=n:=by simp [colds]
theorem powers_len {p n}:(powers p n).length=n:=by simp [powers]
theorem colds_succ {p n}:colds p (n + 1)=colds p n ++ [coldOf p.machs n]:=by simp [colds,List.range_succ]
theorem powers_succ {p n}:powers p (n + 1)=powers p n ++ [powerOf p.machs n]:=by simp [powers,List.range_succ]
theorem colds_at {p n i} (h:i < (colds p n).length):(colds p n)[i]=coldOf p.machs i:=by simp [colds]
theorem powers_at {p n i} (h:i < (powers p n).length):(powers p n)[i]=powerOf p.machs i:=by simp [powers]
structure PX (H:List AObj) (c:Nat) (p:Plt):Prop where
  how:∃ vl vp vm vc vw,H[c]?=some (.cells [iv p.heat,iv p.low,iv p.high,vl,vp,vm,vc,vw])∧SI H vl p.loads∧SI H vp p.prices∧Sl H 3 mc vm p.machs∧SI H vc (colds p (2 ^ p.machs.length))∧SI H vw (powers p (2 ^ p.machs.length))
theorem PX.app {c p} (h:PX H c p) {L:List AObj}:PX (H ++ L) c p:=by
  obtain ⟨vl,vp,vm,vc,vw,e,h1,h2,h3,h4,h5⟩:=h.how
  exact ⟨vl,vp,vm,vc,vw,get_app e,h1.app,h2.app,h3.app,h4.app,h5.app⟩
theorem ic_flat (xs:List Int):(xs.map ic).flatten.length=xs.length:=by rw [flat_len ic_len,Nat.mul_one]
def Same (m:Nat) (G G':List AObj):Prop:=∀ d,m≤d→d < G.length→G'[d]?=G[d]?
theorem Same.refl (m:Nat) (G:List AObj):Same m G G:=fun _ _ _=>rfl
theorem laid_g (hk:1020≤k) {H0:List AObj} {cs:List AV} {p:Plt} (hp:PV H0 cs p) (hH:∃ X,H=H0 ++ X) (hl:p.loads.length≤1000∧p.prices.length≤1000∧p.machs.length≤60)
    (hno:p.ok=false→K (.tup [.nilptr,.bool false]) ⟨H,lk⟩) (hyes:p.ok=true→∀ L c,(∀ G',Same H.length (H ++ L) G'→(∃ L',G'=H0 ++ L')→PX G' (H.length + c) p)→K (.tup [.ptr (H.length + c) 0 8,.bool true]) ⟨H ++ L,lk⟩):VC ⟨prog,k,b⟩ F_fq24 [.agg cs] ⟨H,lk⟩ K:=by
  obtain ⟨k,rfl⟩:∃ j,k=j + 1:=⟨k - 1,by omega⟩
  obtain ⟨X0,hX0⟩:=hH
  have hp0:=hp
  have hp:PV H cs p:=by rw [hX0]; exact hp0.app
  obtain ⟨vl,vp,vm,rfl,h01,h02,h03⟩:=hp0.how
  have h1:SI H vl p.loads:=by rw [hX0]; exact h01.app
  have h2:SI H vp p.prices:=by rw [hX0]; exact h02.app
  have h3:Sl H 3 mc vm p.machs:=by rw [hX0]; exact h03.app
  apply fq24.enter
  have hpa:=hp.app (L:=[.cells [iv p.heat,iv p.low,iv p.high,vl,vp,vm]])
  simp -implicitDefEqProofs only [fq24.n0_w,sw0,sw1,sw2,sw3,sw4,sw5,reduceCtorEq,Nat.reduceEqDiff,Nat.reduceAdd,Nat.reduceDiv,Nat.reduceLeDiff,h1.one,h2.one,h3.one,CheckPlant_s (k:=k) (by omega) hpa ⟨hl.1,hl.2.1,by omega⟩]
  cases hok:p.ok
  · simp -implicitDefEqProofs only [sw0,sw1,sw2,sw3,sw4,sw5,reduceCtorEq,Nat.reduceEqDiff,Nat.reduceAdd,Nat.reduceDiv,Nat.reduceLeDiff,fq24.n1_w,fq24.ret]
    exact hno hok
  · have ho := Plt.ok_Ok hok
    have hfew:=ho.few
    obtain ⟨N,hN⟩:∃ N,N=2 ^ p.machs.length:=⟨_,rfl⟩
    have hpw:N≤16:=by rw [hN]; exact Nat.pow_le_pow_right (by omega) hfew
    have hneg:¬ ((p.machs.length:Int) < 0):=by omega
    have e2:(1:Int) * 2 ^ min p.machs.length IntKind.u64.bits=(N:Int):=by
      rw [hN,show IntKind.u64.bits=64 from rfl,Nat.min_eq_left (by omega)]; simp
    simp -implicitDefEqProofs only [sw0,sw1,sw2,sw3,sw4,sw5,reduceCtorEq,Nat.reduceEqDiff,Nat.reduceAdd,Nat.reduceDiv,Nat.reduceLeDiff,fq24.n2_w,h1.one,h2.one,h3.one,h1.cells,h2.cells,h3.cells,h3.len,hneg,Int.toNat_natCast,e2,wrapu (show N < 18446744073709551616 by omega)]
    refine fq24.n3_l (fun m r5 s=>∃ n:Nat,r5=uv n∧m=N - n∧n≤N∧((n=0∧∃ L,s=⟨H ++ (.cells [iv p.heat,iv p.low,iv p.high,vl,vp,vm] :: .cells [iv p.heat,iv p.low,iv p.high,vl,vp,vm,.slice true 0 [],.slice true 0 []] :: L),false⟩) ∨
      (0 < n∧∃ L1 L2,s=⟨H ++ (.cells [iv p.heat,iv p.low,iv p.high,vl,vp,vm] :: .cells [iv p.heat,iv p.low,iv p.high,vl,vp,vm,.sref (H.length + (L1.length + 1 + 1)) 0 n (n * 1) 1,.sref (H.length + (L1.length + 1 + 1 + 1)) 0 n (n * 1) 1] :: (L1 ++ (.cells ((colds p n).map ic).flatten :: .cells ((powers p n).map ic).flatten :: L2))),false⟩)))
      (N) (by simp -implicitDefEqProofs only []; omega) ⟨0,rfl,by omega,by omega,.inl ⟨rfl,[],by simp⟩⟩ ?_
    rintro m r3 r4 r5 r6 r9 r10 r11 r12 r13 r14 r15 r16 r17 r18 r19 r20 r21 r22 r23 r24 r25 r26 r27 r28 s ⟨n,rfl,hm,hn,hs⟩
    simp -implicitDefEqProofs only [fq24.n4_w,sw0,sw1,sw2,sw3,sw4,sw5,reduceCtorEq,Nat.reduceEqDiff,Nat.reduceAdd,Nat.reduceDiv,Nat.reduceLeDiff]
    split
    · rename_i hlt
      have hlt:n < N:=by omega

      obtain ⟨G,hG,hG2⟩:∃ G,s=⟨H ++ (.cells [iv p.heat,iv p.low,iv p.high,vl,vp,vm] :: G),false⟩∧((n=0∧∃ L,G=.cells [iv p.heat,iv p.low,iv p.high,vl,vp,vm,.slice true 0 [],.slice true 0 []] :: L) ∨
          (0 < n∧∃ L1 L2,G=.cells [iv p.heat,iv p.low,iv p.high,vl,vp,vm,.sref (H.length + (L1.length + 1 + 1)) 0 n (n * 1) 1,.sref (H.length + (L1.length + 1 + 1 + 1)) 0 n (n * 1) 1] :: (L1 ++ (.cells ((colds p n).map ic).flatten :: .cells ((powers p n).map ic).flatten :: L2)))):=by
        rcases hs with ⟨h0,L,rfl⟩ | ⟨h0,L1,L2,rfl⟩
        · exact ⟨_,rfl,.inl ⟨h0,L,rfl⟩⟩
        · exact ⟨_,rfl,.inr ⟨h0,L1,L2,rfl⟩⟩
      subst hG
      simp -implicitDefEqProofs only [fq24.n6_w,sw0,sw1,sw2,sw3,sw4,sw5,reduceCtorEq,Nat.reduceEqDiff,Nat.reduceAdd,Nat.reduceDiv,Nat.reduceLeDiff,h3.len]
      refine fq24.n7_l (fun m r3 r4 r6 s=>∃ (i:Nat) (x y:Int) (J:List AObj),r3=iv x∧r4=iv y∧r6=iv i∧s=⟨H ++ (.cells [iv p.heat,iv p.low,iv p.high,vl,vp,vm] :: (G ++ J)),false⟩∧m=p.machs.length - i∧i≤p.machs.length∧0≤x∧x≤i * 1000000∧0≤y∧y≤i * 1000000 ∧
        x + coldOf (p.machs.drop i) (n / 2 ^ i)=coldOf p.machs n∧y + powerOf (p.machs.drop i) (n / 2 ^ i)=powerOf p.machs n) p.machs.length (by simp -implicitDefEqProofs only []; omega) ⟨0,0,0,[],rfl,rfl,rfl,by simp,by omega,by omega,by omega,by omega,by omega,by omega,by simp,by simp⟩ ?_
      rintro m' r3 r4 r6 r11 r12 s ⟨i,x,y,J,rfl,rfl,rfl,rfl,hm',hi,hx1,hx2,hy1,hy2,hx,hy⟩
      simp -implicitDefEqProofs only [fq24.n8_w,sw0,sw1,sw2,sw3,sw4,sw5,reduceCtorEq,Nat.reduceEqDiff,Nat.reduceAdd,Nat.reduceDiv,Nat.reduceLeDiff]
      split
      · rename_i hlti
        have hlti:i < p.machs.length:=by omega
        have hmi:=ho.machs i hlti
        have h3':=h3.app (L:=.cells [iv p.heat,iv p.low,iv p.high,vl,vp,vm] :: (G ++ J))
        rw [coldOf_drop hlti] at hx
        rw [powerOf_drop hlti] at hy
        simp -implicitDefEqProofs only [fq24.n10_w,sw0,sw1,sw2,sw3,sw4,sw5,reduceCtorEq,Nat.reduceEqDiff,Nat.reduceAdd,Nat.reduceDiv,Nat.reduceLeDiff,h3'.at,hlti,h3'.lda hlti,mc,has_machine (k:=k) (by omega) (show n < 18446744073709551616 by omega) (show i < 64 by omega)]
        split
        · rename_i hbit
          rw [if_pos hbit] at hx hy
          simp -implicitDefEqProofs only [fq24.n11_w,sw0,sw1,sw2,sw3,sw4,sw5,reduceCtorEq,Nat.reduceEqDiff,Nat.reduceAdd,Nat.reduceDiv,Nat.reduceLeDiff,fq24.n12_w]
          refine fq24.n7_go (m':=m' - 1) (by omega) ⟨i + 1,x + p.machs[i].cold,y + p.machs[i].power,J ++ [.cells [iv p.machs[i].cold,iv p.machs[i].power,iv p.machs[i].start]],by rw [wrap64 (by omega)],by rw [wrap64 (by omega)],by rw [wrap64 (by omega)]; rfl,rfl,by omega,by omega,by omega,by omega,by omega,by omega,by omega,by omega⟩
        · rename_i hbit
          rw [if_neg hbit] at hx hy
          simp -implicitDefEqProofs only [fq24.n12_w,sw0,sw1,sw2,sw3,sw4,sw5,reduceCtorEq,Nat.reduceEqDiff,Nat.reduceAdd,Nat.reduceDiv,Nat.reduceLeDiff]
          refine fq24.n7_go (m':=m' - 1) (by omega) ⟨i + 1,x,y,J ++ [.cells [iv p.machs[i].cold,iv p.machs[i].power,iv p.machs[i].start]],rfl,rfl,by rw [wrap64 (by omega)]; rfl,rfl,by omega,by omega,by omega,by omega,by omega,by omega,by omega,by omega⟩
      · rename_i hgei
        rw [List.drop_of_length_le (by omega)] at hx hy
        simp -implicitDefEqProofs only [coldOf,powerOf,Int.add_zero] at hx hy
        subst hx; subst hy
        rcases hG2 with ⟨rfl,L,rfl⟩ | ⟨h0,L1,L2,rfl⟩
        · have e1:∀ (base:Option Nat) (H':List AObj) (fl:Bool) (x:Int),eApp base ⟨H',false⟩ 1 8 (.slice true 0 []) (.slice fl 1 [[iv x]])=some (.sref H'.length 0 1 (1 * 1) 1,⟨H' ++ [.cells [iv x]],false⟩):=fun base H' fl x=>app_nil rfl rfl (by omega)
          simp -implicitDefEqProofs only [fq24.n13_w,sw0,sw1,sw2,sw3,sw4,sw5,reduceCtorEq,Nat.reduceEqDiff,Nat.reduceAdd,Nat.reduceDiv,Nat.reduceLeDiff,e1,fq24.n14_w]
          refine fq24.n3_go (m':=m - 1) (by omega) ⟨1,by rw [show ((0:Nat):Int) + 1=((1:Nat):Int) by omega,wrapu (by omega)],by omega,by omega,.inr ⟨by omega,L ++ J,[],?_⟩⟩
          simp [colds,powers,Nat.add_assoc]
          try omega
        · have hrow1:row (H ++ .cells [iv p.heat,iv p.low,iv p.high,vl,vp,vm] :: .cells [iv p.heat,iv p.low,iv p.high,vl,vp,vm,.sref (H.length + (L1.length + 1 + 1)) 0 n (n * 1) 1,.sref (H.length + (L1.length + 1 + 1 + 1)) 0 n (n * 1) 1] :: (L1 ++ (.cells ((colds p n).map ic).flatten :: .cells ((powers p n).map ic).flatten :: (L2 ++ J))))
              (H.length + (L1.length + 1 + 1)) (n * 1)=some ((colds p n).map ic).flatten:=by
            simp -implicitDefEqProofs only [sw0,sw1,sw2,sw3,sw4,sw5,reduceCtorEq,Nat.reduceEqDiff,Nat.reduceAdd,Nat.reduceDiv,Nat.reduceLeDiff,ic_flat,colds_len,Nat.mul_one]
          have hrow2:row (H ++ .cells [iv p.heat,iv p.low,iv p.high,vl,vp,vm] :: .cells [iv p.heat,iv p.low,iv p.high,vl,vp,vm,.sref (H.length + (L1.length + 1 + 1)) 0 n (n * 1) 1,.sref (H.length + (L1.length + 1 + 1 + 1)) 0 n (n * 1) 1] :: (L1 ++ (.cells ((colds p (n + 1)).map ic).flatten :: .cells ((powers p n).map ic).flatten :: (L2 ++ J))))
              (H.length + (L1.length + 1 + 1 + 1)) (n * 1)=some ((powers p n).map ic).flatten:=by
            rw [show H.length + (L1.length + 1 + 1 + 1)=H.length + ((L1.length + 1) + 1 + 1) by omega]
            simp -implicitDefEqProofs only [sw0,sw1,sw2,sw3,sw4,sw5,reduceCtorEq,Nat.reduceEqDiff,Nat.reduceAdd,Nat.reduceDiv,Nat.reduceLeDiff,ic_flat,powers_len,Nat.mul_one]
          have happ1:=app_own (base:=some H.length) (lk:=false) (fl:=true) (bytes:=8) (x:=coldOf p.machs n) Nat.one_pos ic_len (ic_one _) (ic_clean _) (by rw [colds_len]) hrow1 (by rw [colds_len]; omega)
          have happ2:=app_own (base:=some H.length) (lk:=false) (fl:=true) (bytes:=8) (x:=powerOf p.machs n) Nat.one_pos ic_len (ic_one _) (ic_clean _) (by rw [powers_len]) hrow2 (by rw [powers_len]; omega)
          rw [colds_len,← colds_succ] at happ1
          rw [powers_len,← powers_succ] at happ2
          simp -implicitDefEqProofs only [ic] at happ1 happ2
          simp -implicitDefEqProofs only [fq24.n13_w,sw0,sw1,sw2,sw3,sw4,sw5,reduceCtorEq,Nat.reduceEqDiff,Nat.reduceAdd,Nat.reduceDiv,Nat.reduceLeDiff,happ1,happ2,fq24.n14_w]
          refine fq24.n3_go (m':=m - 1) (by omega) ⟨n + 1,by rw [show (n:Int) + 1=((n + 1:Nat):Int) by omega,wrapu (by omega)],by omega,by omega,.inr ⟨by omega,L1,L2 ++ J,rfl⟩⟩
    · rename_i hge
      have hn2:n=N:=by omega
      simp -implicitDefEqProofs only [fq24.n15_w,fq24.ret,sw0,sw1,sw2,sw3,sw4,sw5,reduceCtorEq,Nat.reduceEqDiff,Nat.reduceAdd,Nat.reduceDiv,Nat.reduceLeDiff]
      have hN1:0 < N:=by rw [hN]; exact Nat.two_pow_pos _
      rcases hs with ⟨h0,L,rfl⟩ | ⟨h0,L1,L2,rfl⟩
      · omega
      · have hu:AV.under H.length (.ptr (H.length + 1) 0 8)=false:=by simp [AV.under]
        subst hn2
        simp -implicitDefEqProofs only [sw0,sw1,sw2,sw3,sw4,sw5,reduceCtorEq,Nat.reduceEqDiff,Nat.reduceAdd,Nat.reduceDiv,Nat.reduceLeDiff,hu]
        refine hyes hok _ 1 (fun G' hag hpre=>?_)
        obtain ⟨L',rfl⟩:=hpre
        have hagA:row (H0 ++ L') (H.length + (L1.length + 1 + 1)) (n * 1)=some ((colds p n).map ic).flatten:=row_of ((hag _ (by omega) (by first | (simp; done) | (simp; omega))).trans (by simp -implicitDefEqProofs only [sw0,sw1,sw2,sw3,sw4,sw5,reduceCtorEq,Nat.reduceEqDiff,Nat.reduceAdd,Nat.reduceDiv,Nat.reduceLeDiff])) (by rw [ic_flat,colds_len]; omega)
        have hagB:row (H0 ++ L') (H.length + (L1.length + 1 + 1 + 1)) (n * 1)=some ((powers p n).map ic).flatten:=row_of ((hag _ (by omega) (by first | (simp; done) | (simp; omega))).trans (by rw [show H.length + (L1.length + 1 + 1 + 1)=H.length + ((L1.length + 1) + 1 + 1) by omega]; simp -implicitDefEqProofs only [sw0,sw1,sw2,sw3,sw4,sw5,reduceCtorEq,Nat.reduceEqDiff,Nat.reduceAdd,Nat.reduceDiv,Nat.reduceLeDiff])) (by rw [ic_flat,powers_len]; omega)
        refine ⟨vl,vp,vm,_,_,(hag _ (by omega) (by first | (simp; done) | (simp; omega))).trans (by simp -implicitDefEqProofs only [sw0,sw1,sw2,sw3,sw4,sw5,reduceCtorEq,Nat.reduceEqDiff,Nat.reduceAdd,Nat.reduceDiv,Nat.reduceLeDiff]; rfl),h01.app,h02.app,h03.app,⟨Nat.one_pos,ic_len,.inr ⟨_,0,_,_,by rw [← hN,colds_len],hagA,by rw [← hN,List.drop_zero,List.take_of_length_le (by rw [ic_flat,colds_len]; omega)]⟩⟩,⟨Nat.one_pos,ic_len,.inr ⟨_,0,_,_,by rw [← hN,powers_len],hagB,by rw [← hN,List.drop_zero,List.take_of_length_le (by rw [ic_flat,powers_len]; omega)]⟩⟩⟩
theorem laid_s (hk:1020≤k) {cs:List AV} {p:Plt} (hp:PV H cs p) (hl:p.loads.length≤1000∧p.prices.length≤1000∧p.machs.length≤60)
    (hno:p.ok=false→K (.tup [.nilptr,.bool false]) ⟨H,lk⟩) (hyes:p.ok=true→∀ L c,PX (H ++ L) (H.length + c) p→K (.tup [.ptr (H.length + c) 0 8,.bool true]) ⟨H ++ L,lk⟩):VC ⟨prog,k,b⟩ F_fq24 [.agg cs] ⟨H,lk⟩ K :=
  laid_g hk hp ⟨[],by simp⟩ hl hno (fun hok L c hx=>hyes hok L c (hx _ (Same.refl _ _) ⟨L,rfl⟩))
end Go.Proofs.YtcebebhaahpoiaaDoor
end
section
namespace Go.Proofs.YtcebebhaahpoiaaDoor
open Go Go.Ai Go.W
attribute [local irreducible] VC YC WC
set_option linter.unusedSimpArgs false
set_option linter.unusedVariables false
set_option maxRecDepth 10000
variable {k:Nat} {b:Option Nat} {H:List AObj} {lk:Bool} {K:AV→St→Prop}
theorem heat_s (hk:10≤k) {c:Nat} {p:Plt} (hp:PX H c p) (ho:p.Ok) {h n:Nat} {before:Int} (hh:h < p.loads.length) (hn:n < 2 ^ p.machs.length) (hb:-100000000≤before∧before≤100000000) :
    VC ⟨prog,k,b⟩ F_fq27 [.ptr c 0 8,iv h,iv before,iv n] ⟨H,lk⟩ K=K (iv (p.heatBy h before n)) ⟨H,lk⟩:=by
  obtain ⟨k,rfl⟩:∃ j,k=j + 1:=⟨k - 1,by omega⟩
  obtain ⟨vl,vp,vm,vc,vw,hc,h1,h2,h3,h4,h5⟩:=hp.how
  have hrow:row H c 8=some [iv p.heat,iv p.low,iv p.high,vl,vp,vm,vc,vw]:=row_of hc rfl
  have hn':n < (colds p (2 ^ p.machs.length)).length:=by rw [colds_len]; exact hn
  have hld:=ho.loads h hh
  have hfew:=ho.few
  have hcl:=coldOf_le (fun i hi=>(ho.machs i hi).1) n
  apply VC_iff
  apply fq27.enter
  simp -implicitDefEqProofs only [fq27.n0_w,sw0,sw1,sw2,sw3,sw4,sw5,reduceCtorEq,Nat.reduceEqDiff,Nat.reduceAdd,Nat.reduceDiv,Nat.reduceLeDiff,hrow,h1.at,hh,h1.ld hh h1.pos,ic,h4.at,hn',h4.ld hn' h4.pos,colds_at]
  rw [wrap64 (n:=before + p.loads[h]) (by omega),wrap64 (by omega)]
  simp -implicitDefEqProofs only [fq27.ret,sw0,sw1,sw2,sw3,sw4,sw5,reduceCtorEq,Nat.reduceEqDiff,Nat.reduceAdd,Nat.reduceDiv,Nat.reduceLeDiff,Plt.heatBy,List.getD_eq_getElem?_getD,List.getElem?_eq_getElem hh,Option.getD_some]
def startsOf (ms:List Mach) (s:Nat):Int:=startOf ms s 0
theorem startOf_ext:∀ (ms:List Mach) (n o s:Nat),(∀ j,s.testBit j=(n.testBit j && !o.testBit j))→startsOf ms s=startOf ms n o
  | [],_,_,_,_=>rfl
  | m :: ms,n,o,s,h=>by
    have ih:=startOf_ext ms (n / 2) (o / 2) (s / 2) (fun j=>by have:=h (j + 1); simpa only [Nat.testBit_succ] using this)
    unfold startsOf at ih ⊢
    simp -implicitDefEqProofs only [startOf,h 0,Nat.zero_testBit,Bool.not_false,Bool.and_true,Nat.zero_div,ih]
theorem startsOf_clr:∀ (ms:List Mach) (s i:Nat) (h:i < ms.length),s < 18446744073709551616→s.testBit i=true→startsOf ms s=ms[i].start + startsOf ms (clrB s i)
  | m :: ms,s,0,h,hs,hb=>by
    have e:∀ j,(clrB s 0 / 2).testBit j=(s / 2).testBit j:=fun j=>by
      rw [← Nat.testBit_succ,← Nat.testBit_succ,tb_clr hs]; simp
    have e2:clrB s 0 / 2=s / 2:=Nat.eq_of_testBit_eq e
    have e3:(clrB s 0).testBit 0=false:=by rw [tb_clr hs]; simp
    unfold startsOf
    simp -implicitDefEqProofs only [startOf,e2,e3,hb,Nat.zero_testBit,List.getElem_cons_zero]
    simp
  | m :: ms,s,i + 1,h,hs,hb=>by
    have ih:=startsOf_clr ms (s / 2) i (by simpa using h) (by omega) (by rw [← Nat.testBit_succ]; exact hb)
    have e:∀ j,(clrB s (i + 1) / 2).testBit j=(clrB (s / 2) i).testBit j:=fun j=>by
      rw [← Nat.testBit_succ,tb_clr hs,tb_clr (by omega),Nat.testBit_succ]; simp
    have e2:clrB s (i + 1) / 2=clrB (s / 2) i:=Nat.eq_of_testBit_eq e
    have e3:(clrB s (i + 1)).testBit 0=s.testBit 0:=by rw [tb_clr hs]; simp
    unfold startsOf at ih ⊢
    simp -implicitDefEqProofs only [startOf,e2,e3,ih,Nat.zero_div,List.getElem_cons_succ]
    omega
theorem startsOf_le {p:Plt} (ho:p.Ok) (s:Nat):0≤startsOf p.machs s∧startsOf p.machs s≤4000000:=by
  have:=startOf_le (fun i hi=>(ho.machs i hi).2.2) s 0
  have:=ho.few
  unfold startsOf
  omega
theorem cost_s (hk:1000≤k) {c:Nat} {p:Plt} (hp:PX H c p) (ho:p.Ok) {h n o:Nat} (hh:h < p.loads.length) (hn:n < 2 ^ p.machs.length) (hno:o < 2 ^ p.machs.length) :
    VC ⟨prog,k,b⟩ F_fq26 [.ptr c 0 8,iv h,iv o,iv n] ⟨H,lk⟩ K=K (iv (p.costBy h o n)) ⟨H,lk⟩:=by
  obtain ⟨k,rfl⟩:∃ j,k=j + 1:=⟨k - 1,by omega⟩
  obtain ⟨vl,vp,vm,vc,vw,hc,h1,h2,h3,h4,h5⟩:=hp.how
  have hrow:row H c 8=some [iv p.heat,iv p.low,iv p.high,vl,vp,vm,vc,vw]:=row_of hc rfl
  have hn':n < (powers p (2 ^ p.machs.length)).length:=by rw [powers_len]; exact hn
  have hh2:h < p.prices.length:=by rw [← ho.len]; exact hh
  have hpr:=ho.prices h hh2
  have hfew:=ho.few
  have hpw:=powerOf_le (fun i hi=>(ho.machs i hi).2.1) n
  have hmul:=mul_amt hpr ⟨hpw.1,show powerOf p.machs n≤4000000 by omega⟩
  have hso:=startOf_le (fun i hi=>(ho.machs i hi).2.2) n o
  obtain ⟨N,hN⟩:∃ N,N=2 ^ p.machs.length:=⟨_,rfl⟩
  have hN16:N≤16:=by rw [hN]; exact Nat.pow_le_pow_right (by omega) hfew
  rw [← hN] at hn hno
  obtain ⟨X,hX⟩:∃ X,X=(BitVec.ofNat 64 n &&& ~~~BitVec.ofNat 64 o).toNat:=⟨_,rfl⟩
  have hXt:∀ j,X.testBit j=(n.testBit j && !o.testBit j):=fun j=>by rw [hX]; exact tb_andNot (by omega)
  have hXn:X < N:=by
    rw [hN]
    refine Nat.lt_pow_two_of_testBit _ (fun j hj=>?_)
    rw [hXt,Nat.testBit_lt_two_pow (Nat.lt_of_lt_of_le (hN ▸ hn) (Nat.pow_le_pow_right (by omega) hj))]
    rfl
  apply VC_iff
  apply fq26.enter
  have e1:=andNot_i64 (x:=n) (y:=o)
  rw [← hX] at e1
  simp -implicitDefEqProofs only [fq26.n0_w,sw0,sw1,sw2,sw3,sw4,sw5,reduceCtorEq,Nat.reduceEqDiff,Nat.reduceAdd,Nat.reduceDiv,Nat.reduceLeDiff,hrow,h2.at,hh2,h2.ld hh2 h2.pos,ic,h5.at,hn',h5.ld hn' h5.pos,powers_at,e1]
  rw [wrap64 (n:=p.prices[h] * powerOf p.machs n) (by omega),wrap64 (n:=(X:Int)) (by omega),wrapu (by omega)]
  refine fq26.n1_l (fun m r5 r6 s=>∃ (x:Nat) (t:Int),r5=iv t∧r6=uv x∧s=⟨H,false⟩∧m=x∧x < N∧0≤t∧t≤5000000000000∧t + startsOf p.machs x=p.prices[h] * powerOf p.machs n + startOf p.machs n o) X (by simp -implicitDefEqProofs only []; omega)
    ⟨X,_,rfl,rfl,rfl,rfl,by omega,by omega,by omega,by rw [startOf_ext p.machs n o X hXt]⟩ ?_
  rintro m r1 r2 r3 r5 r6 r7 r8 r9 r10 r11 r12 r13 r14 r15 s ⟨x,t,rfl,rfl,rfl,rfl,hx,ht1,ht2,ht⟩
  simp -implicitDefEqProofs only [fq26.n2_w,sw0,sw1,sw2,sw3,sw4,sw5,reduceCtorEq,Nat.reduceEqDiff,Nat.reduceAdd,Nat.reduceDiv,Nat.reduceLeDiff]
  split
  · rename_i hne
    have hne:m ≠ 0:=by omega
    have hlt64:m < 2 ^ 64:=by omega
    have hfirst:=ctzN_spec 64 m hne hlt64
    have hc64:=ctzN_lt hne hlt64
    have hi:ctzN 64 m < p.machs.length:=by
      rcases Nat.lt_or_ge (ctzN 64 m) p.machs.length with h | h
      · exact h
      · have h6:=Nat.ge_two_pow_of_testBit hfirst.1
        have h7:=Nat.pow_le_pow_right (show 0 < 2 by omega) h
        omega
    have hmi:=ho.machs _ hi
    have hcl:=startsOf_clr p.machs m (ctzN 64 m) hi (by omega) hfirst.1
    have hlt2:=clrB_lt (show m < 18446744073709551616 by omega) hfirst.1
    have hb1:=startsOf_le ho m
    have hb2:=startsOf_le ho (clrB m (ctzN 64 m))
    simp -implicitDefEqProofs only [fq26.n4_w,sw0,sw1,sw2,sw3,sw4,sw5,reduceCtorEq,Nat.reduceEqDiff,Nat.reduceAdd,Nat.reduceDiv,Nat.reduceLeDiff,hrow,first_machine (k:=k) (by omega) (show m < 18446744073709551616 by omega),without_machine (k:=k) (by omega) (show m < 18446744073709551616 by omega) hc64,h3.at,hi,h3.off,h3.ld hi (show 2 < 3 by omega),mc]
    refine fq26.n1_go (m':=clrB m (ctzN 64 m)) hlt2 ⟨_,t + p.machs[ctzN 64 m].start,by rw [wrap64 (by omega)],rfl,rfl,rfl,by omega,by omega,by omega,by omega⟩
  · rename_i hz
    have hz:m=0:=by omega
    subst hz
    have e0:startsOf p.machs 0=0:=by
      have:∀ ms:List Mach,startsOf ms 0=0:=by
        intro ms
        induction ms with
        | nil=>rfl
        | cons m ms ih=>unfold startsOf at ih ⊢; simp [startOf,ih]
      exact this _
    have:t=p.costBy h o n:=by
      unfold Plt.costBy
      simp -implicitDefEqProofs only [List.getD_eq_getElem?_getD,List.getElem?_eq_getElem hh2,Option.getD_some]
      omega
    simp -implicitDefEqProofs only [fq26.n5_w,sw0,sw1,sw2,sw3,sw4,sw5,reduceCtorEq,Nat.reduceEqDiff,Nat.reduceAdd,Nat.reduceDiv,Nat.reduceLeDiff,fq26.ret,this]
theorem scheduled_1_s (hk:5≤k) {c q:Nat} {p:Plt} (hp:PX H c p) (ho:p.Ok) (hq:H[q]?=some (.cells [.ptr c 0 8])) {n:Int}:VC ⟨prog,k,b⟩ F_fq30 [iv n,.ptr q 0 1] ⟨H,lk⟩ K=K (.bool (!p.num n)) ⟨H,lk⟩:=by
  obtain ⟨k,rfl⟩:∃ j,k=j + 1:=⟨k - 1,by omega⟩
  obtain ⟨vl,vp,vm,vc,vw,hc,h1,h2,h3,h4,h5⟩:=hp.how
  have hrow:row H c 8=some [iv p.heat,iv p.low,iv p.high,vl,vp,vm,vc,vw]:=row_of hc rfl
  have hrow2:row H q 1=some [.ptr c 0 8]:=row_of hq rfl
  obtain ⟨N,hN⟩:∃ N,N=2 ^ p.machs.length:=⟨_,rfl⟩
  have hN16:N≤16:=by rw [hN]; exact Nat.pow_le_pow_right (by omega) ho.few
  apply VC_iff
  apply fq30.enter
  simp -implicitDefEqProofs only [fq30.n0_w,sw0,sw1,sw2,sw3,sw4,sw5,reduceCtorEq,Nat.reduceEqDiff,Nat.reduceAdd,Nat.reduceDiv,Nat.reduceLeDiff,hrow,hrow2,h4.len,colds_len]
  rw [← hN,wrap64 (by omega)]
  simp -implicitDefEqProofs only [sw0,sw1,sw2,sw3,sw4,sw5,reduceCtorEq,Nat.reduceEqDiff,Nat.reduceAdd,Nat.reduceDiv,Nat.reduceLeDiff,within_s (k:=k) (by omega),fq30.ret,Plt.num,← hN]
theorem scheduled_s (hk:1030≤k) {cs:List AV} {v:AV} {p:Plt} {l:List Int} (hp:PV H cs p) (hs:SI H v l) (hl:p.loads.length≤1000∧p.prices.length≤1000∧p.machs.length≤60) (hll:l.length≤1000)
    (hno:p.sched l=false→∀ L,K (.tup [.nilptr,.bool false]) ⟨H ++ L,lk⟩) (hyes:p.sched l=true→∀ L c,PX (H ++ L) c p→K (.tup [.ptr c 0 8,.bool true]) ⟨H ++ L,lk⟩):VC ⟨prog,k,b⟩ F_fq29 [.agg cs,v] ⟨H,lk⟩ K:=by
  obtain ⟨k,rfl⟩:∃ j,k=j + 1:=⟨k - 1,by omega⟩
  have hp':=hp
  obtain ⟨vl,vp,vm,rfl,h1,h2,h3⟩:=hp'.how
  apply fq29.enter
  have hpa:=hp.app (L:=[.cells [iv p.heat,iv p.low,iv p.high,vl,vp,vm]])
  simp -implicitDefEqProofs only [fq29.n0_w,sw0,sw1,sw2,sw3,sw4,sw5,reduceCtorEq,Nat.reduceEqDiff,Nat.reduceAdd,Nat.reduceDiv,Nat.reduceLeDiff,h1.one,h2.one,h3.one]
  refine laid_s (k:=k) (by omega) hpa hl ?_ ?_
  · intro hok
    have hns:p.sched l=false:=by simp [Plt.sched,hok]
    have:=hno hns []
    simp -implicitDefEqProofs only [List.append_nil] at this
    simp -implicitDefEqProofs only [sw0,sw1,sw2,sw3,sw4,sw5,reduceCtorEq,Nat.reduceEqDiff,Nat.reduceAdd,Nat.reduceDiv,Nat.reduceLeDiff,fq29.n1_w,fq29.ret]
    exact this
  · intro hok L c hx
    have ho:=Plt.ok_Ok hok
    simp -implicitDefEqProofs only [sw0,sw1,sw2,sw3,sw4,sw5,reduceCtorEq,Nat.reduceEqDiff,Nat.reduceAdd,Nat.reduceDiv,Nat.reduceLeDiff,hs.len,h1.len]
    by_cases d1:(l.length:Int)=p.loads.length
    · have d1':l.length=p.loads.length:=by omega
      have hs':=hs.app (L:=.cells [iv p.heat,iv p.low,iv p.high,vl,vp,vm] :: (L ++ [.cells [.ptr (H.length + 1 + c) 0 8]]))
      have hx':PX (H ++ .cells [iv p.heat,iv p.low,iv p.high,vl,vp,vm] :: (L ++ [.cells [.ptr (H.length + 1 + c) 0 8]])) (H.length + 1 + c) p:=by
        have:=hx.app (L:=[.cells [.ptr (H.length + 1 + c) 0 8]])
        simpa using this
      simp -implicitDefEqProofs only [eq_true d1,sw0,sw1,sw2,sw3,sw4,sw5,reduceCtorEq,Nat.reduceEqDiff,Nat.reduceAdd,Nat.reduceDiv,Nat.reduceLeDiff,ContainsFunc_int (k:=k) (by omega) (f:=F_fq30) (caps:=[.ptr (H.length + (L.length + 1)) 0 1]) hs' hll (vl:=iv) (fun x=>rfl) (p:=fun x=>!p.num x) (fun x hx b lk K=>scheduled_1_s (k:=k - 2) (q:=H.length + (L.length + 1)) (by omega) hx' ho (by simp -implicitDefEqProofs only [sw0,sw1,sw2,sw3,sw4,sw5,reduceCtorEq,Nat.reduceEqDiff,Nat.reduceAdd,Nat.reduceDiv,Nat.reduceLeDiff]))]
      cases hany:l.any (fun x=>!p.num x)
      · have hyes':p.sched l=true:=by
          have:l.all p.num=true:=by rw [List.all_eq_not_any_not,hany]; rfl
          simp [Plt.sched,hok,d1',this]
        have hu:AV.under H.length (.ptr (H.length + 1 + c) 0 8)=false:=by simp [AV.under]; omega
        simp -implicitDefEqProofs only [sw0,sw1,sw2,sw3,sw4,sw5,reduceCtorEq,Nat.reduceEqDiff,Nat.reduceAdd,Nat.reduceDiv,Nat.reduceLeDiff,fq29.n2_w,fq29.ret,hu]
        exact hyes hyes' _ _ hx'
      · have hns:p.sched l=false:=by
          have:l.all p.num=false:=by rw [List.all_eq_not_any_not,hany]; rfl
          simp [Plt.sched,this]
        have:=hno hns []
        simp -implicitDefEqProofs only [List.append_nil] at this
        simp -implicitDefEqProofs only [sw0,sw1,sw2,sw3,sw4,sw5,reduceCtorEq,Nat.reduceEqDiff,Nat.reduceAdd,Nat.reduceDiv,Nat.reduceLeDiff,fq29.n1_w,fq29.ret]
        exact this
    · have d1':¬ l.length=p.loads.length:=by omega
      have hns:p.sched l=false:=by simp [Plt.sched,d1']
      have:=hno hns []
      simp -implicitDefEqProofs only [List.append_nil] at this
      simp -implicitDefEqProofs only [eq_false d1,sw0,sw1,sw2,sw3,sw4,sw5,reduceCtorEq,Nat.reduceEqDiff,Nat.reduceAdd,Nat.reduceDiv,Nat.reduceLeDiff,fq29.n1_w,fq29.ret]
      exact this
theorem Heats_s (hk:1040≤k) {cs:List AV} {v:AV} {p:Plt} {l:List Int} (hp:PV H cs p) (hs:SI H v l) (hl:p.loads.length≤1000∧p.prices.length≤1000∧p.machs.length≤60) (hll:l.length≤1000) :
    VC ⟨prog,k,b⟩ F_fq11 [.agg cs,v] ⟨H,lk⟩ K=K (.tup (if p.sched l then [.slice false 1 ((heatsFrom p 0 p.heat l).map ic),iv 0] else [.slice true 0 [],iv 2])) ⟨H,lk⟩:=by
  obtain ⟨k,rfl⟩:∃ j,k=j + 1:=⟨k - 1,by omega⟩
  have hp':=hp
  obtain ⟨vl,vp,vm,rfl,h1,h2,h3⟩:=hp'.how
  apply VC_iff
  apply fq11.enter
  have hpa:=hp.app (L:=[.cells [iv p.heat,iv p.low,iv p.high,vl,vp,vm]])
  have hs':=hs.app (L:=[.cells [iv p.heat,iv p.low,iv p.high,vl,vp,vm]])
  simp -implicitDefEqProofs only [fq11.n0_w,sw0,sw1,sw2,sw3,sw4,sw5,reduceCtorEq,Nat.reduceEqDiff,Nat.reduceAdd,Nat.reduceDiv,Nat.reduceLeDiff,h1.one,h2.one,h3.one]
  refine scheduled_s (k:=k) (by omega) hpa hs' hl hll ?_ ?_
  · intro hok L
    simp -implicitDefEqProofs only [sw0,sw1,sw2,sw3,sw4,sw5,reduceCtorEq,Nat.reduceEqDiff,Nat.reduceAdd,Nat.reduceDiv,Nat.reduceLeDiff,fq11.n1_w,fq11.ret,hok]
  · intro hok L c hx
    obtain ⟨ho,hlen,hnum⟩:=sched_at hok
    have hlow:=ho.low
    have hheat:=ho.heat
    have hhigh:=ho.high
    have hhrs:=ho.hours
    simp -implicitDefEqProofs only [sw0,sw1,sw2,sw3,sw4,sw5,reduceCtorEq,Nat.reduceEqDiff,Nat.reduceAdd,Nat.reduceDiv,Nat.reduceLeDiff,fq11.n2_w,hs.len]
    refine fq11.n3_l (fun m r4 r5 r6 s=>∃ (i:Nat) (t:Int) (xs:List Int),r4=.sref (H.length + (L.length + 1)) 0 xs.length (xs.length * 1) 1∧r5=iv t∧r6=iv i∧s=⟨H ++ (.cells [iv p.heat,iv p.low,iv p.high,vl,vp,vm] :: (L ++ [.cells (xs.map ic).flatten])),false⟩∧m=l.length - i∧i≤l.length∧xs.length=i ∧
      -1000000≤t∧t≤2000000 + i * 1000000∧xs ++ heatsFrom p i t (l.drop i)=heatsFrom p 0 p.heat l) l.length (by simp -implicitDefEqProofs only []; omega) ⟨0,p.heat,[],rfl,rfl,rfl,rfl,by omega,by omega,rfl,by omega,by omega,rfl⟩ ?_
    rintro m r4 r5 r6 r7 s ⟨i,t,xs,rfl,rfl,rfl,rfl,hm,hi,hxl,ht1,ht2,hxs⟩
    simp -implicitDefEqProofs only [fq11.n4_w,sw0,sw1,sw2,sw3,sw4,sw5,reduceCtorEq,Nat.reduceEqDiff,Nat.reduceAdd,Nat.reduceDiv,Nat.reduceLeDiff]
    have hsb:=hs.app (L:=.cells [iv p.heat,iv p.low,iv p.high,vl,vp,vm] :: (L ++ [.cells (xs.map ic).flatten]))
    have hxb:PX (H ++ .cells [iv p.heat,iv p.low,iv p.high,vl,vp,vm] :: (L ++ [.cells (xs.map ic).flatten])) c p:=by
      have:=hx.app (L:=[.cells (xs.map ic).flatten])
      simpa using this
    have hrow:row (H ++ .cells [iv p.heat,iv p.low,iv p.high,vl,vp,vm] :: (L ++ [.cells (xs.map ic).flatten])) (H.length + (L.length + 1)) (xs.length * 1)=some (xs.map ic).flatten:=by
      simp -implicitDefEqProofs only [sw0,sw1,sw2,sw3,sw4,sw5,reduceCtorEq,Nat.reduceEqDiff,Nat.reduceAdd,Nat.reduceDiv,Nat.reduceLeDiff,flat_len ic_len]
    split
    · rename_i hlt
      have hlt:i < l.length:=by omega
      have hn:=hnum i hlt
      have hcast:l[i]=(l[i].toNat:Int):=by omega
      have hb:=heatBy_le ho (show i < p.loads.length by omega) (n:=l[i].toNat) ⟨ht1,ht2⟩ (by omega)
      simp -implicitDefEqProofs only [fq11.n6_w,sw0,sw1,sw2,sw3,sw4,sw5,reduceCtorEq,Nat.reduceEqDiff,Nat.reduceAdd,Nat.reduceDiv,Nat.reduceLeDiff,hsb.at,hlt,hsb.ld hlt hs.pos,ic]
      rw [hcast]
      simp -implicitDefEqProofs only [sw0,sw1,sw2,sw3,sw4,sw5,reduceCtorEq,Nat.reduceEqDiff,Nat.reduceAdd,Nat.reduceDiv,Nat.reduceLeDiff,heat_s (k:=k) (by omega) hxb ho (show i < p.loads.length by omega) (show l[i].toNat < 2 ^ p.machs.length by omega) (show -100000000≤t∧t≤100000000 by omega)]
      have happ:=app_own (base:=some H.length) (lk:=false) (fl:=true) (bytes:=8) (x:=p.heatBy i t l[i].toNat) Nat.one_pos ic_len (ic_one _) (ic_clean _) rfl hrow (by omega)
      simp -implicitDefEqProofs only [ic] at happ
      simp -implicitDefEqProofs only [happ,sw0,sw1,sw2,sw3,sw4,sw5,reduceCtorEq,Nat.reduceEqDiff,Nat.reduceAdd,Nat.reduceDiv,Nat.reduceLeDiff]
      refine fq11.n3_go (m':=m - 1) (by omega) ⟨i + 1,p.heatBy i t l[i].toNat,xs ++ [p.heatBy i t l[i].toNat],by simp,rfl,by rw [wrap64 (by omega)]; rfl,rfl,by omega,by omega,by simp [hxl],hb.1,by omega,?_⟩
      rw [← hxs,drop_at hlt,heatsFrom]
      simp
    · rename_i hge
      have hz:l.drop i=[]:=List.drop_of_length_le (by omega)
      rw [hz] at hxs
      simp -implicitDefEqProofs only [heatsFrom,List.append_nil] at hxs
      have hfz:=fz_own (m:=H.length) Nat.one_pos ic_len ic_clean rfl hrow (by omega)
      rw [← hxs]
      simp -implicitDefEqProofs only [fq11.n7_w,sw0,sw1,sw2,sw3,sw4,sw5,reduceCtorEq,Nat.reduceEqDiff,Nat.reduceAdd,Nat.reduceDiv,Nat.reduceLeDiff,fq11.ret,hfz,hok]
end Go.Proofs.YtcebebhaahpoiaaDoor
end
section
namespace Go.Proofs.YtcebebhaahpoiaaDoor
open Go Go.Ai Go.W
attribute [local irreducible] VC YC WC
set_option linter.unusedSimpArgs false
set_option linter.unusedVariables false
def minF (val:Nat→Option Int):Nat→Option (Int × Nat)
  | 0=>none
  | n + 1=>match val n,minF val n with
    | none,a=>a
    | some d,none=>some (d,n)
    | some d,some (c,m)=>if d < c then some (d,n) else some (c,m)
theorem minF_none {val:Nat→Option Int}:∀ {N:Nat},minF val N=none→∀ n,n < N→val n=none
  | 0,_,n,hn=>absurd hn (by omega)
  | N + 1,h,n,hn=>by
    unfold minF at h
    split at h
    · rename_i h1
      by_cases e:n=N
      · rw [e,h1]
      · exact minF_none h n (by omega)
    · cases h
    · split at h <;> cases h
theorem minF_some {val:Nat→Option Int}:∀ {N:Nat} {c:Int} {m:Nat},minF val N=some (c,m)→m < N∧val m=some c∧(∀ n,n < N→∀ d,val n=some d→c≤d)∧(∀ n,n < m→∀ d,val n=some d→c < d)
  | 0,_,_,h=>by cases h
  | N + 1, c,m,h=>by
    unfold minF at h
    split at h
    · rename_i h1
      obtain ⟨a1,a2,a3,a4⟩:=minF_some h
      refine ⟨by omega,a2,fun n hn d hd=>?_,a4⟩
      by_cases e:n=N
      · rw [e,h1] at hd; cases hd
      · exact a3 n (by omega) d hd
    · rename_i d h1 h2
      simp -implicitDefEqProofs only [Option.some.injEq,Prod.mk.injEq] at h
      obtain ⟨rfl,rfl⟩:=h
      refine ⟨by omega,h1,fun n hn d' hd=>?_,fun n hn d' hd=>?_⟩
      · by_cases e:n=N
        · rw [e,h1] at hd; simp at hd; omega
        · rw [minF_none h2 n (by omega)] at hd; cases hd
      · rw [minF_none h2 n (by omega)] at hd; cases hd
    · rename_i d c' m' h1 h2
      obtain ⟨a1,a2,a3,a4⟩:=minF_some h2
      split at h
      · rename_i hlt
        simp -implicitDefEqProofs only [Option.some.injEq,Prod.mk.injEq] at h
        obtain ⟨rfl,rfl⟩:=h
        refine ⟨by omega,h1,fun n hn d' hd=>?_,fun n hn d' hd=>?_⟩
        · by_cases e:n=N
          · rw [e,h1] at hd; simp at hd; omega
          · have:=a3 n (by omega) d' hd; omega
        · have:=a3 n (by omega) d' hd; omega
      · rename_i hge
        simp -implicitDefEqProofs only [Option.some.injEq,Prod.mk.injEq] at h
        obtain ⟨rfl,rfl⟩:=h
        refine ⟨by omega,a2,fun n hn d' hd=>?_,a4⟩
        by_cases e:n=N
        · rw [e,h1] at hd; simp at hd; omega
        · exact a3 n (by omega) d' hd
theorem minF_ex {val:Nat→Option Int} {N n:Nat} {d:Int} (hn:n < N) (hd:val n=some d):∃ c m,minF val N=some (c,m):=by
  cases h:minF val N with
  | none=>rw [minF_none h n hn] at hd; cases hd
  | some q=>exact ⟨q.1,q.2,rfl⟩
def best (p:Plt):Nat→Nat→Int→Nat→Option (Int × Nat)
  | 0,_,_,_=>some (0,0)
  | r + 1,h,t,o=>minF (fun n=>if p.heatBy h t n≤p.high then (best p r (h + 1) (p.heatBy h t n) n).map (fun q=>q.1 + p.costBy h o n) else none) (2 ^ p.machs.length)
def bval (p:Plt) (r h:Nat) (t:Int) (o:Nat) (n:Nat):Option Int :=
  if p.heatBy h t n≤p.high then (best p r (h + 1) (p.heatBy h t n) n).map (fun q=>q.1 + p.costBy h o n) else none
theorem best_succ (p:Plt) (r h:Nat) (t:Int) (o:Nat):best p (r + 1) h t o=minF (bval p r h t o) (2 ^ p.machs.length):=rfl
def plan (p:Plt):Nat→Nat→Int→Nat→List Int
  | 0,_,_,_=>[]
  | r + 1,h,t,o=>match best p (r + 1) h t o with
    | none=>[]
    | some (_,n)=>(n:Int) :: plan p r (h + 1) (p.heatBy h t n) n
theorem best_le {p:Plt} (ho:p.Ok):∀ (r h:Nat) (t:Int) (o:Nat) (c:Int) (m:Nat),h + r≤p.loads.length→best p r h t o=some (c,m)→0≤c∧c≤r * 4000004000000
  | 0,h,t,o,c,m,hr,hb=>by simp [best] at hb; omega
  | r + 1,h,t,o,c,m,hr,hb=>by
    rw [best_succ] at hb
    obtain ⟨_,hv,_,_⟩:=minF_some hb
    unfold bval at hv
    split at hv
    · obtain ⟨q,hq,hc⟩:=Option.map_eq_some_iff.1 hv
      have h1:=best_le ho r (h + 1) _ _ q.1 q.2 (by omega) hq
      have h2:=costBy_le ho (show h < p.loads.length by omega) o m
      omega
    · cases hv
def Plt.cool (p:Plt):List AV :=
  if p.ok then match best p p.loads.length 0 p.heat 0 with
    | none=>[.slice false 1 [],iv 0,iv 7]
    | some (c,_)=>[.slice false 1 ((plan p p.loads.length 0 p.heat 0).map ic),iv c,iv 0]
  else [.slice false 1 [],iv 0,iv 2]
end Go.Proofs.YtcebebhaahpoiaaDoor
end
section
namespace Go.Proofs.YtcebebhaahpoiaaDoor
open Go Go.Ai Go.W
attribute [local irreducible] VC YC WC
set_option linter.unusedSimpArgs false
set_option linter.unusedVariables false
set_option maxRecDepth 10000
variable {k:Nat} {b:Option Nat} {H:List AObj} {lk:Bool} {K:AV→St→Prop}
abbrev shS:Sh:=.mk true [.int .i64,.int .i64]
def tr (ks:List (Int × Int)):List ((Int × Int) × AV):=ks.map fun q=>(q,.bool true)
def insK (ks:List (Int × Int)) (q:Int × Int):List (Int × Int):=if q ∈ ks then ks else ks ++ [q]
theorem tr_ins (ks:List (Int × Int)) (q:Int × Int):ins (tr ks) q (.bool true)=tr (insK ks q):=by
  unfold insK
  induction ks with
  | nil=>simp [tr,ins]
  | cons a ks ih =>
    simp -implicitDefEqProofs only [tr,List.map_cons,ins]
    by_cases h:q=a
    · subst h; simp [tr]
    · simp -implicitDefEqProofs only [h,if_false,List.mem_cons,false_or]
      simp -implicitDefEqProofs only [tr] at ih
      rw [ih]
      split <;> simp
theorem insK_mem {ks:List (Int × Int)} {q x:Int × Int}:x ∈ insK ks q↔x ∈ ks∨x=q:=by
  unfold insK
  split
  · rename_i h
    constructor
    · exact .inl
    · rintro (h1 | rfl)
      · exact h1
      · exact h
  · simp
theorem insK_len {ks:List (Int × Int)} {q:Int × Int}:(insK ks q).length≤ks.length + 1:=by
  unfold insK
  split <;> simp
theorem insK_nodup {ks:List (Int × Int)} {q:Int × Int} (h:ks.Nodup):(insK ks q).Nodup:=by
  unfold insK
  split
  · exact h
  · rename_i hn
    rw [List.nodup_append]
    refine ⟨h,by simp,fun a ha b hb=>?_⟩
    simp -implicitDefEqProofs only [List.mem_singleton] at hb
    subst hb
    exact fun e=>hn (e ▸ ha)
theorem mem_erase_or {α:Type} {l:List α} {i:Nat} {a x:α} (h:l[i]?=some a) (hx:x ∈ l):x=a∨x ∈ l.eraseIdx i:=by
  obtain ⟨j,hj,rfl⟩:=List.getElem_of_mem hx
  by_cases e:j=i
  · subst e
    rw [List.getElem?_eq_getElem hj] at h
    simp -implicitDefEqProofs only [Option.some.injEq] at h
    exact .inl h
  · exact .inr (List.mem_eraseIdx_iff_getElem.2 ⟨j,hj,e,rfl⟩)
theorem enc_at {rs:List (Int × Int)} {i:Nat} {k' v:AV} (h:(encE ev2 (tr rs))[i]?=some (k',v)):∃ q,rs[i]?=some q∧k'=ev2 q∧v=.bool true:=by
  simp -implicitDefEqProofs only [encE,tr,List.map_map,List.getElem?_map,Option.map_eq_some_iff] at h
  obtain ⟨q,hq,e⟩:=h
  simp -implicitDefEqProofs only [Function.comp,Prod.mk.injEq] at e
  exact ⟨q,hq,e.1.symm,e.2.symm⟩
theorem enc_erase {rs:List (Int × Int)} {i:Nat}:(encE ev2 (tr rs)).eraseIdx i=encE ev2 (tr (rs.eraseIdx i)):=by
  simp -implicitDefEqProofs only [encE,tr,List.map_map]
  induction rs generalizing i with
  | nil=>rfl
  | cons a rs ih=>cases i with
    | zero=>rfl
    | succ i=>simp -implicitDefEqProofs only [List.map_cons,List.eraseIdx_cons_succ,ih]
theorem enc_nil {rs:List (Int × Int)} (h:encE ev2 (tr rs)=[]):rs=[]:=by
  simpa [encE,tr] using h
structure RSt (p:Plt) (i:Nat) (ks:List (Int × Int)):Prop where
  nodup:ks.Nodup
  len:ks.length≤16 ^ i
  num:∀ q,q ∈ ks→p.low≤q.1∧q.1≤p.high∧0≤q.2∧q.2 < (2 ^ p.machs.length:Nat)
def Img (p:Plt) (i:Nat) (q:Int × Int) (nx:List (Int × Int)) (N:Nat):Prop:=∀ n:Nat,n < N→p.heatBy i q.1 n≤p.high→(p.heatBy i q.1 n,(n:Int)) ∈ nx
structure AllAt (G:List AObj) (c:Nat) (ms:List Nat) (kss:List (List (Int × Int))) (p:Plt):Prop where
  row:G[c]?=some (.cells (ms.map .map))
  len:kss.length=ms.length
  maps:∀ i (h:i < ms.length) (h':i < kss.length),MapAt G ms[i] shS ev2 (tr kss[i])∧RSt p i kss[i]
  start:kss[0]?=some [(p.heat,0)]
  step:∀ i (h:i + 1 < kss.length) q,q ∈ kss[i]→Img p i q kss[i + 1] (2 ^ p.machs.length)
abbrev mcell (m:Nat):List AV:=[.map m]
theorem mcell_flat (ms:List Nat):(ms.map mcell).flatten=ms.map .map:=by
  induction ms with
  | nil=>rfl
  | cons m ms ih=>simp [ih]
theorem AllAt.lts {G c ms kss p} (h:AllAt G c ms kss p):c < G.length∧∀ i (hi:i < ms.length),ms[i] < G.length∧ms[i] ≠ c:=by
  refine ⟨(List.getElem?_eq_some_iff.1 h.row).1,fun i hi=>?_⟩
  obtain ⟨hm,_⟩:=h.maps i hi (by rw [h.len]; exact hi)
  refine ⟨hm.lt,fun e=>?_⟩
  obtain ⟨ver,hv⟩:=hm.how
  rw [e,h.row] at hv
  cases hv
theorem reached_s (hk : 16 ^ 50 ≤ k) {px : Nat} {p:Plt} (hp:PX H px p) (ho:p.Ok)
    (hK:∀ L c ms kss,AllAt (H ++ L) c ms kss p→ms.length=p.loads.length + 1→H.length≤c→K (.sref c 0 ms.length (ms.length * 1) 1) ⟨H ++ L,lk⟩):VC ⟨prog,k,b⟩ F_fq28 [.ptr px 0 8] ⟨H,lk⟩ K:=by
  obtain ⟨k, rfl⟩ : ∃ j, k = j + 1 := ⟨k - 1, by have:0 < 16 ^ 50:=by decide
                                                 omega⟩
  have e50:(16:Nat) ^ 50=1606938044258990275541962092341162602522202993782792835301376:=by decide
  have e49:(16:Nat) ^ 49=100433627766186892221372630771322662657637687111424552206336:=by decide
  obtain ⟨vl,vp,vm,vc,vw,hc,h1,h2,h3,h4,h5⟩:=hp.how
  have hrow:row H px 8=some [iv p.heat,iv p.low,iv p.high,vl,vp,vm,vc,vw]:=row_of hc rfl
  have hrowA:∀ L,row (H ++ L) px 8=some [iv p.heat,iv p.low,iv p.high,vl,vp,vm,vc,vw]:=fun L=>row_app hrow
  have hhrs:=ho.hours
  have hheat:=ho.heat
  have hhigh:=ho.high
  have hlow:=ho.low
  apply fq28.enter
  have hupd0:eMupd (some H.length) ⟨H ++ [.map shS 0 []],false⟩ shS (.map H.length) (ev2 (p.heat,0)) (.bool true)=some ⟨H ++ [.map shS 1 (encE ev2 (tr [(p.heat,0)]))],false⟩:=by
    have:=upd_at key_iv2 (H:=H ++ [.map shS 0 []]) (c:=H.length) (l:=[]) (ver:=0) (by simp -implicitDefEqProofs only [sw0,sw1,sw2,sw3,sw4,sw5,reduceCtorEq,Nat.reduceEqDiff,Nat.reduceAdd,Nat.reduceDiv,Nat.reduceLeDiff]; rfl) (base:=some H.length) (lk:=false) (p.heat,0) (v:=.bool true) rfl
    rw [this]
    simp -implicitDefEqProofs only [sw0,sw1,sw2,sw3,sw4,sw5,reduceCtorEq,Nat.reduceEqDiff,Nat.reduceAdd,Nat.reduceDiv,Nat.reduceLeDiff]
    rfl
  simp -implicitDefEqProofs only [fq28.n0_w,sw0,sw1,sw2,sw3,sw4,sw5,reduceCtorEq,Nat.reduceEqDiff,Nat.reduceAdd,Nat.reduceDiv,Nat.reduceLeDiff,hrowA,hupd0,h1.len]
  obtain ⟨N,hN⟩:∃ N,N=2 ^ p.machs.length:=⟨_,rfl⟩
  have hN16:N≤16:=by rw [hN]; exact Nat.pow_le_pow_right (by omega) ho.few
  refine fq28.n1_l (fun m r2 r3 s=>∃ (G:List AObj) (c h:Nat) (ms:List Nat) (kss:List (List (Int × Int))),r2=.sref c 0 ms.length (ms.length * 1) 1∧r3=iv h∧s=⟨G,false⟩∧(∃ L,G=H ++ L)∧ms.length=h + 1∧h≤p.loads.length∧m=p.loads.length - h∧H.length≤c∧AllAt G c ms kss p)
    p.loads.length (by simp -implicitDefEqProofs only []; omega) ⟨_,H.length + 1,0,[H.length],[[(p.heat,0)]],rfl,rfl,rfl,⟨_,rfl⟩,rfl,by omega,by omega,by omega,⟨by simp -implicitDefEqProofs only [sw0,sw1,sw2,sw3,sw4,sw5,reduceCtorEq,Nat.reduceEqDiff,Nat.reduceAdd,Nat.reduceDiv,Nat.reduceLeDiff]; rfl,rfl,?_,rfl,?_⟩⟩ ?_
  · intro i hi _
    have:i=0:=by simp at hi; exact hi
    subst this
    refine ⟨⟨1,by simp -implicitDefEqProofs only [sw0,sw1,sw2,sw3,sw4,sw5,reduceCtorEq,Nat.reduceEqDiff,Nat.reduceAdd,Nat.reduceDiv,Nat.reduceLeDiff,List.getElem_cons_zero]⟩,⟨by simp,by simp,?_⟩⟩
    intro q hq
    simp -implicitDefEqProofs only [List.getElem_cons_zero,List.mem_singleton] at hq
    subst hq
    exact ⟨hheat.1,hheat.2,by simp,by have:=Nat.two_pow_pos p.machs.length; omega⟩
  · intro i hi
    simp at hi
  rintro m r2 r3 r4 r6 r7 r8 r9 r10 r11 s ⟨G,c,h,ms,kss,rfl,rfl,rfl,⟨L,hG⟩,hml,hh,hm,hcH,hA⟩
  have hGlen:H.length≤G.length:=by rw [hG]; simp
  have hpG:PX G px p:=by rw [hG]; exact hp.app
  have hrowG:∀ L',row (G ++ L') px 8=some [iv p.heat,iv p.low,iv p.high,vl,vp,vm,vc,vw]:=fun L'=>row_app (by rw [hG]; exact hrowA L)
  have hcN:(c < H.length)=False:=by simp; omega
  simp -implicitDefEqProofs only [fq28.n2_w,sw0,sw1,sw2,sw3,sw4,sw5,reduceCtorEq,Nat.reduceEqDiff,Nat.reduceAdd,Nat.reduceDiv,Nat.reduceLeDiff]
  split
  · rename_i hlt
    have hlt:h < p.loads.length:=by omega
    have hhm:h < ms.length:=by omega
    have hhk:h < kss.length:=by rw [hA.len]; exact hhm
    obtain ⟨hMap,hSt⟩:=hA.maps h hhm hhk
    obtain ⟨ver,hver⟩:=hMap.how
    have hrG:∀ L',row (G ++ L') c (ms.length * 1)=some (ms.map .map):=fun L'=>row_app (row_of hA.row (by simp))
    have hget:(ms.map AV.map)[h * 1]?=some (.map ms[h]):=by simp [hhm]
    have hverG:∀ L',(G ++ L')[ms[h]]?=some (.map shS ver (encE ev2 (tr kss[h]))):=fun L'=>get_app hver
    have hrng:eRange ⟨G ++ [.map shS 0 []],false⟩ (.map ms[h])=some (.iter (G.length + 1),⟨G ++ [.map shS 0 [],.iter ms[h] ver (encE ev2 (tr kss[h])) none],false⟩):=by
      have:=rng_at (lk:=false) (hverG [.map shS 0 []])
      rw [this]
      simp -implicitDefEqProofs only [sw0,sw1,sw2,sw3,sw4,sw5,reduceCtorEq,Nat.reduceEqDiff,Nat.reduceAdd,Nat.reduceDiv,Nat.reduceLeDiff]
    simp -implicitDefEqProofs only [fq28.n4_w,sw0,sw1,sw2,sw3,sw4,sw5,reduceCtorEq,Nat.reduceEqDiff,Nat.reduceAdd,Nat.reduceDiv,Nat.reduceLeDiff,hrG,hhm,hget,hrng]
    refine fq28.n5_l (fun m s=>∃ (rs nx:List (Int × Int)) (ver':Nat) (lst:Option (AV × AV)) (J:List AObj),s=⟨G ++ (.map shS ver' (encE ev2 (tr nx)) :: .iter ms[h] ver (encE ev2 (tr rs)) lst :: J),false⟩∧m=rs.length∧(∀ q,q ∈ rs→q ∈ kss[h]) ∧
        (∀ q,q ∈ kss[h]→q ∈ rs∨Img p h q nx N)∧nx.Nodup∧nx.length + rs.length * 16≤kss[h].length * 16∧(∀ q,q ∈ nx→p.low≤q.1∧q.1≤p.high∧0≤q.2∧q.2 < N))
      kss[h].length ?_ ⟨kss[h],[],0,none,[],rfl,rfl,fun q hq=>hq,fun q hq=>.inl hq,by simp,by simp,fun q hq=>by cases hq⟩ ?_
    · have:=hSt.len
      have h48:(16:Nat) ^ h≤16 ^ 49:=Nat.pow_le_pow_right (by omega) (by omega)
      simp -implicitDefEqProofs only []
      omega
    rintro m' r4 r8 r9 r10 r11 s ⟨rs,nx,ver',lst,J,rfl,rfl,hrs1,hrs2,hnd,hnl,hnb⟩
    simp -implicitDefEqProofs only [fq28.n6_w]
    refine VN_it (sh:=shS) (es:=encE ev2 (tr kss[h])) (by simp -implicitDefEqProofs only [sw0,sw1,sw2,sw3,sw4,sw5,reduceCtorEq,Nat.reduceEqDiff,Nat.reduceAdd,Nat.reduceDiv,Nat.reduceLeDiff]; rfl) (hverG _) ?_ ?_
    · intro hnil
      have hr0:=enc_nil hnil
      subst hr0
      simp -implicitDefEqProofs only [sw0,sw1,sw2,sw3,sw4,sw5,reduceCtorEq,Nat.reduceEqDiff,Nat.reduceAdd,Nat.reduceDiv,Nat.reduceLeDiff,fq28.n15_w]
      have happ:=app_own_g (base:=some H.length) (lk:=false) (bytes:=8) (f:=mcell) (xs:=ms) (x:=G.length) (y:=.sref (G.length + (J.length + 1 + 1)) 0 1 1 1) (H:=G ++ .map shS ver' (encE ev2 (tr nx)) :: .iter ms[h] ver (encE ev2 (tr [])) lst :: (J ++ [.cells [.map G.length]])) (c:=c) (v:=ms.length * 1)
        Nat.one_pos (fun _=>rfl) rfl (by simp -implicitDefEqProofs only [lk_some,hcN]; rfl) rfl (by rw [mcell_flat]; exact hrG _) (by omega) (by simp -implicitDefEqProofs only [rowOf,if_true,sw0,sw1,sw2,sw3,sw4,sw5,reduceCtorEq,Nat.reduceEqDiff,Nat.reduceAdd,Nat.reduceDiv,Nat.reduceLeDiff])
      simp -implicitDefEqProofs only [sw0,sw1,sw2,sw3,sw4,sw5,reduceCtorEq,Nat.reduceEqDiff,Nat.reduceAdd,Nat.reduceDiv,Nat.reduceLeDiff,happ,fq28.n16_w]
      have hms':(ms ++ [G.length]).length=ms.length + 1:=by simp
      refine fq28.n1_go (m':=m - 1) (by omega) ⟨_,c,h + 1,ms ++ [G.length],kss ++ [nx],by rw [hms'],by rw [wrap64 (by omega)]; rfl,rfl,?_,by omega,by omega,by omega,hcH,?_⟩
      · refine ⟨(L ++ (AObj.map shS ver' (encE ev2 (tr nx)) :: AObj.iter ms[h] ver (encE ev2 (tr [])) lst :: (J ++ [AObj.cells [.map G.length]]))).set (c - H.length) (AObj.cells ((ms ++ [G.length]).map mcell).flatten),?_⟩
        generalize G.length=gl at *
        rw [hG,List.append_assoc,List.set_append_right _ _ hcH]
      · have hclt:=hA.lts.1
        have hGX:∀ (X:List AObj) (o:AObj) d,d < G.length→d ≠ c→((G ++ X).set c o)[d]?=G[d]?:=fun X o d hd hne=>by
          rw [List.getElem?_set_ne (fun e=>hne e.symm),List.getElem?_append_left hd]
        refine ⟨?_,by simp [hA.len],?_,?_,?_⟩
        · rw [List.getElem?_set_self (by simp; omega),mcell_flat]
        · intro i hi1 hi2
          by_cases hil:i < ms.length
          · obtain ⟨hM1,hM2⟩:=hA.maps i hil (by rw [hA.len]; exact hil)
            obtain ⟨v1,hv1⟩:=hM1.how
            have hlt2:=(hA.lts.2 i hil)
            rw [List.getElem_append_left hil,List.getElem_append_left (by rw [hA.len]; exact hil)]
            exact ⟨⟨v1,(hGX _ _ _ hlt2.1 hlt2.2).trans hv1⟩,hM2⟩
          · have hie:i=ms.length:=by simp at hi1; omega
            subst hie
            have hne:c ≠ G.length:=by omega
            rw [List.getElem_append_right (Nat.le_refl _),List.getElem_append_right (by rw [hA.len]; exact Nat.le_refl _)]
            simp -implicitDefEqProofs only [Nat.sub_self,List.getElem_cons_zero,hA.len]
            refine ⟨⟨ver',?_⟩,⟨hnd,?_,?_⟩⟩
            · rw [List.getElem?_set_ne hne]
              simp -implicitDefEqProofs only [sw0,sw1,sw2,sw3,sw4,sw5,reduceCtorEq,Nat.reduceEqDiff,Nat.reduceAdd,Nat.reduceDiv,Nat.reduceLeDiff]
            · have h16:=hSt.len
              rw [hml,Nat.pow_succ]
              simp -implicitDefEqProofs only [List.length_nil,Nat.zero_mul,Nat.add_zero] at hnl
              omega
            · intro x hx
              rw [← hN]
              exact hnb x hx
        · rw [List.getElem?_append_left (by omega)]
          exact hA.start
        · intro i hi1 q hq
          simp -implicitDefEqProofs only [List.length_append,List.length_singleton] at hi1
          rw [← hN]
          by_cases hil:i + 1 < kss.length
          · rw [List.getElem_append_left hil]
            rw [List.getElem_append_left (by omega)] at hq
            rw [hN]
            exact hA.step i hil q hq
          · have hie:i + 1=kss.length:=by omega
            have hih:i=h:=by rw [hA.len] at hie; omega
            subst hih
            rw [List.getElem_append_left (by omega)] at hq
            rw [List.getElem_append_right (by omega)]
            simp -implicitDefEqProofs only [hie,Nat.sub_self,List.getElem_cons_zero]
            rcases hrs2 q hq with h9 | h9
            · cases h9
            · exact h9
    · intro i k' v hi
      obtain ⟨q,hq,rfl,rfl⟩:=enc_at hi
      rw [enc_erase]
      have hqk:=hrs1 q (List.mem_of_getElem? hq)
      obtain ⟨hq1,hq2,hq3,hq4⟩:=hSt.num q hqk
      have hil:i < rs.length:=(List.getElem?_eq_some_iff.1 hq).1
      have hrl:(rs.eraseIdx i).length=rs.length - 1:=by rw [List.length_eraseIdx]; simp [hil]
      have hent:=ent_at (H:=G ++ .map shS ver' (encE ev2 (tr nx)) :: .iter ms[h] ver (encE ev2 (tr (rs.eraseIdx i))) (some (ev2 q,.bool true)) :: J) (b:=G.length + 1) (sh:=shS) (by simp -implicitDefEqProofs only [sw0,sw1,sw2,sw3,sw4,sw5,reduceCtorEq,Nat.reduceEqDiff,Nat.reduceAdd,Nat.reduceDiv,Nat.reduceLeDiff]; rfl) (hverG _)
      simp -implicitDefEqProofs only [sw0,sw1,sw2,sw3,sw4,sw5,reduceCtorEq,Nat.reduceEqDiff,Nat.reduceAdd,Nat.reduceDiv,Nat.reduceLeDiff,fq28.n8_w,hent,hrowG,h4.len,colds_len]
      refine fq28.n9_l (fun m s4 s=>∃ (n:Nat) (nx':List (Int × Int)) (ver2:Nat),s4=iv n∧s=⟨G ++ (.map shS ver2 (encE ev2 (tr nx')) :: .iter ms[h] ver (encE ev2 (tr (rs.eraseIdx i))) (some (ev2 q,.bool true)) :: (J ++ [.cells [iv q.1,iv q.2]])),false⟩∧m=N - n∧n≤N ∧
          (∀ x,x ∈ nx→x ∈ nx')∧Img p h q nx' n∧nx'.Nodup∧nx'.length≤nx.length + n∧(∀ q,q ∈ nx'→p.low≤q.1∧q.1≤p.high∧0≤q.2∧q.2 < N)) N (by simp -implicitDefEqProofs only []; omega)
        ⟨0,nx,ver',rfl,rfl,by omega,by omega,fun x hx=>hx,fun n hn=>absurd hn (by omega),hnd,by omega,hnb⟩ ?_
      rintro m'' r4 r10 r11 s ⟨n,nx',ver2,rfl,rfl,rfl,hnN,hsub,himg,hnd',hnl',hnb'⟩
      simp -implicitDefEqProofs only [fq28.n10_w,sw0,sw1,sw2,sw3,sw4,sw5,reduceCtorEq,Nat.reduceEqDiff,Nat.reduceAdd,Nat.reduceDiv,Nat.reduceLeDiff,← hN]
      split
      · rename_i hlt2
        have hlt2:n < N:=by omega
        have hpx:=hpG.app (L:=.map shS ver2 (encE ev2 (tr nx')) :: .iter ms[h] ver (encE ev2 (tr (rs.eraseIdx i))) (some (ev2 q,.bool true)) :: (J ++ [.cells [iv q.1,iv q.2]]))
        simp -implicitDefEqProofs only [fq28.n12_w,sw0,sw1,sw2,sw3,sw4,sw5,reduceCtorEq,Nat.reduceEqDiff,Nat.reduceAdd,Nat.reduceDiv,Nat.reduceLeDiff,heat_s (k:=k) (by omega) hpx ho hlt (show n < 2 ^ p.machs.length by omega) (show -100000000≤q.1∧q.1≤100000000 by omega),hrowG]
        split
        · rename_i hle
          have hupd:eMupd (some H.length) ⟨G ++ .map shS ver2 (encE ev2 (tr nx')) :: .iter ms[h] ver (encE ev2 (tr (rs.eraseIdx i))) (some (ev2 q,.bool true)) :: (J ++ [.cells [iv q.1,iv q.2]]),false⟩ shS (.map G.length) (.agg [iv (p.heatBy h q.1 n),iv n]) (.bool true) =
              some ⟨G ++ .map shS (ver2 + 1) (encE ev2 (tr (insK nx' (p.heatBy h q.1 n,(n:Int))))) :: .iter ms[h] ver (encE ev2 (tr (rs.eraseIdx i))) (some (ev2 q,.bool true)) :: (J ++ [.cells [iv q.1,iv q.2]]),false⟩:=by
            have:=upd_at key_iv2 (H:=G ++ .map shS ver2 (encE ev2 (tr nx')) :: .iter ms[h] ver (encE ev2 (tr (rs.eraseIdx i))) (some (ev2 q,.bool true)) :: (J ++ [.cells [iv q.1,iv q.2]])) (c:=G.length) (ver:=ver2) (by simp -implicitDefEqProofs only [sw0,sw1,sw2,sw3,sw4,sw5,reduceCtorEq,Nat.reduceEqDiff,Nat.reduceAdd,Nat.reduceDiv,Nat.reduceLeDiff]; rfl) (base:=some H.length) (lk:=false) (p.heatBy h q.1 n,(n:Int)) (v:=.bool true) rfl
            rw [tr_ins] at this
            refine this.trans ?_
            simp -implicitDefEqProofs only [sw0,sw1,sw2,sw3,sw4,sw5,reduceCtorEq,Nat.reduceEqDiff,Nat.reduceAdd,Nat.reduceDiv,Nat.reduceLeDiff]
          have hlo:p.low≤p.heatBy h q.1 n:=by unfold Plt.heatBy; omega
          simp -implicitDefEqProofs only [fq28.n13_w,sw0,sw1,sw2,sw3,sw4,sw5,reduceCtorEq,Nat.reduceEqDiff,Nat.reduceAdd,Nat.reduceDiv,Nat.reduceLeDiff,hupd,fq28.n14_w]
          refine fq28.n9_go (m':=N - (n + 1)) (by omega) ⟨n + 1,_,_,by rw [wrap64 (by omega)]; rfl,rfl,rfl,by omega,fun x hx=>insK_mem.2 (.inl (hsub x hx)),?_,insK_nodup hnd',by have:=insK_len (ks:=nx') (q:=(p.heatBy h q.1 n,(n:Int))); omega,?_⟩
          · intro n' hn' hh'
            by_cases e:n'=n
            · subst e; exact insK_mem.2 (.inr rfl)
            · exact insK_mem.2 (.inl (himg n' (by omega) hh'))
          · intro x hx
            rcases insK_mem.1 hx with hx | rfl
            · exact hnb' x hx
            · exact ⟨hlo,hle,by simp,by simp; omega⟩
        · rename_i hle
          simp -implicitDefEqProofs only [sw0,sw1,sw2,sw3,sw4,sw5,reduceCtorEq,Nat.reduceEqDiff,Nat.reduceAdd,Nat.reduceDiv,Nat.reduceLeDiff,fq28.n14_w]
          refine fq28.n9_go (m':=N - (n + 1)) (by omega) ⟨n + 1,nx',ver2,by rw [wrap64 (by omega)]; rfl,rfl,rfl,by omega,hsub,?_,hnd',by omega,hnb'⟩
          intro n' hn' hh'
          by_cases e:n'=n
          · subst e; exact absurd hh' hle
          · exact himg n' (by omega) hh'
      · rename_i hge2
        have hnN:n=N:=by omega
        subst hnN
        refine fq28.n5_go (m':=(rs.eraseIdx i).length) (by omega) ⟨rs.eraseIdx i,nx',ver2,_,_,rfl,rfl,fun x hx=>hrs1 x (List.mem_of_mem_eraseIdx hx),?_,hnd',by omega,hnb'⟩
        intro x hx
        rcases hrs2 x hx with hx2 | hx2
        · rcases mem_erase_or hq hx2 with rfl | hx3
          · exact .inr himg
          · exact .inl hx3
        · exact .inr (fun n' hn' hh'=>hsub _ (hx2 n' hn' hh'))
  · rename_i hge
    have hhe:h=p.loads.length:=by omega
    simp -implicitDefEqProofs only [fq28.n17_w,fq28.ret]
    have hcl:=hA.lts.1
    have hu:AV.under H.length (.sref c 0 ms.length (ms.length * 1) 1)=false:=by simp [AV.under]; omega
    subst hG
    simp -implicitDefEqProofs only [sw0,sw1,sw2,sw3,sw4,sw5,reduceCtorEq,Nat.reduceEqDiff,Nat.reduceAdd,Nat.reduceDiv,Nat.reduceLeDiff,hu]
    exact hK L c ms kss hA (by omega) hcH
end Go.Proofs.YtcebebhaahpoiaaDoor
end
section
namespace Go.Proofs.YtcebebhaahpoiaaDoor
open Go Go.Ai Go.W
attribute [local irreducible] VC YC WC
set_option linter.unusedSimpArgs false
set_option linter.unusedVariables false
set_option maxRecDepth 10000
variable {k:Nat} {b:Option Nat} {H:List AObj} {lk:Bool} {K:AV→St→Prop}
def chV (q:Int × Nat):AV:=.agg [iv q.1,iv q.2]
structure GoodCh (p:Plt) (i:Nat) (ks:List (Int × Int)) (l:List ((Int × Int) × AV)):Prop where
  val:∀ q,q ∈ ks→lkp l q=(best p (p.loads.length - i) i q.1 q.2.toNat).map chV
  keys:∀ q,(lkp l q).isSome=true→q ∈ ks
structure Out (B:Nat) (G:List AObj) (co j:Nat) (p:Plt) (kss:List (List (Int × Int))):Prop where
  row:∃ cs,G[co]?=some (.cells cs)∧cs.length=p.loads.length + 1∧∀ i (hi:i < kss.length),j≤i→∃ o l,B≤o∧cs[i]?=some (.map o)∧MapAt G o shS ev2 l∧GoodCh p i kss[i] l
theorem mapAt_keep {κ:Type} [DecidableEq κ] {sh:Sh} {ek:κ→AV} {G G':List AObj} {co o:Nat} {l:List (κ × AV)} (h:MapAt G o sh ek l) (hco:∃ cs,G[co]?=some (.cells cs)) (hk:∀ d,d < G.length→d ≠ co→G'[d]?=G[d]?):MapAt G' o sh ek l:=by
  obtain ⟨ver,hv⟩:=h.how
  obtain ⟨cs,hc⟩:=hco
  exact ⟨ver,(hk o h.lt (fun e=>by rw [e,hc] at hv; cases hv)).trans hv⟩
theorem nodup_erase {α:Type} {l:List α} {i:Nat} (h:l.Nodup) (hi:i < l.length):l[i] ∉ l.eraseIdx i:=by
  rw [List.mem_eraseIdx_iff_getElem]
  rintro ⟨j,hj,hne,e⟩
  exact hne ((List.getElem_inj h).1 e)
theorem AllAt.keep {G G':List AObj} {c co:Nat} {ms kss p} (h:AllAt G c ms kss p) (hco:∃ cs,G[co]?=some (.cells cs)) (hne:c ≠ co) (hk:∀ d,d < G.length→d ≠ co→G'[d]?=G[d]?):AllAt G' c ms kss p :=
  ⟨(hk c h.lts.1 hne).trans h.row,h.len,fun i h1 h2=>⟨mapAt_keep (h.maps i h1 h2).1 hco hk,(h.maps i h1 h2).2⟩,h.start,h.step⟩
theorem AllAt.keep0 {G L:List AObj} {c:Nat} {ms kss p} (h:AllAt G c ms kss p):AllAt (G ++ L) c ms kss p :=
  ⟨get_app h.row,h.len,fun i h1 h2=>⟨(h.maps i h1 h2).1.app,(h.maps i h1 h2).2⟩,h.start,h.step⟩
structure ChAt (B:Nat) (G:List AObj) (c:Nat) (p:Plt):Prop where
  how:∃ kss:List (List (Int × Int)),kss.length=p.loads.length + 1∧kss[0]?=some [(p.heat,0)]∧(∀ i (h:i + 1 < kss.length) q,q ∈ kss[i]→Img p i q kss[i + 1] (2 ^ p.machs.length))∧(∀ i (h:i < kss.length),RSt p i kss[i])∧Out B G c 0 p kss
theorem choices_hours {px ca co:Nat} {p:Plt} (hk:16 ^ 50≤k) (ho:p.Ok) {ms:List Nat} {kss:List (List (Int × Int))} (hml:ms.length=p.loads.length + 1) (hkl:kss.length=p.loads.length + 1) (hca:H.length≤ca) (hcac:ca < co)
    {Q:AExit→Regs→St→Prop} {G:List AObj} {j:Nat} {r3 r6 r7 r8 r9 r10 r11 r12 r13 r14 r15 r16 r17 r18 r19 r20 r21 r22 r23 r24 r25 r26 r27:AV} (hj:j≤p.loads.length) (hG:∃ L,G=H ++ L) (hpH:PX H px p) (hA:AllAt G ca ms kss p) (hO:Out H.length G co j p kss)
    (hQ:∀ G,(∃ L,G=H ++ L)→Out H.length G co 0 p kss→∀ r2 r3 r6 r7 r8 r9 r10 r11 r12 r13 r14 r15 r16 r17 r18 r19 r20 r21 r22 r23 r24 r25 r26 r27,Q (.exit 2) [.ptr px 0 8,.slice true 0 [],r2,r3,.sref ca 0 ms.length (ms.length * 1) 1,.sref co 0 ms.length (ms.length * 1) 1,r6,r7,r8,r9,r10,r11,r12,r13,r14,r15,r16,r17,r18,r19,r20,r21,r22,r23,r24,r25,r26,r27] ⟨G,false⟩) :
    WC ⟨prog,k,some H.length⟩ fq25.n6 [.ptr px 0 8,.slice true 0 [],iv ((j:Int) - 1),r3,.sref ca 0 ms.length (ms.length * 1) 1,.sref co 0 ms.length (ms.length * 1) 1,r6,r7,r8,r9,r10,r11,r12,r13,r14,r15,r16,r17,r18,r19,r20,r21,r22,r23,r24,r25,r26,r27] ⟨G,false⟩ Q:=by
  have e50:(16:Nat) ^ 50=1606938044258990275541962092341162602522202993782792835301376:=by decide
  have e49:(16:Nat) ^ 49=100433627766186892221372630771322662657637687111424552206336:=by decide
  have hhrs:=ho.hours
  obtain ⟨N,hN⟩:∃ N,N=2 ^ p.machs.length:=⟨_,rfl⟩
  have hN16:N≤16:=by rw [hN]; exact Nat.pow_le_pow_right (by omega) ho.few
  obtain ⟨vl,vp,vm,vc,vw,hc,h1,h2,h3,h4,h5⟩:=hpH.how
  have hrowH:row H px 8=some [iv p.heat,iv p.low,iv p.high,vl,vp,vm,vc,vw]:=row_of hc rfl
  refine fq25.n6_l (fun m r2 s=>∃ (G:List AObj) (j:Nat),r2=iv ((j:Int) - 1)∧s=⟨G,false⟩∧(∃ L,G=H ++ L)∧j≤p.loads.length∧m=j∧AllAt G ca ms kss p∧Out H.length G co j p kss) j (by simp -implicitDefEqProofs only []; omega) ⟨G,j,rfl,rfl,hG,hj,rfl,hA,hO⟩ ?_
  clear hj hG hA hO
  rintro m r2 r3 r6 r7 r8 r9 r10 r11 r12 r13 r14 r15 r16 r17 r18 r19 r20 r21 r22 r23 r24 r25 r26 r27 s ⟨G,j,rfl,rfl,⟨L,hG⟩,hj,rfl,hA,hO⟩
  simp -implicitDefEqProofs only [fq25.n7_w,sw0,sw1,sw2,sw3,sw4,sw5,reduceCtorEq,Nat.reduceEqDiff,Nat.reduceAdd,Nat.reduceDiv,Nat.reduceLeDiff]
  split
  · rename_i hge
    obtain ⟨h,rfl⟩:∃ h,m=h + 1:=⟨m - 1,by omega⟩
    have e1:((h + 1:Nat):Int) - 1=(h:Nat):=by omega
    have hhm:h < ms.length:=by omega
    have hhk:h < kss.length:=by omega
    obtain ⟨cs,hcs,hcl,hcv⟩:=hO.row
    have hrowc:∀ L',row (G ++ L') co (ms.length * 1)=some cs:=fun L'=>row_app (row_of hcs (by omega))
    have hcoG:co < G.length:=(List.getElem?_eq_some_iff.1 hcs).1
    have hGH:H.length≤G.length:=by rw [hG]; simp
    have hcoH:(co < H.length)=False:=by simp; omega
    have hle1:h * 1 + 1≤cs.length:=by omega
    have hset:∀ X o,(G ++ X).set co o=G.set co o ++ X:=fun X o=>List.set_append_left _ _ hcoG
    rw [e1]
    obtain ⟨cs',hcs'⟩:∃ cs',cs'=cs.set (h * 1) (.map G.length):=⟨_,rfl⟩
    obtain ⟨G',hG'⟩:∃ G',G'=G.set co (.cells cs'):=⟨_,rfl⟩
    have hG'l:G'.length=G.length:=by rw [hG']; simp
    have hkeep:∀ d,d < G.length→d ≠ co→G'[d]?=G[d]?:=fun d _ hne=>by rw [hG',List.getElem?_set_ne (fun e=>hne e.symm)]
    have hco':G'[co]?=some (.cells cs'):=by rw [hG',List.getElem?_set_self hcoG]
    have hcs'l:cs'.length=ms.length:=by rw [hcs',List.length_set]; omega
    have hA':AllAt G' ca ms kss p:=hA.keep ⟨cs,hcs⟩ (by omega) hkeep
    have hGp':∃ L,G'=H ++ L:=⟨L.set (co - H.length) (.cells cs'),by rw [hG',hG,List.set_append_right _ _ (by omega)]⟩
    have hpG':PX G' px p:=by obtain ⟨L',e⟩:=hGp'; rw [e]; exact hpH.app
    have hrow':∀ L',row (G' ++ L') px 8=some [iv p.heat,iv p.low,iv p.high,vl,vp,vm,vc,vw]:=fun L'=>by obtain ⟨L2,e⟩:=hGp'; rw [e]; exact row_app (row_app hrowH)
    have hrowc':∀ L',row (G' ++ L') co (ms.length * 1)=some cs':=fun L'=>row_app (row_of hco' (by omega))
    have hrca':∀ L',row (G' ++ L') ca (ms.length * 1)=some (ms.map .map):=fun L'=>row_app (row_of hA'.row (by simp))
    have hgh:(ms.map AV.map)[h * 1]?=some (.map ms[h]):=by simp [hhm]
    obtain ⟨hMap,hSt⟩:=hA'.maps h hhm hhk
    obtain ⟨ver,hver⟩:=hMap.how
    have hver':∀ L',(G' ++ L')[ms[h]]?=some (.map shS ver (encE ev2 (tr kss[h]))):=fun L'=>get_app hver
    have hrng:eRange ⟨G' ++ [.map shS 0 []],false⟩ (.map ms[h])=some (.iter (G'.length + 1),⟨G' ++ [.map shS 0 [],.iter ms[h] ver (encE ev2 (tr kss[h])) none],false⟩):=by
      have:=rng_at (lk:=false) (hver' [.map shS 0 []])
      rw [this]
      simp -implicitDefEqProofs only [sw0,sw1,sw2,sw3,sw4,sw5,reduceCtorEq,Nat.reduceEqDiff,Nat.reduceAdd,Nat.reduceDiv,Nat.reduceLeDiff]

    obtain ⟨o1,l1,_,ho1,hl1,hg1⟩:=hcv (h + 1) (by omega) (by omega)
    have hl1':MapAt G' o1 shS ev2 l1:=mapAt_keep hl1 ⟨cs,hcs⟩ hkeep
    have ho1':cs'[(h + 1) * 1]?=some (.map o1):=by rw [hcs',List.getElem?_set_ne (by omega),Nat.mul_one]; exact ho1
    have hoh':cs'[h * 1]?=some (.map G'.length):=by rw [hcs',List.getElem?_set_self (by omega),hG'l]
    have hG'n:∀ i,(G'.length + i < H.length)=False:=fun i=>by simp; omega
    have hh1m:h + 1 < ms.length:=by omega
    have hr:p.loads.length - h=(p.loads.length - (h + 1)) + 1:=by omega
    simp -implicitDefEqProofs only [fq25.n9_w,sw0,sw1,sw2,sw3,sw4,sw5,reduceCtorEq,Nat.reduceEqDiff,Nat.reduceAdd,Nat.reduceDiv,Nat.reduceLeDiff,hrowc,hhm,hle1,hcoH,hset,← hcs',← hG',hrca',hgh,hrng]
    refine fq25.n10_l (fun m s=>∃ (rs:List (Int × Int)) (lch:List ((Int × Int) × AV)) (ver':Nat) (lst:Option (AV × AV)) (J:List AObj),s=⟨G' ++ (.map shS ver' (encE ev2 lch) :: .iter ms[h] ver (encE ev2 (tr rs)) lst :: J),false⟩∧m=rs.length∧(∀ q,q ∈ rs→q ∈ kss[h])∧rs.Nodup ∧
        (∀ q,q ∈ kss[h]→q ∈ rs∨lkp lch q=(best p (p.loads.length - h) h q.1 q.2.toNat).map chV)∧(∀ q,q ∈ rs→lkp lch q=none)∧(∀ q,(lkp lch q).isSome=true→q ∈ kss[h]))
      kss[h].length ?_ ⟨kss[h],[],0,none,[],rfl,rfl,fun q hq=>hq,hSt.nodup,fun q hq=>.inl hq,fun q hq=>rfl,fun q hq=>by cases hq⟩ ?_
    · have:=hSt.len
      have h48:(16:Nat) ^ h≤16 ^ 49:=Nat.pow_le_pow_right (by omega) (by omega)
      simp -implicitDefEqProofs only []
      omega
    rintro m' r3 r7 r8 r9 r10 r11 r12 r13 r14 r15 r16 r17 r18 r19 r20 r21 r22 r23 r24 r25 r26 r27 s ⟨rs,lch,ver',lst,J,rfl,rfl,hrs1,hrn,hrs2,hrs3,hkeys⟩
    simp -implicitDefEqProofs only [fq25.n11_w]
    refine VN_it (sh:=shS) (es:=encE ev2 (tr kss[h])) (by simp -implicitDefEqProofs only [sw0,sw1,sw2,sw3,sw4,sw5,reduceCtorEq,Nat.reduceEqDiff,Nat.reduceAdd,Nat.reduceDiv,Nat.reduceLeDiff]; rfl) (hver' _) ?_ ?_
    · intro hnil
      have hr0:=enc_nil hnil
      subst hr0
      simp -implicitDefEqProofs only [sw0,sw1,sw2,sw3,sw4,sw5,reduceCtorEq,Nat.reduceEqDiff,Nat.reduceAdd,Nat.reduceDiv,Nat.reduceLeDiff,fq25.n22_w]
      refine fq25.n6_go (m':=h) (by omega) ⟨_,h,by rw [wrap64 (by omega)],rfl,?_,by omega,rfl,hA'.keep0,?_⟩
      · obtain ⟨L',e⟩:=hGp'
        exact ⟨L' ++ (AObj.map shS ver' (encE ev2 lch) :: AObj.iter ms[h] ver (encE ev2 (tr [])) lst :: J),by rw [e]; simp⟩
      · refine ⟨cs',get_app hco',by omega,fun i hi hji=>?_⟩
        by_cases e:i=h
        · subst e
          refine ⟨G'.length,lch,by omega,by rw [← Nat.mul_one i]; exact hoh',⟨ver',by simp -implicitDefEqProofs only [sw0,sw1,sw2,sw3,sw4,sw5,reduceCtorEq,Nat.reduceEqDiff,Nat.reduceAdd,Nat.reduceDiv,Nat.reduceLeDiff]⟩,⟨fun q hq=>?_,hkeys⟩⟩
          rcases hrs2 q hq with h9 | h9
          · cases h9
          · exact h9
        · obtain ⟨o,l,a0,a1,a2,a3⟩:=hcv i hi (by omega)
          refine ⟨o,l,a0,?_,(mapAt_keep a2 ⟨cs,hcs⟩ hkeep).app,a3⟩
          rw [hcs',List.getElem?_set_ne (by omega)]
          exact a1
    · intro i k' v hi
      obtain ⟨q,hq,rfl,rfl⟩:=enc_at hi
      rw [enc_erase]
      have hqk:=hrs1 q (List.mem_of_getElem? hq)
      obtain ⟨hq1,hq2,hq3,hq4⟩:=hSt.num q hqk
      have hil:i < rs.length:=(List.getElem?_eq_some_iff.1 hq).1
      have hrl:(rs.eraseIdx i).length=rs.length - 1:=by rw [List.length_eraseIdx]; simp [hil]
      have hent:=ent_at (H:=G' ++ .map shS ver' (encE ev2 lch) :: .iter ms[h] ver (encE ev2 (tr (rs.eraseIdx i))) (some (ev2 q,.bool true)) :: J) (b:=G'.length + 1) (sh:=shS) (by simp -implicitDefEqProofs only [sw0,sw1,sw2,sw3,sw4,sw5,reduceCtorEq,Nat.reduceEqDiff,Nat.reduceAdd,Nat.reduceDiv,Nat.reduceLeDiff]; rfl) (hver' _)
      simp -implicitDefEqProofs only [sw0,sw1,sw2,sw3,sw4,sw5,reduceCtorEq,Nat.reduceEqDiff,Nat.reduceAdd,Nat.reduceDiv,Nat.reduceLeDiff,fq25.n13_w,hent,hrow',h4.len,colds_len]
      rw [← hN]
      obtain ⟨t,oi⟩:=q
      obtain ⟨o,rfl⟩:=Int.eq_ofNat_of_zero_le hq3
      dsimp only at hq1 hq2 hq3 hq4 ⊢
      have hoN:o < N:=by omega
      have hlk:∀ n,n < N→lkp l1 (p.heatBy h t n,(n:Int))=(if p.heatBy h t n≤p.high then best p (p.loads.length - (h + 1)) (h + 1) (p.heatBy h t n) n else none).map chV:=by
        intro n hn
        split
        · rename_i hle
          have:=hg1.val _ (hA'.step h (by omega) _ hqk n (by omega) hle)
          simpa using this
        · rename_i hle
          cases hx:lkp l1 (p.heatBy h t n,(n:Int)) with
          | none=>rfl
          | some v =>
            have hm:=hg1.keys _ (by rw [hx]; rfl)
            have:=((hA'.maps (h + 1) (by omega) (by omega)).2.num _ hm).2.1
            exact absurd this hle
      refine fq25.n14_l (fun m s3 s=>∃ (n:Nat) (lch2:List ((Int × Int) × AV)) (ver2:Nat) (J1:List AObj),s3=iv n∧s=⟨G' ++ (.map shS ver2 (encE ev2 lch2) :: .iter ms[h] ver (encE ev2 (tr (rs.eraseIdx i))) (some (ev2 (t,(o:Int)),.bool true)) :: (J ++ (.cells [iv t,iv o] :: J1))),false⟩∧m=N - n∧n≤N ∧
          lkp lch2 (t,(o:Int))=(minF (bval p (p.loads.length - (h + 1)) h t o) n).map chV∧(∀ x,x ≠ (t,(o:Int))→lkp lch2 x=lkp lch x)) N (by simp -implicitDefEqProofs only []; omega)
        ⟨0,lch,ver',[],rfl,rfl,by omega,by omega,(hrs3 _ (List.mem_of_getElem? hq)).trans rfl,fun x hx=>rfl⟩ ?_
      rintro m'' r3 r9 r10 r11 r12 r13 r14 r15 r16 r17 r18 r19 r20 r21 r22 r23 r24 r25 r26 r27 s ⟨n,lch2,ver2,J1,rfl,rfl,rfl,hnN,hval,hoth⟩
      simp -implicitDefEqProofs only [fq25.n15_w,sw0,sw1,sw2,sw3,sw4,sw5,reduceCtorEq,Nat.reduceEqDiff,Nat.reduceAdd,Nat.reduceDiv,Nat.reduceLeDiff]
      split
      · rename_i hlt2
        have hlt2:n < N:=by omega
        have hlkn:=hlk n hlt2
        have hpx:=hpG'.app (L:=.map shS ver2 (encE ev2 lch2) :: .iter ms[h] ver (encE ev2 (tr (rs.eraseIdx i))) (some (ev2 (t,(o:Int)),.bool true)) :: (J ++ (.cells [iv t,iv o] :: (J1 ++ [.cells [iv 0,iv 0]]))))
        obtain ⟨B,hB⟩:∃ B,B=(if p.heatBy h t n≤p.high then best p (p.loads.length - (h + 1)) (h + 1) (p.heatBy h t n) n else none):=⟨_,rfl⟩
        rw [← hB] at hlkn
        have hbv:bval p (p.loads.length - (h + 1)) h t o n=B.map (fun q=>q.1 + p.costBy h o n):=by
          rw [hB]; unfold bval; split <;> rfl
        have hlook:=look_at key_iv2 (hl1'.app (L:=.map shS ver2 (encE ev2 lch2) :: .iter ms[h] ver (encE ev2 (tr (rs.eraseIdx i))) (some (ev2 (t,(o:Int)),.bool true)) :: (J ++ (.cells [iv t,iv o] :: (J1 ++ [.cells [iv 0,iv 0]]))))) (zero:=.agg [iv 0,iv 0]) (ok:=true) (p.heatBy h t n,(n:Int))
        rw [hlkn] at hlook
        simp -implicitDefEqProofs only [ev2,if_true] at hlook
        have hw1:IntKind.i64.wrap ((h:Int) + 1)=((h + 1:Nat):Int):=by rw [wrap64 (by omega)]; rfl
        have hw2:IntKind.i64.wrap ((n:Int) + 1)=((n + 1:Nat):Int):=by rw [wrap64 (by omega)]; rfl
        have hheat:=fun (K:AV→St→Prop)=>heat_s (K:=K) (k:=k) (b:=some H.length) (lk:=false) (by omega) hpx ho (show h < p.loads.length by omega) (show n < 2 ^ p.machs.length by omega) (show -100000000≤t∧t≤100000000 by have:=ho.low; have:=ho.high; omega)
        cases hBc:B with
        | none =>
          rw [hBc] at hlook hbv
          simp -implicitDefEqProofs only [Option.map_none,Option.getD_none,Option.isSome_none] at hlook hbv
          simp -implicitDefEqProofs only [fq25.n17_w,sw0,sw1,sw2,sw3,sw4,sw5,reduceCtorEq,Nat.reduceEqDiff,Nat.reduceAdd,Nat.reduceDiv,Nat.reduceLeDiff,hw1,hrowc',hh1m,ho1',hheat,hlook,fq25.n21_w,hw2]
          refine fq25.n14_go (m':=N - (n + 1)) (by omega) ⟨n + 1,lch2,ver2,_,rfl,rfl,rfl,by omega,?_,hoth⟩
          rw [hval]
          simp -implicitDefEqProofs only [minF,hbv]
        | some cm =>
          obtain ⟨c0,m0⟩:=cm
          rw [hBc] at hlook hbv hB
          simp -implicitDefEqProofs only [Option.map_some,Option.getD_some,Option.isSome_some,chV] at hlook hbv
          have hbl:0≤c0∧c0≤(p.loads.length - (h + 1):Nat) * 4000004000000:=by
            split at hB
            · exact best_le ho _ _ _ _ c0 m0 (by omega) hB.symm
            · cases hB
          have hcl:=costBy_le ho (show h < p.loads.length by omega) o n
          have hpx2:=hpG'.app (L:=.map shS ver2 (encE ev2 lch2) :: .iter ms[h] ver (encE ev2 (tr (rs.eraseIdx i))) (some (ev2 (t,(o:Int)),.bool true)) :: (J ++ (.cells [iv t,iv o] :: (J1 ++ [.cells [iv c0,iv m0],.cells [iv 0,iv 0]]))))
          have hcost:=fun (K:AV→St→Prop)=>cost_s (K:=K) (k:=k) (b:=some H.length) (lk:=false) (by omega) hpx2 ho (show h < p.loads.length by omega) (show n < 2 ^ p.machs.length by omega) (show o < 2 ^ p.machs.length by omega)
          have hlook2:=look_at key_iv2 (H:=G' ++ .map shS ver2 (encE ev2 lch2) :: .iter ms[h] ver (encE ev2 (tr (rs.eraseIdx i))) (some (ev2 (t,(o:Int)),.bool true)) :: (J ++ (.cells [iv t,iv o] :: (J1 ++ [.cells [iv c0,iv m0],.cells [iv (c0 + p.costBy h o n),iv n],.cells [iv 0,iv 0]])))) (c:=G'.length) (l:=lch2) ⟨ver2,by simp -implicitDefEqProofs only [sw0,sw1,sw2,sw3,sw4,sw5,reduceCtorEq,Nat.reduceEqDiff,Nat.reduceAdd,Nat.reduceDiv,Nat.reduceLeDiff]⟩ (zero:=.agg [iv 0,iv 0]) (ok:=true) (t,(o:Int))
          rw [hval] at hlook2
          simp -implicitDefEqProofs only [ev2,if_true] at hlook2
          have hw3:IntKind.i64.wrap (c0 + p.costBy h o n)=c0 + p.costBy h o n:=wrap64 (by omega)
          have hupd:∀ X,eMupd (some H.length) ⟨G' ++ .map shS ver2 (encE ev2 lch2) :: .iter ms[h] ver (encE ev2 (tr (rs.eraseIdx i))) (some (ev2 (t,(o:Int)),.bool true)) :: X,false⟩ shS (.map G'.length) (.agg [iv t,iv o]) (.agg [iv (c0 + p.costBy h o n),iv n]) =
              some ⟨G' ++ .map shS (ver2 + 1) (encE ev2 (ins lch2 (t,(o:Int)) (chV (c0 + p.costBy h o n,n)))) :: .iter ms[h] ver (encE ev2 (tr (rs.eraseIdx i))) (some (ev2 (t,(o:Int)),.bool true)) :: X,false⟩:=by
            intro X
            have:=upd_at key_iv2 (H:=G' ++ .map shS ver2 (encE ev2 lch2) :: .iter ms[h] ver (encE ev2 (tr (rs.eraseIdx i))) (some (ev2 (t,(o:Int)),.bool true)) :: X) (c:=G'.length) (ver:=ver2) (by simp -implicitDefEqProofs only [sw0,sw1,sw2,sw3,sw4,sw5,reduceCtorEq,Nat.reduceEqDiff,Nat.reduceAdd,Nat.reduceDiv,Nat.reduceLeDiff]; rfl) (base:=some H.length) (lk:=false) (t,(o:Int)) (v:=chV (c0 + p.costBy h o n,n)) rfl
            refine this.trans ?_
            simp -implicitDefEqProofs only [sw0,sw1,sw2,sw3,sw4,sw5,reduceCtorEq,Nat.reduceEqDiff,Nat.reduceAdd,Nat.reduceDiv,Nat.reduceLeDiff]
          obtain ⟨B2,hB2⟩:∃ B2,B2=minF (bval p (p.loads.length - (h + 1)) h t o) n:=⟨_,rfl⟩
          rw [← hB2] at hlook2 hval
          cases hBc2:B2 with
          | none =>
            rw [hBc2] at hlook2 hval hB2
            simp -implicitDefEqProofs only [Option.map_none,Option.getD_none,Option.isSome_none] at hlook2
            simp -implicitDefEqProofs only [fq25.n17_w,sw0,sw1,sw2,sw3,sw4,sw5,reduceCtorEq,Nat.reduceEqDiff,Nat.reduceAdd,Nat.reduceDiv,Nat.reduceLeDiff,hw1,hrowc',hh1m,ho1',hheat,hlook,fq25.n19_w,hcost,hw3,hhm,hoh',hlook2,fq25.n20_w,hupd,fq25.n21_w,hw2]
            refine fq25.n14_go (m':=N - (n + 1)) (by omega) ⟨n + 1,_,_,_,rfl,rfl,rfl,by omega,?_,?_⟩
            · rw [lkp_ins,if_pos rfl]
              simp -implicitDefEqProofs only [minF,hbv,← hB2,Option.map_some]
            · intro x hx
              rw [lkp_ins,if_neg hx]
              exact hoth x hx
          | some cm2 =>
            obtain ⟨c2,m2⟩:=cm2
            rw [hBc2] at hlook2 hval hB2
            simp -implicitDefEqProofs only [Option.map_some,Option.getD_some,Option.isSome_some,chV] at hlook2
            by_cases hlt3:c0 + p.costBy h o n < c2
            · simp -implicitDefEqProofs only [fq25.n17_w,sw0,sw1,sw2,sw3,sw4,sw5,reduceCtorEq,Nat.reduceEqDiff,Nat.reduceAdd,Nat.reduceDiv,Nat.reduceLeDiff,hw1,hrowc',hh1m,ho1',hheat,hlook,fq25.n19_w,hcost,hw3,hhm,hoh',hlook2,hlt3,fq25.n20_w,hupd,fq25.n21_w,hw2]
              refine fq25.n14_go (m':=N - (n + 1)) (by omega) ⟨n + 1,_,_,_,rfl,rfl,rfl,by omega,?_,?_⟩
              · rw [lkp_ins,if_pos rfl]
                simp -implicitDefEqProofs only [minF,hbv,← hB2,hlt3,if_true,Option.map_some]
              · intro x hx
                rw [lkp_ins,if_neg hx]
                exact hoth x hx
            · simp -implicitDefEqProofs only [fq25.n17_w,sw0,sw1,sw2,sw3,sw4,sw5,reduceCtorEq,Nat.reduceEqDiff,Nat.reduceAdd,Nat.reduceDiv,Nat.reduceLeDiff,hw1,hrowc',hh1m,ho1',hheat,hlook,fq25.n19_w,hcost,hw3,hhm,hoh',hlook2,hlt3,fq25.n21_w,hw2]
              refine fq25.n14_go (m':=N - (n + 1)) (by omega) ⟨n + 1,lch2,ver2,_,rfl,rfl,rfl,by omega,?_,hoth⟩
              rw [hval]
              simp -implicitDefEqProofs only [minF,hbv,← hB2,hlt3,if_false]
      · rename_i hge2
        have hnN:n=N:=by omega
        subst hnN
        refine fq25.n10_go (m':=(rs.eraseIdx i).length) (by omega) ⟨rs.eraseIdx i,lch2,ver2,_,_,rfl,rfl,fun x hx=>hrs1 x (List.mem_of_mem_eraseIdx hx),hrn.eraseIdx i,?_,?_,?_⟩
        · intro x hx
          by_cases hxq:x=(t,(o:Int))
          · subst hxq
            refine .inr ?_
            rw [hval,hr,best_succ,← hN]
            rfl
          · rcases hrs2 x hx with hx2 | hx2
            · rcases mem_erase_or hq hx2 with rfl | hx3
              · exact absurd rfl hxq
              · exact .inl hx3
            · exact .inr ((hoth x hxq).trans hx2)
        · intro x hx
          have hxq:x ≠ (t,(o:Int)):=by
            rintro rfl
            have hq2:rs[i]=(t,(o:Int)):=by rw [List.getElem?_eq_getElem hil] at hq; simpa using hq
            exact absurd hx (by rw [← hq2]; exact nodup_erase hrn hil)
          rw [hoth x hxq]
          exact hrs3 x (List.mem_of_mem_eraseIdx hx)
        · intro x hx
          by_cases hxq:x=(t,(o:Int))
          · subst hxq; exact hqk
          · rw [hoth x hxq] at hx; exact hkeys x hx
  · rename_i hlt
    have hz:m=0:=by omega
    subst hz
    exact hQ G ⟨L,hG⟩ hO _ _ _ _ _ _ _ _ _ _ _ _ _ _ _ _ _ _ _ _ _ _ _ _
theorem ChAt.keep {B:Nat} {G G':List AObj} {c:Nat} {p:Plt} (h:ChAt B G c p) (hc:B≤c) (hs:Same B G G'):ChAt B G' c p:=by
  obtain ⟨kss,a1,a2,a3,a4,a5⟩:=h.how
  obtain ⟨cs,b1,b2,b3⟩:=a5.row
  have hlt:c < G.length:=(List.getElem?_eq_some_iff.1 b1).1
  refine ⟨kss,a1,a2,a3,a4,⟨cs,(hs c hc hlt).trans b1,b2,fun i hi hji=>?_⟩⟩
  obtain ⟨o,l,d0,d1,d2,d3⟩:=b3 i hi hji
  obtain ⟨ver,hv⟩:=d2.how
  exact ⟨o,l,d0,d1,⟨ver,(hs o d0 d2.lt).trans hv⟩,d3⟩
theorem choices_s (hk:16 ^ 51≤k) {px:Nat} {p:Plt} (hp:PX H px p) (ho:p.Ok)
    (hK:∀ L c,ChAt H.length (H ++ L) c p→H.length≤c→K (.sref c 0 (p.loads.length + 1) ((p.loads.length + 1) * 1) 1) ⟨H ++ L,lk⟩):VC ⟨prog,k,b⟩ F_fq25 [.ptr px 0 8] ⟨H,lk⟩ K:=by
  have e51:(16:Nat) ^ 51=25711008708143844408671393477458601640355247900524685364822016:=by decide
  have e50:(16:Nat) ^ 50=1606938044258990275541962092341162602522202993782792835301376:=by decide
  have e49:(16:Nat) ^ 49=100433627766186892221372630771322662657637687111424552206336:=by decide
  obtain ⟨k,rfl⟩:∃ j,k=j + 1:=⟨k - 1,by omega⟩
  obtain ⟨vl,vp,vm,vc,vw,hc,h1,h2,h3,h4,h5⟩:=hp.how
  have hrow:row H px 8=some [iv p.heat,iv p.low,iv p.high,vl,vp,vm,vc,vw]:=row_of hc rfl
  have hrowA:∀ L,row (H ++ L) px 8=some [iv p.heat,iv p.low,iv p.high,vl,vp,vm,vc,vw]:=fun L=>row_app hrow
  have hhrs:=ho.hours
  apply fq25.enter
  simp -implicitDefEqProofs only [fq25.n0_w]
  refine reached_s (k:=k) (by omega) hp ho ?_
  intro L ca ms kss hA hml hca
  obtain ⟨G,hG⟩:∃ G,G=H ++ L:=⟨_,rfl⟩
  rw [← hG] at hA ⊢
  have hGlen:H.length≤G.length:=by rw [hG]; simp
  have hpG:PX G px p:=by rw [hG]; exact hp.app
  have hrowG:∀ L',row (G ++ L') px 8=some [iv p.heat,iv p.low,iv p.high,vl,vp,vm,vc,vw]:=fun L'=>row_app (by rw [hG]; exact hrowA L)
  have hmk:eMksl ⟨G,false⟩ 1 8 [.nilmap] (.int .i64 (ms.length:Nat)) (.int .i64 (ms.length:Nat))=some (.sref G.length 0 ms.length (ms.length * 1) 1,⟨G ++ [.cells (List.replicate ms.length .nilmap)],false⟩):=by
    have hfl:∀ n,(List.replicate n [AV.nilmap]).flatten=List.replicate n AV.nilmap:=by
      intro n
      induction n with
      | zero=>rfl
      | succ n ih=>rw [List.replicate_succ,List.flatten_cons,ih,List.replicate_succ]; rfl
    simp -implicitDefEqProofs only [eMksl,Int.toNat_natCast,push,hfl]
    rw [if_pos ⟨trivial,by omega,by omega⟩]
  have hkl:kss.length=p.loads.length + 1:=hA.len.trans hml
  have hLm:p.loads.length < ms.length:=by omega
  have hLk:p.loads.length < kss.length:=by omega
  have hGn:(G.length < H.length)=False:=by simp; omega
  have hrca:∀ L',row (G ++ L') ca (ms.length * 1)=some (ms.map .map):=fun L'=>row_app (row_of hA.row (by simp))
  have hgL:(ms.map AV.map)[p.loads.length * 1]?=some (.map ms[p.loads.length]):=by simp [hLm]
  obtain ⟨hMapL,hStL⟩:=hA.maps _ hLm hLk
  obtain ⟨verL,hverL⟩:=hMapL.how
  obtain ⟨cs1,hcs1⟩:∃ cs1,cs1=(List.replicate ms.length AV.nilmap).set (p.loads.length * 1) (.map (G.length + 1)):=⟨_,rfl⟩
  have hcs1l:cs1.length=ms.length:=by rw [hcs1]; simp
  have hcs1g:cs1[p.loads.length * 1]?=some (.map (G.length + 1)):=by rw [hcs1,List.getElem?_set_self (by simp; omega)]
  have hrngL:eRange ⟨G ++ [.cells cs1,.map shS 0 []],false⟩ (.map ms[p.loads.length])=some (.iter (G.length + 2),⟨G ++ [.cells cs1,.map shS 0 [],.iter ms[p.loads.length] verL (encE ev2 (tr kss[p.loads.length])) none],false⟩):=by
    have:=rng_at (lk:=false) (get_app (L:=[.cells cs1,.map shS 0 []]) hverL)
    rw [this]
    simp -implicitDefEqProofs only [sw0,sw1,sw2,sw3,sw4,sw5,reduceCtorEq,Nat.reduceEqDiff,Nat.reduceAdd,Nat.reduceDiv,Nat.reduceLeDiff]
  have hle1:p.loads.length * 1 + 1≤ms.length:=by omega
  have hm1e:(ms.length=ms.length * 1)=True:=by simp
  simp -implicitDefEqProofs only [sw0,sw1,sw2,sw3,sw4,sw5,reduceCtorEq,Nat.reduceEqDiff,Nat.reduceAdd,Nat.reduceDiv,Nat.reduceLeDiff,hmk,hrowG,h1.len,List.length_replicate,hm1e,hLm,← hcs1,hrca,hgL,hGn,hrngL,hle1]

  obtain ⟨G1,hG1⟩:∃ G1,G1=G ++ [AObj.cells cs1]:=⟨_,rfl⟩
  have hG1l:G1.length=G.length + 1:=by rw [hG1]; simp
  have eG:∀ X,G ++ AObj.cells cs1 :: X=G1 ++ X:=fun X=>by rw [hG1]; simp
  rw [eG,← hG1l,show G.length + 2=G1.length + 1 by omega]
  have hrco:∀ X,row (G1 ++ X) G.length (ms.length * 1)=some cs1:=fun X=>by
    rw [hG1,List.append_assoc]; simp -implicitDefEqProofs only [sw0,sw1,sw2,sw3,sw4,sw5,reduceCtorEq,Nat.reduceEqDiff,Nat.reduceAdd,Nat.reduceDiv,Nat.reduceLeDiff,hcs1l]; simp
  have hrow1:∀ L',row (G1 ++ L') px 8=some [iv p.heat,iv p.low,iv p.high,vl,vp,vm,vc,vw]:=fun L'=>by rw [hG1,List.append_assoc]; exact hrowG _
  have hver1:∀ L',(G1 ++ L')[ms[p.loads.length]]?=some (.map shS verL (encE ev2 (tr kss[p.loads.length]))):=fun L'=>by rw [hG1,List.append_assoc]; exact get_app hverL
  have hG1n:∀ i,(G1.length + i < H.length)=False:=fun i=>by simp; omega
  refine fq25.n1_l (fun m s=>∃ (rs:List (Int × Int)) (lch:List ((Int × Int) × AV)) (ver':Nat) (lst:Option (AV × AV)) (J:List AObj),s=⟨G1 ++ (.map shS ver' (encE ev2 lch) :: .iter ms[p.loads.length] verL (encE ev2 (tr rs)) lst :: J),false⟩∧m=rs.length∧(∀ q,q ∈ rs→q ∈ kss[p.loads.length]) ∧
      (∀ q,q ∈ kss[p.loads.length]→q ∈ rs∨lkp lch q=some (chV (0,0)))∧(∀ q,(lkp lch q).isSome=true→q ∈ kss[p.loads.length]))
    kss[p.loads.length].length ?_ ⟨kss[p.loads.length],[],0,none,[],rfl,rfl,fun q hq=>hq,fun q hq=>.inl hq,fun q hq=>by cases hq⟩ ?_
  · have:=hStL.len
    have h48:(16:Nat) ^ p.loads.length≤16 ^ 49:=Nat.pow_le_pow_right (by omega) (by omega)
    simp -implicitDefEqProofs only []
    omega
  rintro m r7 r8 r9 s ⟨rs,lch,ver',lst,J,rfl,rfl,hrs1,hrs2,hkeys⟩
  simp -implicitDefEqProofs only [fq25.n2_w]
  refine VN_it (sh:=shS) (es:=encE ev2 (tr kss[p.loads.length])) (by simp -implicitDefEqProofs only [sw0,sw1,sw2,sw3,sw4,sw5,reduceCtorEq,Nat.reduceEqDiff,Nat.reduceAdd,Nat.reduceDiv,Nat.reduceLeDiff]; rfl) (hver1 _) ?_ ?_
  · intro hnil
    have hr0:=enc_nil hnil
    subst hr0
    simp -implicitDefEqProofs only [sw0,sw1,sw2,sw3,sw4,sw5,reduceCtorEq,Nat.reduceEqDiff,Nat.reduceAdd,Nat.reduceDiv,Nat.reduceLeDiff,fq25.n5_w,hrow1,h1.len]
    rw [wrap64 (by omega)]
    have hGp1:∃ L',G1 ++ (AObj.map shS ver' (encE ev2 lch) :: AObj.iter ms[p.loads.length] verL (encE ev2 (tr [])) lst :: J)=H ++ L':=by
      rw [hG1,hG]; exact ⟨_,by rw [List.append_assoc,List.append_assoc]⟩
    have hA1:AllAt (G1 ++ (AObj.map shS ver' (encE ev2 lch) :: AObj.iter ms[p.loads.length] verL (encE ev2 (tr [])) lst :: J)) ca ms kss p:=by
      rw [hG1,List.append_assoc]; exact hA.keep0
    refine choices_hours (k:=k) (H:=H) (by omega) ho hml hkl hca (by have:=hA.lts.1; omega) (Nat.le_refl _) hGp1 hp hA1 ?_ ?_
    · refine ⟨cs1,?_,by omega,fun i hi hji=>?_⟩
      · rw [hG1,List.append_assoc]; simp -implicitDefEqProofs only [sw0,sw1,sw2,sw3,sw4,sw5,reduceCtorEq,Nat.reduceEqDiff,Nat.reduceAdd,Nat.reduceDiv,Nat.reduceLeDiff]
      · have hie:i=p.loads.length:=by omega
        subst hie
        refine ⟨G1.length,lch,by omega,by rw [Nat.mul_one] at hcs1g; rw [hG1l]; exact hcs1g,⟨ver',by simp -implicitDefEqProofs only [sw0,sw1,sw2,sw3,sw4,sw5,reduceCtorEq,Nat.reduceEqDiff,Nat.reduceAdd,Nat.reduceDiv,Nat.reduceLeDiff]⟩,⟨fun q hq=>?_,hkeys⟩⟩
        rw [Nat.sub_self]
        rcases hrs2 q hq with h9 | h9
        · cases h9
        · exact h9
    · intro G2 hG2 hO2 r2 r3 r6 r7 r8 r9 r10 r11 r12 r13 r14 r15 r16 r17 r18 r19 r20 r21 r22 r23 r24 r25 r26 r27
      obtain ⟨L2,rfl⟩:=hG2
      have hu:AV.under H.length (.sref G.length 0 ms.length (ms.length * 1) 1)=false:=by simp [AV.under]; omega
      simp -implicitDefEqProofs only [sw0,sw1,sw2,sw3,sw4,sw5,reduceCtorEq,Nat.reduceEqDiff,Nat.reduceAdd,Nat.reduceDiv,Nat.reduceLeDiff,fq25.n23_w,fq25.ret,hu]
      have:=hK L2 G.length ⟨kss,hkl,hA.start,hA.step,fun i hi=>(hA.maps i (by omega) hi).2,hO2⟩ hGlen
      rw [← hml] at this
      exact this
  · intro i k' v hi
    obtain ⟨q,hq,rfl,rfl⟩:=enc_at hi
    rw [enc_erase]
    have hqk:=hrs1 q (List.mem_of_getElem? hq)
    have hil:i < rs.length:=(List.getElem?_eq_some_iff.1 hq).1
    have hrl:(rs.eraseIdx i).length=rs.length - 1:=by rw [List.length_eraseIdx]; simp [hil]
    have hent:=ent_at (H:=G1 ++ .map shS ver' (encE ev2 lch) :: .iter ms[p.loads.length] verL (encE ev2 (tr (rs.eraseIdx i))) (some (ev2 q,.bool true)) :: J) (b:=G1.length + 1) (sh:=shS) (by simp -implicitDefEqProofs only [sw0,sw1,sw2,sw3,sw4,sw5,reduceCtorEq,Nat.reduceEqDiff,Nat.reduceAdd,Nat.reduceDiv,Nat.reduceLeDiff]; rfl) (hver1 _)
    have hupd:eMupd (some H.length) ⟨G1 ++ .map shS ver' (encE ev2 lch) :: .iter ms[p.loads.length] verL (encE ev2 (tr (rs.eraseIdx i))) (some (ev2 q,.bool true)) :: (J ++ [.cells [iv q.1,iv q.2]]),false⟩ shS (.map G1.length) (.agg [iv q.1,iv q.2]) (.agg [iv 0,iv 0]) =
        some ⟨G1 ++ .map shS (ver' + 1) (encE ev2 (ins lch q (chV (0,0)))) :: .iter ms[p.loads.length] verL (encE ev2 (tr (rs.eraseIdx i))) (some (ev2 q,.bool true)) :: (J ++ [.cells [iv q.1,iv q.2]]),false⟩:=by
      have:=upd_at key_iv2 (H:=G1 ++ .map shS ver' (encE ev2 lch) :: .iter ms[p.loads.length] verL (encE ev2 (tr (rs.eraseIdx i))) (some (ev2 q,.bool true)) :: (J ++ [.cells [iv q.1,iv q.2]])) (c:=G1.length) (ver:=ver') (by simp -implicitDefEqProofs only [sw0,sw1,sw2,sw3,sw4,sw5,reduceCtorEq,Nat.reduceEqDiff,Nat.reduceAdd,Nat.reduceDiv,Nat.reduceLeDiff]; rfl) (base:=some H.length) (lk:=false) q (v:=.agg [iv 0,iv 0]) rfl
      refine this.trans ?_
      simp -implicitDefEqProofs only [sw0,sw1,sw2,sw3,sw4,sw5,reduceCtorEq,Nat.reduceEqDiff,Nat.reduceAdd,Nat.reduceDiv,Nat.reduceLeDiff]
      rfl
    rw [← hG1l] at hcs1g
    simp -implicitDefEqProofs only [sw0,sw1,sw2,sw3,sw4,sw5,reduceCtorEq,Nat.reduceEqDiff,Nat.reduceAdd,Nat.reduceDiv,Nat.reduceLeDiff,fq25.n4_w,hent,hrow1,h1.len,hrco,hLm,hcs1g,hupd]
    refine fq25.n1_go (m':=(rs.eraseIdx i).length) (by omega) ⟨rs.eraseIdx i,_,_,_,_,rfl,rfl,fun x hx=>hrs1 x (List.mem_of_mem_eraseIdx hx),?_,?_⟩
    · intro x hx
      rw [lkp_ins]
      rcases hrs2 x hx with hx2 | hx2
      · rcases mem_erase_or hq hx2 with rfl | hx3
        · exact .inr (by simp)
        · exact .inl hx3
      · refine .inr ?_
        split
        · rfl
        · exact hx2
    · intro x hx
      rw [lkp_ins] at hx
      split at hx
      · rename_i e; subst e; exact hqk
      · exact hkeys x hx
end Go.Proofs.YtcebebhaahpoiaaDoor
end
section
namespace Go.Proofs.YtcebebhaahpoiaaDoor
open Go Go.Ai Go.W
attribute [local irreducible] VC YC WC
set_option linter.unusedSimpArgs false
set_option linter.unusedVariables false
set_option maxRecDepth 10000
variable {k:Nat} {b:Option Nat} {H:List AObj} {lk:Bool} {K:AV→St→Prop}
theorem same_app {A A' L M:List AObj} (h:A'.length=A.length):Same A.length (A ++ L) (A' ++ (L ++ M)):=by
  intro d h1 h2
  rw [List.getElem?_append_right h1,List.getElem?_append_right (by omega),h,List.getElem?_append_left (by rw [List.length_append] at h2; omega)]
theorem ChAt.at {B:Nat} {G:List AObj} {c:Nat} {p:Plt} (h:ChAt B G c p) (hc:B≤c):∃ (kss:List (List (Int × Int))) (cs:List AV),kss.length=p.loads.length + 1∧kss[0]?=some [(p.heat,0)]∧(∀ i (h:i + 1 < kss.length) q,q ∈ kss[i]→Img p i q kss[i + 1] (2 ^ p.machs.length))∧(∀ i (h:i < kss.length),RSt p i kss[i]) ∧
    cs.length=p.loads.length + 1∧∀ G',Same B G G'→row G' c ((p.loads.length + 1) * 1)=some cs∧∀ i (hi:i < kss.length),∃ o l,cs[i * 1]?=some (.map o)∧MapAt G' o shS ev2 l∧GoodCh p i kss[i] l:=by
  obtain ⟨kss,a1,a2,a3,a4,a5⟩:=h.how
  obtain ⟨cs,b1,b2,b3⟩:=a5.row
  have hlt:c < G.length:=(List.getElem?_eq_some_iff.1 b1).1
  refine ⟨kss,cs,a1,a2,a3,a4,b2,fun G' hs=>⟨row_of ((hs c hc hlt).trans b1) (by omega),fun i hi=>?_⟩⟩
  obtain ⟨o,l,d0,d1,d2,d3⟩:=b3 i hi (by omega)
  obtain ⟨ver,hv⟩:=d2.how
  exact ⟨o,l,by rw [Nat.mul_one]; exact d1,⟨ver,(hs o d0 d2.lt).trans hv⟩,d3⟩
theorem fz_e {m c:Nat} (hb:row H c 0=some []) (hm:m≤c):frz m H 1 (.sref c 0 0 0 1)=.slice false 1 [] :=
  fz_own (f:=ic) (xs:=[]) Nat.one_pos ic_len ic_clean rfl hb hm
theorem Cool_s (hk:16 ^ 52≤k) {cs:List AV} {p:Plt} (hp:PV H cs p) (hl:p.loads.length≤1000∧p.prices.length≤1000∧p.machs.length≤60) :
    VC ⟨prog,k,b⟩ F_fq9 [.agg cs] ⟨H,lk⟩ K=K (.tup p.cool) ⟨H,lk⟩:=by
  have e52:(16:Nat) ^ 52=411376139330301510538742295639337626245683966408394965837152256:=by decide
  have e51:(16:Nat) ^ 51=25711008708143844408671393477458601640355247900524685364822016:=by decide
  obtain ⟨k,rfl⟩:∃ j,k=j + 1:=⟨k - 1,by omega⟩
  have hp':=hp
  obtain ⟨vl,vp,vm,rfl,h1,h2,h3⟩:=hp'.how
  apply VC_iff
  apply fq9.enter
  have hpa:=hp.app (L:=[.cells [iv p.heat,iv p.low,iv p.high,vl,vp,vm],.cells []])
  simp -implicitDefEqProofs only [fq9.n0_w,sw0,sw1,sw2,sw3,sw4,sw5,reduceCtorEq,Nat.reduceEqDiff,Nat.reduceAdd,Nat.reduceDiv,Nat.reduceLeDiff,h1.one,h2.one,h3.one]
  refine laid_g (k:=k) (by omega) hp ⟨_,rfl⟩ hl ?_ ?_
  · intro hok
    have hfz:=fz_e (m:=H.length) (H:=H ++ [AObj.cells [iv p.heat,iv p.low,iv p.high,vl,vp,vm],AObj.cells [],AObj.cells []]) (c:=H.length + 2) (by simp -implicitDefEqProofs only [sw0,sw1,sw2,sw3,sw4,sw5,reduceCtorEq,Nat.reduceEqDiff,Nat.reduceAdd,Nat.reduceDiv,Nat.reduceLeDiff]) (by omega)
    simp -implicitDefEqProofs only [sw0,sw1,sw2,sw3,sw4,sw5,reduceCtorEq,Nat.reduceEqDiff,Nat.reduceAdd,Nat.reduceDiv,Nat.reduceLeDiff,fq9.n1_w,fq9.ret,Plt.cool,hok,hfz]
  · intro hok L c hx
    have ho:=Plt.ok_Ok hok
    have hhrs:=ho.hours
    have hlow:=ho.low
    have hheat:=ho.heat
    have hhigh:=ho.high
    obtain ⟨n,hn⟩:∃ n,n=p.loads.length:=⟨_,rfl⟩
    have hxs:∀ (M:List AObj) (e:AObj),PX (H ++ (.cells [iv p.heat,iv p.low,iv p.high,vl,vp,vm] :: e :: (L ++ M))) (H.length + 2 + c) p:=by
      intro M e
      have h9:=hx (H ++ (.cells [iv p.heat,iv p.low,iv p.high,vl,vp,vm] :: e :: (L ++ M))) (by
        have:=same_app (A:=H ++ [.cells [iv p.heat,iv p.low,iv p.high,vl,vp,vm],.cells []]) (A':=H ++ [.cells [iv p.heat,iv p.low,iv p.high,vl,vp,vm],e]) (L:=L) (M:=M) (by simp)
        simpa using this) ⟨_,rfl⟩
      simpa using h9
    have hx0:=hxs [] (.cells [])
    simp -implicitDefEqProofs only [List.append_nil] at hx0
    simp -implicitDefEqProofs only [sw0,sw1,sw2,sw3,sw4,sw5,reduceCtorEq,Nat.reduceEqDiff,Nat.reduceAdd,Nat.reduceDiv,Nat.reduceLeDiff,fq9.n2_w]
    refine choices_s (k:=k) (by omega) hx0 ho ?_
    intro L2 co hC hco
    obtain ⟨kss,cs,k1,k2,k3,k4,k6,k7⟩:=hC.at hco
    have hCs:∀ (M:List AObj) (e:AObj),Same (H ++ (.cells [iv p.heat,iv p.low,iv p.high,vl,vp,vm] :: .cells [] :: L)).length (H ++ (.cells [iv p.heat,iv p.low,iv p.high,vl,vp,vm] :: .cells [] :: L) ++ L2) (H ++ (.cells [iv p.heat,iv p.low,iv p.high,vl,vp,vm] :: e :: (L ++ (L2 ++ M)))):=by
      intro M e
      have:=same_app (A:=H ++ .cells [iv p.heat,iv p.low,iv p.high,vl,vp,vm] :: .cells [] :: L) (A':=H ++ .cells [iv p.heat,iv p.low,iv p.high,vl,vp,vm] :: e :: L) (L:=L2) (M:=M) (by simp)
      simpa using this
    obtain ⟨hrow,k8⟩:=k7 _ (hCs [.cells [iv p.heat,iv 0],.cells [iv 0,iv 0]] (.cells []))
    obtain ⟨o,l,g1,g2,g3⟩:=k8 0 (by omega)
    have hk0:kss[0]'(by omega)=[(p.heat,0)]:=by rw [List.getElem?_eq_getElem (by omega)] at k2; simpa using k2
    have hv:=g3.val (p.heat,0) (by rw [hk0]; simp)
    have hlook:=look_at key_iv2 g2 (zero:=.agg [iv 0,iv 0]) (ok:=true) (p.heat,0)
    rw [hv] at hlook
    simp -implicitDefEqProofs only [Nat.sub_zero,ev2,if_true,Int.toNat_zero] at hlook
    have h01:0 < p.loads.length + 1:=by omega
    have h02:0 * 1 + 1≤cs.length:=by omega
    cases hb:best p p.loads.length 0 p.heat 0 with
    | none =>
      rw [hb] at hlook
      simp -implicitDefEqProofs only [Option.map_none,Option.getD_none,Option.isSome_none] at hlook
      have hidx:idxOf (p.loads.length + 1) (.int .i64 0)=some 0:=by have:=idx_i (k:=.i64) (n:=p.loads.length + 1) (i:=0); rw [if_pos h01] at this; exact this
      simp -implicitDefEqProofs only [sw0,sw1,sw2,sw3,sw4,sw5,reduceCtorEq,Nat.reduceEqDiff,Nat.reduceAdd,Nat.reduceDiv,Nat.reduceLeDiff,hrow,hidx,g1,hlook,h02]
      have hfz:=fz_e (m:=H.length) (H:=H ++ AObj.cells [iv p.heat,iv p.low,iv p.high,vl,vp,vm] :: AObj.cells [] :: (L ++ (L2 ++ [AObj.cells [iv p.heat,iv 0],AObj.cells [iv 0,iv 0],AObj.cells []]))) (c:=H.length + (L.length + (L2.length + 2) + 1 + 1)) (by simp -implicitDefEqProofs only [sw0,sw1,sw2,sw3,sw4,sw5,reduceCtorEq,Nat.reduceEqDiff,Nat.reduceAdd,Nat.reduceDiv,Nat.reduceLeDiff]) (by omega)
      simp -implicitDefEqProofs only [fq9.n3_w,sw0,sw1,sw2,sw3,sw4,sw5,reduceCtorEq,Nat.reduceEqDiff,Nat.reduceAdd,Nat.reduceDiv,Nat.reduceLeDiff,fq9.ret,Plt.cool,hok,hb,hfz]
    | some q =>
      obtain ⟨cost,m0⟩:=q
      rw [hb] at hlook
      simp -implicitDefEqProofs only [Option.map_some,Option.getD_some,Option.isSome_some,chV] at hlook
      have hidx:idxOf (p.loads.length + 1) (.int .i64 0)=some 0:=by have:=idx_i (k:=.i64) (n:=p.loads.length + 1) (i:=0); rw [if_pos h01] at this; exact this
      simp -implicitDefEqProofs only [sw0,sw1,sw2,sw3,sw4,sw5,reduceCtorEq,Nat.reduceEqDiff,Nat.reduceAdd,Nat.reduceDiv,Nat.reduceLeDiff,hrow,hidx,g1,hlook,h02,fq9.n4_w,h1.len]
      refine fq9.n5_l (fun m r1 r4 s=>∃ (i o:Nat) (t:Int) (xs:List Int),r4=iv i∧r1=.sref (H.length + 1) 0 xs.length (xs.length * 1) 1∧s=⟨H ++ (.cells [iv p.heat,iv p.low,iv p.high,vl,vp,vm] :: .cells (xs.map ic).flatten :: (L ++ (L2 ++ [.cells [iv t,iv o],.cells [iv cost,iv m0]]))),false⟩ ∧
        m=p.loads.length - i∧xs.length=i∧(∃ h:i < kss.length,(t,(o:Int)) ∈ kss[i])∧(∃ c m,best p (p.loads.length - i) i t o=some (c,m))∧xs ++ plan p (p.loads.length - i) i t o=plan p p.loads.length 0 p.heat 0) p.loads.length (by simp -implicitDefEqProofs only []; omega)
        ⟨0,0,p.heat,[],rfl,rfl,rfl,rfl,rfl,⟨by omega,by rw [hk0]; simp⟩,⟨cost,m0,hb⟩,rfl⟩ ?_
      rintro m r1 r4 r9 r10 s ⟨i,o,t,xs,rfl,rfl,rfl,rfl,hxl,⟨hik,hto⟩,⟨c',m',hbest⟩,hplan⟩
      simp -implicitDefEqProofs only [fq9.n6_w,sw0,sw1,sw2,sw3,sw4,sw5,reduceCtorEq,Nat.reduceEqDiff,Nat.reduceAdd,Nat.reduceDiv,Nat.reduceLeDiff]
      split
      · rename_i hlt
        have hlt:i < p.loads.length:=by omega
        obtain ⟨r,hr⟩:∃ r,p.loads.length - i=r + 1:=⟨p.loads.length - i - 1,by omega⟩
        have hr':p.loads.length - (i + 1)=r:=by omega
        rw [hr,best_succ] at hbest
        obtain ⟨hm1,hm2,_,_⟩:=minF_some hbest
        unfold bval at hm2
        split at hm2
        · rename_i hle
          obtain ⟨q,hq,_⟩:=Option.map_eq_some_iff.1 hm2
          obtain ⟨hrow',k8'⟩:=k7 _ (hCs [.cells [iv t,iv o],.cells [iv cost,iv m0]] (.cells (xs.map ic).flatten))
          obtain ⟨o2,l2,g1',g2',g3'⟩:=k8' i hik
          have hv':=g3'.val _ hto
          have hlook':=look_at key_iv2 g2' (zero:=.agg [iv 0,iv 0]) (ok:=false) (t,(o:Int))
          rw [hv',hr] at hlook'
          simp -implicitDefEqProofs only [Int.toNat_natCast,best_succ,hbest] at hlook'
          simp -implicitDefEqProofs only [Option.map_some,Option.getD_some,chV,ev2,if_true,if_false,Bool.false_eq_true] at hlook'
          have hnum:=(k4 i hik).num _ hto
          dsimp only at hnum
          have hstep:=k3 i (by omega) _ hto m' hm1 hle
          have hi1:i < p.loads.length + 1:=by omega
          have hi2:i * 1 + 1≤cs.length:=by omega
          have hpx:=hxs (L2 ++ [.cells [iv t,iv o],.cells [iv cost,iv m0]]) (.cells ((xs ++ [(m':Int)]).map ic).flatten)
          have hheat':=fun (K:AV→St→Prop)=>heat_s (K:=K) (k:=k) (b:=some H.length) (lk:=false) (by omega) hpx ho hlt hm1 (show -100000000≤t∧t≤100000000 by omega)
          have happ:=app_own (base:=some H.length) (lk:=false) (fl:=true) (bytes:=8) (xs:=xs) (x:=(m':Int)) (H:=H ++ (.cells [iv p.heat,iv p.low,iv p.high,vl,vp,vm] :: .cells (xs.map ic).flatten :: (L ++ (L2 ++ [.cells [iv t,iv o],.cells [iv cost,iv m0]])))) (c:=H.length + 1) Nat.one_pos ic_len (ic_one _) (ic_clean _) rfl (by simp -implicitDefEqProofs only [sw0,sw1,sw2,sw3,sw4,sw5,reduceCtorEq,Nat.reduceEqDiff,Nat.reduceAdd,Nat.reduceDiv,Nat.reduceLeDiff,row_hd,ic_flat,Nat.mul_one]) (by omega)
          simp -implicitDefEqProofs only [ic] at happ
          simp -implicitDefEqProofs only [fq9.n8_w,sw0,sw1,sw2,sw3,sw4,sw5,reduceCtorEq,Nat.reduceEqDiff,Nat.reduceAdd,Nat.reduceDiv,Nat.reduceLeDiff,hrow',idx_i,hi1,hi2,g1',hlook',happ,hheat']
          refine fq9.n5_go (m':=p.loads.length - (i + 1)) (by omega) ⟨i + 1,m',p.heatBy i t m',xs ++ [(m':Int)],by rw [wrap64 (by omega)]; rfl,by simp,rfl,rfl,by simp [hxl],⟨by omega,hstep⟩,?_,?_⟩
          · rw [hr']; exact ⟨q.1,q.2,hq⟩
          · rw [← hplan,hr,hr',plan,best_succ,hbest]
            simp
        · cases hm2
      · rename_i hge
        have hie:i=p.loads.length:=by omega
        subst hie
        rw [Nat.sub_self] at hplan
        simp -implicitDefEqProofs only [plan,List.append_nil] at hplan
        subst hplan
        have hfz:=fz_own (m:=H.length) (f:=ic) (xs:=plan p p.loads.length 0 p.heat 0) (c:=H.length + 1) (H:=H ++ (.cells [iv p.heat,iv p.low,iv p.high,vl,vp,vm] :: .cells ((plan p p.loads.length 0 p.heat 0).map ic).flatten :: (L ++ (L2 ++ [.cells [iv t,iv o],.cells [iv cost,iv m0]])))) Nat.one_pos ic_len ic_clean rfl (by simp -implicitDefEqProofs only [sw0,sw1,sw2,sw3,sw4,sw5,reduceCtorEq,Nat.reduceEqDiff,Nat.reduceAdd,Nat.reduceDiv,Nat.reduceLeDiff,row_hd,ic_flat,Nat.mul_one]) (by omega)
        simp -implicitDefEqProofs only [fq9.n9_w,sw0,sw1,sw2,sw3,sw4,sw5,reduceCtorEq,Nat.reduceEqDiff,Nat.reduceAdd,Nat.reduceDiv,Nat.reduceLeDiff,fq9.ret,Plt.cool,hok,hb,hfz]
end Go.Proofs.YtcebebhaahpoiaaDoor
end
section
namespace Go.Proofs.YtcebebhaahpoiaaDoor
open Go Go.Ai Go.W
attribute [local irreducible] VC YC WC
set_option linter.unusedSimpArgs false
set_option linter.unusedVariables false
theorem ck_lk {base:Option Nat} {ρ:Regs} {d:Nat} {sh:Sh} {z:AV} {ok:Bool} {m q:AOpd} {h:List AObj} {hs:List (List AObj)}:(chkRead base ρ ⟨some d,.look sh z ok m q,none⟩ (h :: hs)=true)=(vLook h sh z ok (m.ev ρ) (q.ev ρ)=some (ρ.getD d .undef)∧chkRead base ρ ⟨some d,.look sh z ok m q,none⟩ hs=true):=by
  refine propext ?_
  have key:(evI base ρ ⟨h,false⟩ (.look sh z ok m q)).map (·.1)=vLook h sh z ok (m.ev ρ) (q.ev ρ):=by
    simp -implicitDefEqProofs only [evI,vLook]
    split
    · cases mapSh h sh (m.ev ρ) with
      | none=>rfl
      | some es=>rfl
    · rfl
  simp -implicitDefEqProofs only [chkRead,wanted,if_true,List.all_cons,Bool.and_eq_true]
  refine and_congr ?_ Iff.rfl
  rw [← key]
  cases h1:evI base ρ ⟨h,false⟩ (.look sh z ok m q) with
  | none=>simp
  | some v=>obtain ⟨v,s'⟩:=v; simp -implicitDefEqProofs only [Option.map_some,Option.some.injEq]; exact ⟨beq_eq,fun e=>by rw [e]; exact beq_rf _⟩
theorem ck_nk {base:Option Nat} {ρ:Regs} {d:Nat} {sh:Sh} {z:AV} {ok:Bool} {m q:AOpd}:(chkRead base ρ ⟨some d,.look sh z ok m q,none⟩ []=true)=True:=by simp [chkRead,wanted]
def mem (x:Nat):List Nat:=(List.range 64).filter x.testBit
def wo (b:Nat) (l:List Nat):List Nat:=l.filter (fun i=>decide (i ≠ b))
theorem mem_iff {x i:Nat}:i ∈ mem x↔i < 64∧x.testBit i=true:=by simp [mem]
theorem mem_lt {x i:Nat} (h:i ∈ mem x):i < 64:=(mem_iff.1 h).1
theorem mem_zero:mem 0=[]:=by decide
theorem mem_len {x:Nat}:(mem x).length≤64:=by
  have:=List.length_filter_le x.testBit (List.range 64)
  simpa [mem] using this
theorem mem_nodup {x:Nat}:(mem x).Nodup:=List.Nodup.sublist List.filter_sublist List.nodup_range
theorem mem_clr {x i:Nat} (hx:x < 18446744073709551616):mem (clrB x i)=wo i (mem x):=by
  unfold mem wo
  rw [List.filter_filter]
  refine List.filter_congr fun j _=>?_
  rw [tb_clr hx,Bool.and_comm]
  congr 1
  by_cases h:j=i
  · subst h; simp
  · have h':¬ i=j:=fun e=>h e.symm
    simp [h,h']
theorem clrB_lt2 {x i:Nat}:clrB x i < 18446744073709551616:=(BitVec.ofNat 64 x &&& ~~~BitVec.ofNat 64 (2 ^ i)).isLt
theorem wo_self {b:Nat} {l:List Nat} (h:b ∉ l):wo b l=l:=List.filter_eq_self.2 fun x hx=>by
  have:x ≠ b:=fun e=>h (e ▸ hx)
  simpa using this
theorem wo_cons {b a:Nat} {l:List Nat}:wo b (a :: l)=if a=b then wo b l else a :: wo b l:=by
  unfold wo
  by_cases h:a=b
  · rw [if_pos h,List.filter_cons_of_neg (by simp [h])]
  · rw [if_neg h,List.filter_cons_of_pos (by simp [h])]
theorem wo_len {b:Nat} {l:List Nat} (hn:l.Nodup) (h:b ∈ l):(wo b l).length + 1=l.length:=by
  induction l with
  | nil=>cases h
  | cons a l ih =>
    rw [List.nodup_cons] at hn
    rw [wo_cons]
    by_cases e:a=b
    · subst e
      rw [if_pos rfl,wo_self hn.1,List.length_cons]
    · have hb:b ∈ l:=by
        rcases List.mem_cons.1 h with h | h
        · exact absurd h.symm e
        · exact h
      have:=ih hn.2 hb
      rw [if_neg e,List.length_cons,List.length_cons]
      omega
theorem wo_nodup {b:Nat} {l:List Nat} (hn:l.Nodup):(wo b l).Nodup:=hn.sublist List.filter_sublist
theorem filter_head {p:Nat→Bool}:∀ {n s c:Nat},s≤c→c < s + n→p c=true→(∀ j,j < c→p j=false)→(List.range' s n).filter p=c :: ((List.range' s n).filter p).filter (fun i=>decide (i ≠ c))
  | 0,s,c,h1,h2,_,_=>by omega
  | n + 1,s,c,h1,h2,hp,hno=>by
    rw [List.range'_succ]
    by_cases e:s=c
    · subst e
      rw [List.filter_cons_of_pos hp,List.filter_cons_of_neg (by simp)]
      congr 1
      symm
      refine List.filter_eq_self.2 fun x hx=>?_
      have:=(List.mem_range'_1.1 (List.mem_filter.1 hx).1).1
      simp
      omega
    · rw [List.filter_cons_of_neg (by simp [hno s (by omega)])]
      exact filter_head (by omega) (by omega) hp hno
theorem mem_first {x:Nat} (h0:x ≠ 0) (hx:x < 18446744073709551616):ctzN 64 x < 64∧mem x=ctzN 64 x :: mem (clrB x (ctzN 64 x)):=by
  have hl:=ctzN_lt (n:=64) h0 hx
  obtain ⟨h1,h2⟩:=ctzN_spec 64 x h0 hx
  refine ⟨hl,?_⟩
  rw [mem_clr hx]
  unfold mem wo
  rw [List.range_eq_range']
  exact filter_head (by omega) (by omega) h1 h2
theorem mem_nil {x:Nat} (hx:x < 18446744073709551616) (h:mem x=[]):x=0:=by
  by_cases h0:x=0
  · exact h0
  · have:=(mem_first h0 hx).2
    rw [h] at this
    cases this
def pstep (D:Nat→Nat→Int) (f:List Nat→Int) (a:Nat) (S:List Nat) (acc:Int × Nat) (c:Nat):Int × Nat :=
  if acc.1 < 0∨f (wo c S) + D a c < acc.1 then (f (wo c S) + D a c,c) else acc
def pm (D:Nat→Nat→Int):Nat→List Nat→Int × Nat
  | 0,_=>(0,0)
  | _ + 1,[]=>(0,0)
  | r + 1,a :: S=>S.foldl (pstep D (fun l=>(pm D r l).1) a S) (-1,0)
theorem foldl_same {α β:Type} {f g:β→α→β}:∀ {l:List α} {z:β},(∀ x,x ∈ l→∀ y,f y x=g y x)→l.foldl f z=l.foldl g z
  | [],_,_=>rfl
  | a :: l,z,h=>by
    rw [List.foldl_cons,List.foldl_cons,h a (by simp)]
    exact foldl_same fun x hx=>h x (by simp [hx])
theorem pstep_congr {D:Nat→Nat→Int} {f g:List Nat→Int} {a c:Nat} {S:List Nat} {y:Int × Nat} (h:f (wo c S)=g (wo c S)):pstep D f a S y c=pstep D g a S y c:=by
  unfold pstep
  rw [h]
theorem pm_fuel {D:Nat→Nat→Int}:∀ {r r':Nat} {S:List Nat},S.Nodup→S.length≤r→S.length≤r'→pm D r S=pm D r' S
  | 0,r',S,_,h,_=>by
    have:S=[]:=List.eq_nil_of_length_eq_zero (by omega)
    subst this
    cases r' <;> rfl
  | r + 1,0,S,_,_,h=>by
    have:S=[]:=List.eq_nil_of_length_eq_zero (by omega)
    subst this
    rfl
  | r + 1,r' + 1,[],_,_,_=>rfl
  | r + 1,r' + 1,a :: S,hn,h,h'=>by
    simp -implicitDefEqProofs only [List.length_cons] at h h'
    rw [List.nodup_cons] at hn
    simp -implicitDefEqProofs only [pm]
    refine foldl_same fun c hc y=>?_
    have hl:=wo_len hn.2 hc
    exact pstep_congr (by rw [pm_fuel (r':=r') (wo_nodup hn.2) (by omega) (by omega)])
def pv (D:Nat→Nat→Int) (S:List Nat):Int × Nat:=pm D 64 S
theorem pv_cons {D:Nat→Nat→Int} {a:Nat} {S:List Nat} (hn:(a :: S).Nodup) (hl:(a :: S).length≤64):pv D (a :: S)=S.foldl (pstep D (fun l=>(pv D l).1) a S) (-1,0):=by
  unfold pv
  simp -implicitDefEqProofs only [pm]
  rw [List.nodup_cons] at hn
  simp -implicitDefEqProofs only [List.length_cons] at hl
  refine foldl_same fun c hc y=>?_
  have h:=wo_len hn.2 hc
  exact pstep_congr (by rw [pm_fuel (r:=63) (r':=64) (wo_nodup hn.2) (by omega) (by omega)])
theorem pv_nil {D:Nat→Nat→Int}:pv D []=(0,0):=rfl
theorem pm_le {D:Nat→Nat→Int} {M:Int} (hD:∀ a c,0≤D a c∧D a c≤M):∀ (r:Nat) (S:List Nat),-1≤(pm D r S).1∧(pm D r S).1≤r * M
  | 0,S=>by simp [pm]
  | r + 1,[]=>by
    have:=hD 0 0
    have h2:0≤((r + 1:Nat):Int) * M:=Int.mul_nonneg (by omega) (by omega)
    simp -implicitDefEqProofs only [pm]
    omega
  | r + 1,a :: S=>by
    simp -implicitDefEqProofs only [pm]
    have hM:=hD 0 0
    have h2:0≤(r:Int) * M:=Int.mul_nonneg (by omega) (by omega)
    have h3:((r + 1:Nat):Int) * M=r * M + M:=by rw [Int.natCast_add,Int.add_mul]; simp
    have key:∀ (l:List Nat) (z:Int × Nat),(-1≤z.1∧z.1≤r * M + M)→-1≤(l.foldl (pstep D (fun l=>(pm D r l).1) a S) z).1∧(l.foldl (pstep D (fun l=>(pm D r l).1) a S) z).1≤r * M + M:=by
      intro l
      induction l with
      | nil=>intro z hz; exact hz
      | cons c l ih =>
        intro z hz
        rw [List.foldl_cons]
        refine ih _ ?_
        have:=pm_le hD r (wo c S)
        have:=hD a c
        unfold pstep
        split
        · dsimp only; omega
        · exact hz
    rw [h3]
    exact key S (-1,0) (by dsimp only; omega)
end Go.Proofs.YtcebebhaahpoiaaDoor
end
section
namespace Go.Proofs.YtcebebhaahpoiaaDoor
open Go Go.Ai Go.W
attribute [local irreducible] VC YC WC
set_option linter.unusedSimpArgs false
set_option linter.unusedVariables false
set_option maxRecDepth 10000
variable {k:Nat} {b:Option Nat} {H:List AObj} {lk:Bool} {K:AV→St→Prop}
def sz (n:Int):Int:=max n (-n)
theorem size_s (hk:1≤k) {n:Int} (hn:-4000000≤n∧n≤4000000):VC ⟨prog,k,b⟩ F_fq40 [iv n] ⟨H,lk⟩ K=K (iv (sz n)) ⟨H,lk⟩:=by
  obtain ⟨k,rfl⟩:∃ j,k=j + 1:=⟨k - 1,by omega⟩
  apply VC_iff
  apply fq40.enter
  simp -implicitDefEqProofs only [fq40.n0_w,sw0,sw1,sw2,sw3,sw4,sw5,reduceCtorEq,Nat.reduceEqDiff,Nat.reduceAdd,Nat.reduceDiv,Nat.reduceLeDiff,wrap64 (show -9223372036854775808≤-n∧-n≤9223372036854775807 by omega),fq40.ret,Int.zero_sub,sz]
abbrev kc (q:Int × Int):List AV:=[iv q.1,iv q.2]
theorem kc_len (q:Int × Int):(kc q).length=2:=rfl
def diff (a c:Int × Int):Int:=sz (a.1 - c.1) + sz (a.2 - c.2)
def dm (ms:List (Int × Int)) (a c:Nat):Int:=diff (ms.getD a (0,0)) (ms.getD c (0,0))
def okM (ms:List (Int × Int)):Bool:=ms.all fun q=>amt q.1 && amt q.2
theorem okM_at {ms:List (Int × Int)} (h:okM ms=true) (i:Nat):0≤(ms.getD i (0,0)).1∧(ms.getD i (0,0)).1≤1000000∧0≤(ms.getD i (0,0)).2∧(ms.getD i (0,0)).2≤1000000:=by
  rcases Nat.lt_or_ge i ms.length with hi | hi
  · have h1:=List.all_eq_true.1 h ms[i] (List.getElem_mem hi)
    simp -implicitDefEqProofs only [amt,Bool.and_eq_true,decide_eq_true_eq] at h1
    rw [List.getD_eq_getElem?_getD,List.getElem?_eq_getElem hi]
    simp -implicitDefEqProofs only [Option.getD_some]
    omega
  · rw [List.getD_eq_getElem?_getD,List.getElem?_eq_none hi]
    simp
theorem dm_le {ms:List (Int × Int)} (h:okM ms=true) (a c:Nat):0≤dm ms a c∧dm ms a c≤2000000:=by
  have h1:=okM_at h a
  have h2:=okM_at h c
  unfold dm diff sz
  omega
abbrev shU:Sh:=.mk false [.int .u64]
structure KG (D:Nat→Nat→Int) (l:List (Nat × AV)):Prop where
  val:∀ x v,lkp l x=some v→v=.agg [iv (pv D (mem x)).1,iv (pv D (mem x)).2]
  zero:(lkp l 0).isSome=true
  down:∀ x a S,x < 18446744073709551616→(lkp l x).isSome=true→mem x=a :: S→∀ c,c ∈ S→(lkp l (clrB (clrB x a) c)).isSome=true
theorem mem_bound {x n i:Nat} (hx:x < 2 ^ n) (h:i ∈ mem x):i < n:=by
  rcases Nat.lt_or_ge i n with h1 | h1
  · exact h1
  · have:=Nat.testBit_lt_two_pow (Nat.lt_of_lt_of_le hx (Nat.pow_le_pow_right (by omega) h1))
    rw [(mem_iff.1 h).2] at this
    cases this
structure MF (H:List AObj) (ck cb cl cm:Nat) (ms:List (Int × Int)) (vl:AV):Prop where
  k:H[ck]?=some (.cells [.map cm])
  b:H[cb]?=some (.cells [.fn F_fq14 [.ptr ck 0 1,.ptr cb 0 1,.ptr cl 0 1]])
  l:H[cl]?=some (.cells [vl])
  s:Sl H 2 kc vl ms
theorem slset {α:Type} {H:List AObj} {n:Nat} {f:α→List AV} {v:AV} {xs:List α} (h:Sl H n f v xs) {c:Nat} {o:AObj} (hc:∀ cs,H[c]? ≠ some (.cells cs)):Sl (H.set c o) n f v xs:=by
  refine ⟨h.pos,h.size,?_⟩
  rcases h.how with ⟨fl,z,rfl,hz⟩ | ⟨b,o',ver,cs,rfl,hr,hcs⟩
  · exact .inl ⟨fl,z,rfl,hz⟩
  · refine .inr ⟨b,o',ver,cs,rfl,?_,hcs⟩
    have hne:c ≠ b:=by
      rintro rfl
      unfold row at hr
      split at hr
      · rename_i cs' hc'
        exact hc _ hc'
      · cases hr
    unfold row at hr ⊢
    rw [List.getElem?_set_ne hne]
    exact hr
theorem MF.set {H:List AObj} {ck cb cl cm:Nat} {ms:List (Int × Int)} {vl:AV} (h:MF H ck cb cl cm ms vl) {o:AObj} (hc:∀ cs,H[cm]? ≠ some (AObj.cells cs)):MF (H.set cm o) ck cb cl cm ms vl:=by
  have key:∀ c cs,H[c]?=some (AObj.cells cs)→(H.set cm o)[c]?=some (AObj.cells cs):=fun c cs e=>by
    rw [List.getElem?_set_ne (fun e'=>by subst e'; exact hc _ e)]
    exact e
  exact ⟨key _ _ h.k,key _ _ h.b,key _ _ h.l,slset h.s hc⟩
theorem MF.app {H:List AObj} {ck cb cl cm:Nat} {ms:List (Int × Int)} {vl:AV} (h:MF H ck cb cl cm ms vl) {L:List AObj}:MF (H ++ L) ck cb cl cm ms vl:=⟨get_app h.k,get_app h.b,get_app h.l,h.s.app⟩
theorem best_s {ms:List (Int × Int)} (hms:okM ms=true) (hml:ms.length≤16) {ck cb cl cm:Nat} {vl:AV}:∀ (r:Nat) {k:Nat} {b:Option Nat} {H:List AObj} {lk:Bool} {K:AV→St→Prop} (hk:r + 100≤k) {x ver:Nat} {l:List (Nat × AV)} (hx:x < 2 ^ ms.length) (hr:(mem x).length≤r) (hF:MF H ck cb cl cm ms vl) (hM:H[cm]?=some (.map shU ver (encE uvn l))) (hG:KG (dm ms) l)
    (hK:∀ ver' l',KG (dm ms) l'→(∀ y,(lkp l y).isSome=true→(lkp l' y).isSome=true)→(lkp l' x).isSome=true→K (iv (pv (dm ms) (mem x)).1) ⟨H.set cm (.map shU ver' (encE uvn l')),lk⟩),
    VC ⟨prog,k,b⟩ F_fq14 [uv x,.ptr ck 0 1,.ptr cb 0 1,.ptr cl 0 1] ⟨H,lk⟩ K:=by
  intro r
  induction r with
  | zero=>?_
  | succ r ih=>?_
  all_goals
    intro k b H lk K hk x ver l hx hr hF hM hG hK
    obtain ⟨k,rfl⟩:∃ j,k=j + 1:=⟨k - 1,by omega⟩
    have hx64:x < 18446744073709551616:=by
      have:=Nat.pow_le_pow_right (show 0 < 2 by omega) (show ms.length≤16 from hml)
      omega
    apply fq14.enter
    have hrk:=row_of hF.k (v:=1) rfl
    have hcl:=hM
    have hlook:=look_at key_uv (H:=H) (c:=cm) (l:=l) ⟨ver,hM⟩ (zero:=.agg [iv 0,iv 0]) (ok:=true) x
    have hsame:H.set cm (.map shU ver (encE uvn l))=H:=by
      obtain ⟨h1,h2⟩:=List.getElem?_eq_some_iff.1 hM
      rw [← h2,List.set_getElem_self]
    cases hf:lkp l x with
    | some v =>
      have hv:=hG.val x v hf
      rw [hf] at hlook
      subst hv
      have:=hK ver l hG (fun y h=>h) (by rw [hf]; rfl)
      rw [hsame] at this
      simp -implicitDefEqProofs only [Option.getD_some,Option.isSome_some,if_true] at hlook
      simp -implicitDefEqProofs only [fq14.n0_w,sw0,sw1,sw2,sw3,sw4,sw5,reduceCtorEq,Nat.reduceEqDiff,Nat.reduceAdd,Nat.reduceDiv,Nat.reduceLeDiff,hrk,hlook,fq14.n1_w,fq14.ret]
      exact this
    | none=>?_
  · have hx0:x=0:=by
      refine mem_nil hx64 (List.eq_nil_of_length_eq_zero (by omega))
    have:=hG.zero
    rw [← hx0,hf] at this
    cases this
  · rw [hf] at hlook
    simp -implicitDefEqProofs only [Option.getD_none,Option.isSome_none,if_true] at hlook
    have hx0:x ≠ 0:=by
      rintro rfl
      have:=hG.zero
      rw [hf] at this
      cases this
    obtain ⟨ha64,hmx⟩:=mem_first hx0 hx64
    obtain ⟨a,ha⟩:∃ a,a=ctzN 64 x:=⟨_,rfl⟩
    rw [← ha] at ha64 hmx
    simp -implicitDefEqProofs only [fq14.n0_w,sw0,sw1,sw2,sw3,sw4,sw5,reduceCtorEq,Nat.reduceEqDiff,Nat.reduceAdd,Nat.reduceDiv,Nat.reduceLeDiff,hrk,hlook,fq14.n2_w,first_stone (k:=k) (by omega) hx64,← ha,without_stone (k:=k) (by omega) hx64 ha64]
    obtain ⟨R,hR⟩:∃ R,R=clrB x a:=⟨_,rfl⟩
    have hR64:R < 18446744073709551616:=by rw [hR]; exact clrB_lt2
    rw [← hR] at hmx ⊢
    have haS:a ∈ mem x:=by rw [hmx]; simp
    have hRx:R < x:=by rw [hR]; exact clrB_lt hx64 (mem_iff.1 haS).2
    have hRb:R < 2 ^ ms.length:=by omega
    have han:=mem_bound hx haS
    have hnd:(a :: mem R).Nodup:=by rw [← hmx]; exact mem_nodup
    have hRl:(mem R).length≤r:=by rw [hmx,List.length_cons] at hr; omega
    have hnc:∀ cs,H[cm]? ≠ some (AObj.cells cs):=fun cs e=>by rw [hM] at e; cases e
    have hcm:cm < H.length:=(List.getElem?_eq_some_iff.1 hM).1
    have hFs:∀ o X,MF (H.set cm o ++ X) ck cb cl cm ms vl:=fun o X=>(hF.set hnc).app
    have hrk':∀ o X,row (H.set cm o ++ X) ck 1=some [.map cm]:=fun o X=>row_of (hFs o X).k rfl
    have hrb':∀ o X,row (H.set cm o ++ X) cb 1=some [.fn F_fq14 [.ptr ck 0 1,.ptr cb 0 1,.ptr cl 0 1]]:=fun o X=>row_of (hFs o X).b rfl
    have hrl':∀ o X,row (H.set cm o ++ X) cl 1=some [vl]:=fun o X=>row_of (hFs o X).l rfl
    have hat:=fun o X (i:Nat) (K:AV→Prop)=>(hFs o X).s.at (k:=.i64) (i:=i) (K:=K)
    have hat':=fun o X (i:Nat) (hi:i < ms.length)=>(hFs o X).s.at' (k:=.i64) (i:=i) hi
    have hld0:∀ o X (i:Nat) (hi:i < ms.length),ld (H.set cm o ++ X) none (adr 2 vl i 0)=some (iv (ms.getD i (0,0)).1):=fun o X i hi=>by
      rw [(hFs o X).s.ld hi (by omega),List.getD_eq_getElem?_getD,List.getElem?_eq_getElem hi]; rfl
    have hld1:∀ o X (i:Nat) (hi:i < ms.length),ld (H.set cm o ++ X) none (adr 2 vl i 1)=some (iv (ms.getD i (0,0)).2):=fun o X i hi=>by
      rw [(hFs o X).s.ld hi (by omega),List.getD_eq_getElem?_getD,List.getElem?_eq_getElem hi]; rfl
    have hAm:=okM_at hms
    have hoff:=fun (i j j':Nat)=>hF.s.off (i:=i) (o:=j) (o':=j')
    have hrp:∀ o u w,row (H.set cm o ++ [.cells [u,w]]) H.length 2=some [u,w]:=fun o u w=>by
      have:=@row_end0 (H.set cm o) [.cells [u,w]] 2
      rw [List.length_set] at this
      rw [this]; rfl
    have hsp:∀ o q q',(H.set cm o ++ [q]).set H.length q'=H.set cm o ++ [q']:=fun o q q'=>by
      have:=@set_end0 (H.set cm o) [q] q'
      rw [List.length_set] at this
      rw [this]; rfl
    have hsm:∀ o X o',(H.set cm o ++ X).set cm o'=H.set cm o' ++ X:=fun o X o'=>by
      rw [List.set_append_left _ _ (by simpa using hcm),List.set_set]
    have hgm:∀ o X,(H.set cm o ++ X)[cm]?=some o:=fun o X=>by
      rw [List.getElem?_append_left (by simpa using hcm),List.getElem?_set_self hcm]
    have hDle:=dm_le hms
    refine fq14.n3_l (fun m r5 s=>∃ (y:Nat) (done:List Nat) (acc:Int × Nat) (l1:List (Nat × AV)) (ver1:Nat),r5=uv y∧s=⟨H.set cm (.map shU ver1 (encE uvn l1)) ++ [.cells [iv acc.1,iv acc.2]],false⟩∧m=(mem y).length∧y < 18446744073709551616∧mem R=done ++ mem y ∧
      acc=done.foldl (pstep (dm ms) (fun l=>(pv (dm ms) l).1) a (mem R)) (-1,0)∧KG (dm ms) l1∧(∀ y,(lkp l y).isSome=true→(lkp l1 y).isSome=true)∧(∀ c,c ∈ done→(lkp l1 (clrB R c)).isSome=true)) (mem R).length (by simp -implicitDefEqProofs only []; omega)
      ⟨R,[],(-1,0),l,ver,rfl,by rw [hsame]; rfl,rfl,hR64,rfl,rfl,hG,fun y h=>h,fun c h=>by cases h⟩ ?_
    rintro m r5 r9 r10 r11 r12 r13 r14 r15 r16 r17 r18 r19 r20 r21 r22 r23 r24 r25 r26 r27 r28 r29 r30 r31 r32 r33 r34 r35 r36 r37 r38 r39 r40 r41 s ⟨y,done,acc,l1,ver1,rfl,rfl,rfl,hy64,hdone,hacc,hG1,hmono,hin⟩
    simp -implicitDefEqProofs only [fq14.n4_w,sw0,sw1,sw2,sw3,sw4,sw5,reduceCtorEq,Nat.reduceEqDiff,Nat.reduceAdd,Nat.reduceDiv,Nat.reduceLeDiff]
    split
    · rename_i hne
      have hy0:y ≠ 0:=by omega
      obtain ⟨hc64,hmy⟩:=mem_first hy0 hy64
      obtain ⟨c,hc⟩:∃ c,c=ctzN 64 y:=⟨_,rfl⟩
      rw [← hc] at hc64 hmy
      have hcR:c ∈ mem R:=by rw [hdone,hmy]; simp
      have hcn:=mem_bound hRb hcR
      have hcRx:clrB R c < R:=clrB_lt hR64 (mem_iff.1 hcR).2
      have hmc:=mem_clr (i:=c) hR64
      have hwl:=wo_len mem_nodup hcR
      simp -implicitDefEqProofs only [fq14.n6_w,sw0,sw1,sw2,sw3,sw4,sw5,reduceCtorEq,Nat.reduceEqDiff,Nat.reduceAdd,Nat.reduceDiv,Nat.reduceLeDiff,hrb',first_stone (k:=k) (by omega) hy64,← hc,without_stone (k:=k) (by omega) hR64 hc64,VV_fn]
      refine ih (k:=k) (by omega) (x:=clrB R c) (by omega) (by rw [hmc]; omega) (hFs _ _) (hgm _ _) hG1 ?_
      intro ver2 l2 hG2 hmono2 hin2
      rw [hsm]
      have hpvb:=pm_le hDle 64 (mem (clrB R c))
      have hpvb:-1≤(pv (dm ms) (mem (clrB R c))).1∧(pv (dm ms) (mem (clrB R c))).1≤128000000:=by unfold pv; omega
      obtain ⟨qa,hqa⟩:∃ q,q=ms.getD a (0,0):=⟨_,rfl⟩
      obtain ⟨qc,hqc⟩:∃ q,q=ms.getD c (0,0):=⟨_,rfl⟩
      have hA1:=hAm a
      have hA2:=hAm c
      rw [← hqa] at hA1
      rw [← hqc] at hA2
      have hdm:dm ms a c=sz (qa.1 - qc.1) + sz (qa.2 - qc.2):=by unfold dm diff; rw [← hqa,← hqc]
      have hdl:=hDle a c
      have hs1:=fun (G:List AObj) (K:AV→St→Prop)=>size_s (H:=G) (K:=K) (lk:=false) (b:=some H.length) (k:=k) (by omega) (show -4000000≤qa.1 - qc.1∧qa.1 - qc.1≤4000000 by omega)
      have hs2:=fun (G:List AObj) (K:AV→St→Prop)=>size_s (H:=G) (K:=K) (lk:=false) (b:=some H.length) (k:=k) (by omega) (show -4000000≤qa.2 - qc.2∧qa.2 - qc.2≤4000000 by omega)
      have hz1:0≤sz (qa.1 - qc.1)∧sz (qa.1 - qc.1)≤4000000:=by unfold sz; omega
      have hz2:0≤sz (qa.2 - qc.2)∧sz (qa.2 - qc.2)≤4000000:=by unfold sz; omega
      have hw1:=wrap64 (n:=qa.1 - qc.1) (by omega)
      have hw2:=wrap64 (n:=qa.2 - qc.2) (by omega)
      have hw3:=wrap64 (n:=(pv (dm ms) (mem (clrB R c))).1 + sz (qa.1 - qc.1)) (by omega)
      have hw4:=wrap64 (n:=(pv (dm ms) (mem (clrB R c))).1 + sz (qa.1 - qc.1) + sz (qa.2 - qc.2)) (by omega)
      have hla0:=fun o X=>hld0 o X a han
      have hla1:=fun o X=>hld1 o X a han
      have hlc0:=fun o X=>hld0 o X c hcn
      have hlc1:=fun o X=>hld1 o X c hcn
      have hata:=fun o X=>hat' o X a han
      have hatc:=fun o X=>hat' o X c hcn
      rw [← hqa] at hla0 hla1
      rw [← hqc] at hlc0 hlc1
      simp -implicitDefEqProofs only [sw0,sw1,sw2,sw3,sw4,sw5,reduceCtorEq,Nat.reduceEqDiff,Nat.reduceAdd,Nat.reduceDiv,Nat.reduceLeDiff,hrl',hat,hata,hatc,hla0,hla1,hlc0,hlc1,hoff,han,hcn,hrb',hw1,hs1,hw2,hs2,hw3,hw4,hrp]
      have hmyc:=mem_clr (i:=c) hy64
      have hyl:(mem (clrB y c)).length < (mem y).length:=by rw [hmy]; simp
      have hdone':mem R=(done ++ [c]) ++ mem (clrB y c):=by rw [hdone,hmy]; simp
      have hin':∀ d,d ∈ done ++ [c]→(lkp l2 (clrB R d)).isSome=true:=by
        intro d hd
        rcases List.mem_append.1 hd with h | h
        · exact hmono2 _ (hin d h)
        · simp -implicitDefEqProofs only [List.mem_singleton] at h
          subst h
          exact hin2
      have hmono':∀ y,(lkp l y).isSome=true→(lkp l2 y).isSome=true:=fun y h=>hmono2 _ (hmono y h)
      have hstep:(done ++ [c]).foldl (pstep (dm ms) (fun l=>(pv (dm ms) l).1) a (mem R)) (-1,0)=pstep (dm ms) (fun l=>(pv (dm ms) l).1) a (mem R) acc c:=by
        rw [List.foldl_append,← hacc]; rfl
      have hpst:pstep (dm ms) (fun l=>(pv (dm ms) l).1) a (mem R) acc c=if acc.1 < 0∨(pv (dm ms) (mem (clrB R c))).1 + sz (qa.1 - qc.1) + sz (qa.2 - qc.2) < acc.1 then ((pv (dm ms) (mem (clrB R c))).1 + sz (qa.1 - qc.1) + sz (qa.2 - qc.2),c) else acc:=by
        unfold pstep
        rw [hdm,hmc,Int.add_assoc]
      rw [hpst] at hstep
      by_cases c1:acc.1 < 0
      · rw [if_pos (.inl c1)] at hstep
        simp -implicitDefEqProofs only [eq_true c1,sw0,sw1,sw2,sw3,sw4,sw5,reduceCtorEq,Nat.reduceEqDiff,Nat.reduceAdd,Nat.reduceDiv,Nat.reduceLeDiff,fq14.n7_w,fq14.n8_w,hrp,hsp,first_stone (k:=k) (by omega) hy64,← hc,without_stone (k:=k) (by omega) hy64 hc64]
        refine fq14.n3_go (m':=(mem (clrB y c)).length) hyl ⟨clrB y c,done ++ [c],_,l2,ver2,rfl,rfl,rfl,clrB_lt2,hdone',hstep.symm,hG2,hmono',hin'⟩
      · by_cases c2:(pv (dm ms) (mem (clrB R c))).1 + sz (qa.1 - qc.1) + sz (qa.2 - qc.2) < acc.1
        · rw [if_pos (.inr c2)] at hstep
          simp -implicitDefEqProofs only [eq_false c1,eq_true c2,sw0,sw1,sw2,sw3,sw4,sw5,reduceCtorEq,Nat.reduceEqDiff,Nat.reduceAdd,Nat.reduceDiv,Nat.reduceLeDiff,fq14.n7_w,fq14.n8_w,hrp,hsp,first_stone (k:=k) (by omega) hy64,← hc,without_stone (k:=k) (by omega) hy64 hc64]
          refine fq14.n3_go (m':=(mem (clrB y c)).length) hyl ⟨clrB y c,done ++ [c],_,l2,ver2,rfl,rfl,rfl,clrB_lt2,hdone',hstep.symm,hG2,hmono',hin'⟩
        · rw [if_neg (by omega)] at hstep
          simp -implicitDefEqProofs only [eq_false c1,eq_false c2,sw0,sw1,sw2,sw3,sw4,sw5,reduceCtorEq,Nat.reduceEqDiff,Nat.reduceAdd,Nat.reduceDiv,Nat.reduceLeDiff,fq14.n8_w,hrp,hsp,first_stone (k:=k) (by omega) hy64,← hc,without_stone (k:=k) (by omega) hy64 hc64]
          refine fq14.n3_go (m':=(mem (clrB y c)).length) hyl ⟨clrB y c,done ++ [c],_,l2,ver2,rfl,rfl,rfl,clrB_lt2,hdone',hstep.symm,hG2,hmono',hin'⟩
    · rename_i hz
      have hy0:y=0:=by omega
      subst hy0
      rw [mem_zero,List.append_nil] at hdone
      rw [← hdone] at hacc hin
      have hpv:pv (dm ms) (mem x)=acc:=by
        rw [hacc,hmx]
        exact pv_cons hnd (by rw [← hmx]; exact mem_len)
      have hupd:=upd_at key_uv (H:=H.set cm (.map shU ver1 (encE uvn l1)) ++ [.cells [iv acc.1,iv acc.2]]) (c:=cm) (ver:=ver1) (l:=l1) (hgm _ _) (base:=some H.length) (lk:=false) x (v:=.agg [iv acc.1,iv acc.2]) rfl
      rw [hsm] at hupd
      simp -implicitDefEqProofs only [fq14.n9_w,sw0,sw1,sw2,sw3,sw4,sw5,reduceCtorEq,Nat.reduceEqDiff,Nat.reduceAdd,Nat.reduceDiv,Nat.reduceLeDiff,hrk',hrp,hupd,fq14.ret]
      rw [List.take_left' (by simp)]
      have hse:∀ z,(lkp (ins l1 x (AV.agg [iv acc.1,iv acc.2])) z).isSome=true↔(z=x∨(lkp l1 z).isSome=true):=fun z=>by
        rw [lkp_ins]
        split
        · rename_i e; simp [e]
        · rename_i e; simp [e]
      have:=hK (ver1 + 1) (ins l1 x (AV.agg [iv acc.1,iv acc.2])) ⟨fun z v hz=>?_,(hse 0).2 (.inr hG1.zero),fun z a' S hz64 hz hms' d hd=>(hse _).2 ?_⟩ (fun z hz=>(hse z).2 (.inr (hmono z hz))) ((hse x).2 (.inl rfl))
      · rw [hpv] at this
        exact this
      · rw [lkp_ins] at hz
        split at hz
        · rename_i e
          subst e
          rw [hpv]
          simpa using hz.symm
        · exact hG1.val z v hz
      · rcases (hse z).1 hz with rfl | h
        · rw [hmx] at hms'
          simp -implicitDefEqProofs only [List.cons.injEq] at hms'
          obtain ⟨rfl,rfl⟩:=hms'
          rw [← hR]
          exact .inr (hin d hd)
        · exact .inr (hG1.down z a' S hz64 h hms' d hd)
end Go.Proofs.YtcebebhaahpoiaaDoor
end
section
namespace Go.Proofs.YtcebebhaahpoiaaDoor
open Go Go.Ai Go.W
attribute [local irreducible] VC YC WC
set_option linter.unusedSimpArgs false
set_option linter.unusedVariables false
set_option maxRecDepth 10000
variable {k:Nat} {b:Option Nat} {H:List AObj} {lk:Bool} {K:AV→St→Prop}
def prs (D:Nat→Nat→Int):Nat→List Nat→List (Int × Int)
  | 0,_=>[]
  | _ + 1,[]=>[]
  | r + 1,a :: S=>((a:Int),((pv D (a :: S)).2:Int)) :: prs D r (wo (pv D (a :: S)).2 S)
theorem prs_nil {D:Nat→Nat→Int} {r:Nat}:prs D r []=[]:=by cases r <;> rfl
theorem fold_mem {D:Nat→Nat→Int} {f:List Nat→Int} {a:Nat} {S0:List Nat}:∀ (S:List Nat) (z:Int × Nat),(z.1 < 0→z.2 ∈ S0∨S ≠ [])→(0≤z.1→z.2 ∈ S0)→(∀ c,c ∈ S→c ∈ S0)→(S.foldl (pstep D f a S0) z).2 ∈ S0
  | [],z,h1,h2,_=>by
    rcases Int.lt_or_le z.1 0 with h | h
    · exact (h1 h).resolve_right (fun e=>e rfl)
    · exact h2 h
  | c :: S,z,h1,h2,h3=>by
    rw [List.foldl_cons]
    have hc:=h3 c (by simp)
    have hz:(pstep D f a S0 z c).2 ∈ S0:=by
      unfold pstep
      split
      · exact hc
      · rename_i hn
        exact h2 (by omega)
    exact fold_mem S _ (fun _=>.inl hz) (fun _=>hz) (fun d hd=>h3 d (by simp [hd]))
theorem mate_mem {D:Nat→Nat→Int} {a:Nat} {S:List Nat} (hn:(a :: S).Nodup) (hl:(a :: S).length≤64) (hne:S ≠ []):(pv D (a :: S)).2 ∈ S:=by
  rw [pv_cons hn hl]
  exact fold_mem S _ (fun _=>.inr hne) (fun h=>absurd h (by decide)) (fun c h=>h)
theorem mem_full {n:Nat} (h:n≤16):mem (2 ^ n - 1)=List.range n:=by
  have:mem (2 ^ n - 1)=(List.range 64).filter (fun i=>decide (i < n)):=by
    unfold mem
    exact List.filter_congr fun i _=>by rw [Nat.testBit_two_pow_sub_one]
  rw [this]
  have key:∀ n:Fin 17,(List.range 64).filter (fun i=>decide (i < n.1))=List.range n.1:=by decide
  exact key ⟨n,by omega⟩
def matched (ms:List (Int × Int)):Bool:=decide (ms.length % 2=0∧ms.length≤16) && okM ms
def matchAns (ms:List (Int × Int)):List AV :=
  if matched ms then [.slice false 2 ((prs (dm ms) ms.length (List.range ms.length)).map kc),iv (pv (dm ms) (List.range ms.length)).1,iv 0]
  else [.slice false 2 [],iv 0,iv 2]
theorem Match_1_s (hk:1010≤k) {q:Int × Int}:VC ⟨prog,k,b⟩ F_fq13 [.agg (kc q)] ⟨H,lk⟩ K=K (.bool (!(amt q.1 && amt q.2))) ⟨H,lk⟩:=by
  obtain ⟨k,rfl⟩:∃ j,k=j + 1:=⟨k - 1,by omega⟩
  apply VC_iff
  apply fq13.enter
  have hs:SI (H ++ [.cells [iv q.1,iv q.2]]) (.slice true 1 [[iv q.1],[iv q.2]]) [q.1,q.2]:=Sl.lit Nat.one_pos ic_len rfl
  simp -implicitDefEqProofs only [fq13.n0_w,sw0,sw1,sw2,sw3,sw4,sw5,reduceCtorEq,Nat.reduceEqDiff,Nat.reduceAdd,Nat.reduceDiv,Nat.reduceLeDiff,kc,few_s (k:=k) (by omega) hs (by simp),fq13.ret,amts]
theorem fz_e2 {m c:Nat} (hb:row H c 0=some []) (hm:m≤c):frz m H 2 (.sref c 0 0 0 2)=.slice false 2 [] :=
  fz_own (f:=kc) (xs:=[]) (by omega) kc_len (fun x=>rfl) rfl hb hm
theorem Match_s (hk:1100≤k) {v:AV} {ms:List (Int × Int)} (hs:Sl H 2 kc v ms) (hl:ms.length≤1000) :
    VC ⟨prog,k,b⟩ F_fq12 [v] ⟨H,lk⟩ K=K (.tup (matchAns ms)) ⟨H,lk⟩:=by
  obtain ⟨k,rfl⟩:∃ j,k=j + 1:=⟨k - 1,by omega⟩
  apply VC_iff
  apply fq12.enter
  have hs':=hs.app (L:=[.cells [v],.cells []])
  have hcf:=fun (K:AV→St→Prop)=>ContainsFunc_Mark (K:=K) (k:=k) (b:=some H.length) (lk:=false) (by omega) (f:=F_fq13) (caps:=[]) hs' hl (vl:=fun q=>.agg (kc q)) (fun x=>rfl) (p:=fun q=>!(amt q.1 && amt q.2)) (fun x hx b lk K=>Match_1_s (k:=k - 2) (by omega))
  have hany:ms.any (fun q=>!(amt q.1 && amt q.2))=!okM ms:=by
    unfold okM
    rw [List.all_eq_not_any_not,Bool.not_not]
  simp -implicitDefEqProofs only [hany] at hcf
  have hfz:=fz_e2 (m:=H.length) (H:=H ++ [AObj.cells [v],AObj.cells [],AObj.cells []]) (c:=H.length + 2) (by simp -implicitDefEqProofs only [sw0,sw1,sw2,sw3,sw4,sw5,reduceCtorEq,Nat.reduceEqDiff,Nat.reduceAdd,Nat.reduceDiv,Nat.reduceLeDiff]) (by omega)
  have htm:(ms.length:Int).tmod 2=((ms.length % 2:Nat):Int):=by rw [Int.tmod_eq_emod_of_nonneg (by omega)]; omega
  have h20:((2:Int)=0)=False:=by simp
  have hbad:matched ms=false→matchAns ms=[.slice false 2 [],iv 0,iv 2]:=fun h=>by unfold matchAns; rw [h]; rfl
  by_cases c1:¬ ((ms.length % 2:Nat):Int)=0
  · have hm:matched ms=false:=by unfold matched; rw [show decide (ms.length % 2=0∧ms.length≤16)=false from decide_eq_false (by omega)]; rfl
    simp -implicitDefEqProofs only [fq12.n0_w,sw0,sw1,sw2,sw3,sw4,sw5,reduceCtorEq,Nat.reduceEqDiff,Nat.reduceAdd,Nat.reduceDiv,Nat.reduceLeDiff,hs.one,hs.cells,hs.len,htm,h20,eq_false c1,fq12.n1_w,fq12.ret,hfz,hbad hm]
  have c1:((ms.length % 2:Nat):Int)=0:=by omega
  by_cases c2:(16:Int) < ms.length
  · have hm:matched ms=false:=by unfold matched; rw [show decide (ms.length % 2=0∧ms.length≤16)=false from decide_eq_false (by omega)]; rfl
    simp -implicitDefEqProofs only [fq12.n0_w,sw0,sw1,sw2,sw3,sw4,sw5,reduceCtorEq,Nat.reduceEqDiff,Nat.reduceAdd,Nat.reduceDiv,Nat.reduceLeDiff,hs.one,hs.cells,hs.len,htm,h20,eq_true c1,eq_true c2,fq12.n1_w,fq12.ret,hfz,hbad hm]
  cases hok:okM ms
  · have hm:matched ms=false:=by unfold matched; rw [hok,Bool.and_false]
    rw [hok] at hcf
    simp -implicitDefEqProofs only [fq12.n0_w,sw0,sw1,sw2,sw3,sw4,sw5,reduceCtorEq,Nat.reduceEqDiff,Nat.reduceAdd,Nat.reduceDiv,Nat.reduceLeDiff,hs.one,hs.cells,hs.len,htm,h20,eq_true c1,eq_false c2,hcf,fq12.n1_w,fq12.ret,hfz,hbad hm]
  rw [hok] at hcf
  have hn16:ms.length≤16:=by omega
  have hm:matched ms=true:=by unfold matched; rw [hok,Bool.and_true]; exact decide_eq_true (by omega)
  have hans:matchAns ms=[.slice false 2 ((prs (dm ms) ms.length (List.range ms.length)).map kc),iv (pv (dm ms) (List.range ms.length)).1,iv 0]:=by unfold matchAns; rw [hm]; rfl
  have hpw:2 ^ ms.length≤2 ^ 16:=Nat.pow_le_pow_right (by omega) hn16
  have hpw1:0 < 2 ^ ms.length:=Nat.two_pow_pos _
  have hneg:¬ ((ms.length:Int) < 0):=by omega
  have e2:(1:Int) * 2 ^ min ms.length IntKind.u64.bits=((2 ^ ms.length:Nat):Int):=by
    rw [show IntKind.u64.bits=64 from rfl,Nat.min_eq_left (by omega)]; simp
  have hupd:eMupd (some H.length) ⟨H ++ [.cells [v],.cells [],.map shU 0 []],false⟩ shU (.map (H.length + 2)) (.int .u64 0) (.agg [iv 0,iv 0])=some ⟨H ++ [.cells [v],.cells [],.map shU 1 (encE uvn [(0,.agg [iv 0,iv 0])])],false⟩:=by
    have:=upd_at key_uv (H:=H ++ [.cells [v],.cells [],.map shU 0 []]) (c:=H.length + 2) (ver:=0) (l:=[]) (by simp -implicitDefEqProofs only [sw0,sw1,sw2,sw3,sw4,sw5,reduceCtorEq,Nat.reduceEqDiff,Nat.reduceAdd,Nat.reduceDiv,Nat.reduceLeDiff]; rfl) (base:=some H.length) (lk:=false) 0 (v:=.agg [iv 0,iv 0]) rfl
    refine this.trans ?_
    simp -implicitDefEqProofs only [sw0,sw1,sw2,sw3,sw4,sw5,reduceCtorEq,Nat.reduceEqDiff,Nat.reduceAdd,Nat.reduceDiv,Nat.reduceLeDiff,ins]
  have hneg2:((2 ^ ms.length:Nat):Int) - 1=((2 ^ ms.length - 1:Nat):Int):=by omega
  simp -implicitDefEqProofs only [fq12.n0_w,sw0,sw1,sw2,sw3,sw4,sw5,reduceCtorEq,Nat.reduceEqDiff,Nat.reduceAdd,Nat.reduceDiv,Nat.reduceLeDiff,hs.one,hs.cells,hs.len,htm,h20,eq_true c1,eq_false c2,hcf,fq12.n2_w,hupd,hneg,Int.toNat_natCast,e2,wrapu (show 2 ^ ms.length < 18446744073709551616 by omega)]
  rw [hneg2,wrapu (by omega)]
  have hG0:KG (dm ms) [(0,.agg [iv 0,iv 0])]:=by
    refine ⟨fun x u hx=>?_,rfl,fun x a S hx64 hx hms c hc=>?_⟩
    · simp -implicitDefEqProofs only [lkp] at hx
      split at hx
      · rename_i e; subst e
        rw [mem_zero,pv_nil]
        simpa using hx.symm
      · cases hx
    · simp -implicitDefEqProofs only [lkp] at hx
      split at hx
      · rename_i e; subst e
        rw [mem_zero] at hms
        cases hms
      · cases hx
  have hF:MF (H ++ [.cells [v],.cells [],.map shU 1 (encE uvn [(0,.agg [iv 0,iv 0])]),.cells [.map (H.length + 2)],.cells [.fn F_fq14 [.ptr (H.length + 3) 0 1,.ptr (H.length + 4) 0 1,.ptr H.length 0 1]]]) (H.length + 3) (H.length + 4) H.length (H.length + 2) ms v :=
    ⟨by simp -implicitDefEqProofs only [sw0,sw1,sw2,sw3,sw4,sw5,reduceCtorEq,Nat.reduceEqDiff,Nat.reduceAdd,Nat.reduceDiv,Nat.reduceLeDiff],by simp -implicitDefEqProofs only [sw0,sw1,sw2,sw3,sw4,sw5,reduceCtorEq,Nat.reduceEqDiff,Nat.reduceAdd,Nat.reduceDiv,Nat.reduceLeDiff],by simp -implicitDefEqProofs only [sw0,sw1,sw2,sw3,sw4,sw5,reduceCtorEq,Nat.reduceEqDiff,Nat.reduceAdd,Nat.reduceDiv,Nat.reduceLeDiff],hs.app⟩
  refine best_s hok hn16 64 (k:=k) (by omega) (x:=2 ^ ms.length - 1) (by omega) mem_len hF (ver:=1) (l:=[(0,.agg [iv 0,iv 0])]) (by simp -implicitDefEqProofs only [sw0,sw1,sw2,sw3,sw4,sw5,reduceCtorEq,Nat.reduceEqDiff,Nat.reduceAdd,Nat.reduceDiv,Nat.reduceLeDiff]) hG0 ?_
  intro ver' l' hG' _ hin
  rw [mem_full hn16]
  simp -implicitDefEqProofs only [sw0,sw1,sw2,sw3,sw4,sw5,reduceCtorEq,Nat.reduceEqDiff,Nat.reduceAdd,Nat.reduceDiv,Nat.reduceLeDiff]
  refine fq12.n3_l (fun m r1 r4 s=>∃ (y:Nat) (ps:List (Int × Int)) (r:Nat),r4=uv y∧r1=.sref (H.length + 1) 0 ps.length (ps.length * 2) 2∧s=⟨H ++ [.cells [v],.cells (ps.map kc).flatten,.map shU ver' (encE uvn l'),.cells [.map (H.length + 2)],.cells [.fn F_fq14 [.ptr (H.length + 3) 0 1,.ptr (H.length + 4) 0 1,.ptr H.length 0 1]]],false⟩ ∧
    m=(mem y).length∧y < 18446744073709551616∧(mem y).length % 2=0∧(lkp l' y).isSome=true∧(mem y).length≤r∧ps ++ prs (dm ms) r (mem y)=prs (dm ms) ms.length (List.range ms.length)∧ps.length + r=ms.length) ms.length (by simp -implicitDefEqProofs only []; omega)
    ⟨2 ^ ms.length - 1,[],ms.length,rfl,rfl,rfl,by rw [mem_full hn16,List.length_range],by omega,by rw [mem_full hn16,List.length_range]; omega,hin,by rw [mem_full hn16,List.length_range]; omega,by rw [mem_full hn16]; rfl,by simp⟩ ?_
  rintro m r0 r1 r4 r5 r7 r8 r9 r10 r11 r12 s ⟨y,ps,r,rfl,rfl,rfl,rfl,hy64,heven,hyin,hr,hps,hpl⟩
  simp -implicitDefEqProofs only [fq12.n4_w,sw0,sw1,sw2,sw3,sw4,sw5,reduceCtorEq,Nat.reduceEqDiff,Nat.reduceAdd,Nat.reduceDiv,Nat.reduceLeDiff]
  split
  · rename_i hne
    have hy0:y ≠ 0:=by omega
    obtain ⟨ha64,hmy⟩:=mem_first hy0 hy64
    obtain ⟨a,ha⟩:∃ a,a=ctzN 64 y:=⟨_,rfl⟩
    rw [← ha] at ha64 hmy
    obtain ⟨u,hu⟩:∃ u,lkp l' y=some u:=Option.isSome_iff_exists.1 hyin
    have huv:=hG'.val y u hu
    subst huv
    have hnd:(a :: mem (clrB y a)).Nodup:=by rw [← hmy]; exact mem_nodup
    have hSne:mem (clrB y a) ≠ []:=by
      intro e
      rw [hmy,e] at heven
      simp at heven
    have hmate:=mate_mem (D:=dm ms) hnd (by rw [← hmy]; exact mem_len) hSne
    rw [← hmy] at hmate
    obtain ⟨c,hc⟩:∃ c,c=(pv (dm ms) (mem y)).2:=⟨_,rfl⟩
    rw [← hc] at hmate hu
    have hc64:=mem_lt hmate
    have hlook:=fun (ok:Bool)=>look_at key_uv (H:=H ++ [.cells [v],.cells (ps.map kc).flatten,.map shU ver' (encE uvn l'),.cells [.map (H.length + 2)],.cells [.fn F_fq14 [.ptr (H.length + 3) 0 1,.ptr (H.length + 4) 0 1,.ptr H.length 0 1]]]) (c:=H.length + 2) (l:=l') ⟨ver',by simp -implicitDefEqProofs only [sw0,sw1,sw2,sw3,sw4,sw5,reduceCtorEq,Nat.reduceEqDiff,Nat.reduceAdd,Nat.reduceDiv,Nat.reduceLeDiff]⟩ (zero:=.agg [iv 0,iv 0]) (ok:=ok) y
    rw [hu] at hlook
    simp -implicitDefEqProofs only [Option.getD_some] at hlook
    have hlf:=hlook false
    simp -implicitDefEqProofs only [Bool.false_eq_true,if_false] at hlf
    have happ:=app_own (base:=some H.length) (lk:=false) (fl:=true) (bytes:=16) (f:=kc) (xs:=ps) (x:=((a:Int),(c:Int))) (H:=H ++ [.cells [v],.cells (ps.map kc).flatten,.map shU ver' (encE uvn l'),.cells [.map (H.length + 2)],.cells [.fn F_fq14 [.ptr (H.length + 3) 0 1,.ptr (H.length + 4) 0 1,.ptr H.length 0 1]]]) (c:=H.length + 1) (by omega) kc_len rfl rfl rfl (by simp -implicitDefEqProofs only [sw0,sw1,sw2,sw3,sw4,sw5,reduceCtorEq,Nat.reduceEqDiff,Nat.reduceAdd,Nat.reduceDiv,Nat.reduceLeDiff,row_hd,flat_len kc_len]) (by omega)
    simp -implicitDefEqProofs only [kc] at happ
    simp -implicitDefEqProofs only [fq12.n6_w,sw0,sw1,sw2,sw3,sw4,sw5,reduceCtorEq,Nat.reduceEqDiff,Nat.reduceAdd,Nat.reduceDiv,Nat.reduceLeDiff,first_stone (k:=k) (by omega) hy64,← ha,without_stone (k:=k) (by omega) hy64 ha64,without_stone (k:=k) (by omega) (clrB_lt2 (x:=y) (i:=a)) hc64,ck_lk,ck_nk,hlf,happ]
    obtain ⟨r,rfl⟩:∃ r',r=r' + 1:=⟨r - 1,by rw [hmy,List.length_cons] at hr; omega⟩
    have hm1:=mem_clr (i:=c) (clrB_lt2 (x:=y) (i:=a))
    have hml1:=wo_len mem_nodup hmate
    have hml2:(mem y).length=(mem (clrB y a)).length + 1:=by rw [hmy]; rfl
    refine fq12.n3_go (m':=(mem (clrB (clrB y a) c)).length) (by rw [hm1]; omega) ⟨clrB (clrB y a) c,ps ++ [((a:Int),(c:Int))],r,rfl,by simp,rfl,rfl,clrB_lt2,by rw [hm1]; omega,hG'.down y a _ hy64 hyin hmy c hmate,by rw [hm1]; omega,?_,by simp; omega⟩
    rw [← hps,hmy,prs,← hmy,← hc,hm1]
    simp
  · rename_i hz
    have hy0:y=0:=by omega
    subst hy0
    rw [mem_zero,prs_nil,List.append_nil] at hps
    subst hps
    have hfz2:=fz_own (m:=H.length) (f:=kc) (xs:=prs (dm ms) ms.length (List.range ms.length)) (c:=H.length + 1) (H:=H ++ [.cells [v],.cells ((prs (dm ms) ms.length (List.range ms.length)).map kc).flatten,.map shU ver' (encE uvn l'),.cells [.map (H.length + 2)],.cells [.fn F_fq14 [.ptr (H.length + 3) 0 1,.ptr (H.length + 4) 0 1,.ptr H.length 0 1]]]) (by omega) kc_len (fun x=>rfl) rfl (by simp -implicitDefEqProofs only [sw0,sw1,sw2,sw3,sw4,sw5,reduceCtorEq,Nat.reduceEqDiff,Nat.reduceAdd,Nat.reduceDiv,Nat.reduceLeDiff,row_hd,flat_len kc_len]) (by omega)
    simp -implicitDefEqProofs only [fq12.n7_w,sw0,sw1,sw2,sw3,sw4,sw5,reduceCtorEq,Nat.reduceEqDiff,Nat.reduceAdd,Nat.reduceDiv,Nat.reduceLeDiff,fq12.ret,hfz2,hans]
end Go.Proofs.YtcebebhaahpoiaaDoor
end
section
namespace Go.Proofs.YtcebebhaahpoiaaDoor
open Go Go.Ai Go.W
attribute [local irreducible] VC YC WC
set_option linter.unusedSimpArgs false
set_option linter.unusedVariables false
set_option maxRecDepth 10000
variable {k:Nat} {b:Option Nat} {H:List AObj} {lk:Bool} {K:AV→St→Prop}
theorem or_nat {x y:Nat} (hx:x < 18446744073709551616) (hy:y < 18446744073709551616):(BitVec.ofInt IntKind.u64.bits (x:Int) ||| BitVec.ofInt IntKind.u64.bits (y:Int)).toNat=x ||| y:=by
  show (BitVec.ofInt 64 (x:Int) ||| BitVec.ofInt 64 (y:Int)).toNat=_
  rw [ofInt_nat,ofInt_nat,BitVec.toNat_or,BitVec.toNat_ofNat,BitVec.toNat_ofNat,Nat.mod_eq_of_lt hx,Nat.mod_eq_of_lt hy]
theorem with_place (hk:1≤k) {x i:Nat} (hx:x < 18446744073709551616) (hi:i < 64):VC ⟨prog,k,b⟩ F_fq36 [uv x,iv i] ⟨H,lk⟩ K=K (uv (x ||| 2 ^ i)) ⟨H,lk⟩:=by
  obtain ⟨k,rfl⟩:∃ j,k=j + 1:=⟨k - 1,by omega⟩
  apply VC_iff
  apply fq36.enter
  have hp:(2:Nat) ^ i≤2 ^ 63:=Nat.pow_le_pow_right (by omega) (by omega)
  have hneg:¬ ((i:Int) < 0):=by omega
  have e2:(1:Int) * 2 ^ min i IntKind.u64.bits=((2 ^ i:Nat):Int):=by
    rw [show IntKind.u64.bits=64 from rfl,Nat.min_eq_left (by omega)]; simp
  have hlt:x ||| 2 ^ i < 2 ^ 64:=Nat.or_lt_two_pow (by omega) (by omega)
  simp -implicitDefEqProofs only [fq36.n0_w,sw0,sw1,sw2,sw3,sw4,sw5,reduceCtorEq,Nat.reduceEqDiff,Nat.reduceAdd,Nat.reduceDiv,Nat.reduceLeDiff,wrapu (show i < 18446744073709551616 by omega),hneg,Int.toNat_natCast,e2,wrapu (show 2 ^ i < 18446744073709551616 by omega),b_or,or_nat hx (show 2 ^ i < 18446744073709551616 by omega),wrapu (show x ||| 2 ^ i < 18446744073709551616 by omega),fq36.ret]
def rnd (n:Int) (l:List Int):Bool:=decide ((∀ x,x ∈ l→0≤x∧x≤n - 1)∧l.Nodup∧(l.length:Int)=n)
theorem CheckRotation_1_s (hk:600≤k) {v:AV} {l:List Int} {c:Nat} {n:Int} (hs:SI H v l) (hl:l.length≤500) (hn:1≤n∧n≤8) (hc:row H c 1=some [iv n]) :
    VC ⟨prog,k,b⟩ F_fq8 [v,.ptr c 0 1] ⟨H,lk⟩ K=K (.bool (!rnd n l)) ⟨H,lk⟩:=by
  obtain ⟨k,rfl⟩:∃ j,k=j + 1:=⟨k - 1,by omega⟩
  apply VC_iff
  apply fq8.enter
  simp -implicitDefEqProofs only [fq8.n0_w,sw0,sw1,sw2,sw3,sw4,sw5,reduceCtorEq,Nat.reduceEqDiff,Nat.reduceAdd,Nat.reduceDiv,Nat.reduceLeDiff,hs.len]
  refine fq8.n1_l (fun m r3 r4 s=>∃ (i S:Nat),r3=uv S∧r4=iv i∧s=⟨H,false⟩∧m=l.length - i∧i≤l.length∧S < 256∧(∀ j:Nat,S.testBit j=decide ((j:Int) ∈ l.take i))∧(∀ x,x ∈ l.take i→0≤x∧x≤n - 1)∧(l.take i).Nodup) l.length (by simp -implicitDefEqProofs only []; omega)
    ⟨0,0,rfl,rfl,rfl,rfl,by omega,by omega,by simp,by simp,by simp⟩ ?_
  rintro m r2 r3 r4 r6 r7 r8 r9 s ⟨i,S,rfl,rfl,rfl,rfl,hi,hS,hbit,hin,hnd⟩
  simp -implicitDefEqProofs only [fq8.n2_w,sw0,sw1,sw2,sw3,sw4,sw5,reduceCtorEq,Nat.reduceEqDiff,Nat.reduceAdd,Nat.reduceDiv,Nat.reduceLeDiff]
  split
  · rename_i hlt
    have hlt:i < l.length:=by omega
    obtain ⟨x,hx⟩:∃ x,x=l[i]:=⟨_,rfl⟩
    have htk:l.take (i + 1)=l.take i ++ [x]:=by rw [hx]; exact (List.take_append_getElem hlt).symm
    have hxl:x ∈ l:=by rw [hx]; exact List.getElem_mem hlt
    have hw:=wrap64 (n:=n - 1) (by omega)
    by_cases c1:0≤x∧x≤n - 1
    · obtain ⟨y,hy⟩:=Int.eq_ofNat_of_zero_le c1.1
      have hy8:y < 8:=by omega
      have hhas:=fun (K:AV→St→Prop)=>has_place (K:=K) (k:=k) (b:=some H.length) (lk:=false) (H:=H) (by omega) (show S < 18446744073709551616 by omega) (show y < 64 by omega)
      rw [hy] at hx c1 htk hxl
      have hld:=hs.ld hlt hs.pos
      rw [← hx] at hld
      cases hb:S.testBit y
      · rw [hb] at hhas
        have hnot:((y:Nat):Int) ∉ l.take i:=by
          have:=hbit y
          rw [hb] at this
          simpa using this.symm
        simp -implicitDefEqProofs only [fq8.n4_w,sw0,sw1,sw2,sw3,sw4,sw5,reduceCtorEq,Nat.reduceEqDiff,Nat.reduceAdd,Nat.reduceDiv,Nat.reduceLeDiff,hs.at,hlt,hld,ic,hc,hw,within_s (k:=k) (by omega),eq_true c1,hhas,fq8.n6_w,with_place (k:=k) (by omega) (show S < 18446744073709551616 by omega) (show y < 64 by omega),fq8.n7_w]
        refine fq8.n1_go (m':=l.length - (i + 1)) (by omega) ⟨i + 1,S ||| 2 ^ y,rfl,by rw [wrap64 (by omega)]; rfl,rfl,rfl,by omega,?_,fun j=>?_,fun z hz=>?_,?_⟩
        · exact Nat.or_lt_two_pow (n:=8) hS (Nat.pow_lt_pow_right (by omega) hy8)
        · rw [Nat.testBit_or,Nat.testBit_two_pow,hbit,htk]
          by_cases e:y=j
          · subst e; simp
          · have e':¬ ((j:Nat):Int)=y:=by omega
            simp [e,e']
        · rw [htk] at hz
          rcases List.mem_append.1 hz with h | h
          · exact hin z h
          · simp -implicitDefEqProofs only [List.mem_singleton] at h
            rw [h]; exact c1
        · rw [htk,List.nodup_append]
          refine ⟨hnd,by simp,fun a ha b hb=>?_⟩
          simp -implicitDefEqProofs only [List.mem_singleton] at hb
          subst hb
          exact fun e=>hnot (e ▸ ha)
      · rw [hb] at hhas
        have hyes:((y:Nat):Int) ∈ l.take i:=by
          have:=hbit y
          rw [hb] at this
          simpa using this.symm
        have hno:rnd n l=false:=by
          refine decide_eq_false fun h=>?_
          have h2:=(List.take_sublist (i + 1) l).nodup h.2.1
          rw [htk,List.nodup_append] at h2
          exact h2.2.2 _ hyes _ (by simp) rfl
        simp -implicitDefEqProofs only [fq8.n4_w,sw0,sw1,sw2,sw3,sw4,sw5,reduceCtorEq,Nat.reduceEqDiff,Nat.reduceAdd,Nat.reduceDiv,Nat.reduceLeDiff,hs.at,hlt,hld,ic,hc,hw,within_s (k:=k) (by omega),eq_true c1,hhas,fq8.n5_w,fq8.ret,hno]
    · have hno:rnd n l=false:=decide_eq_false fun h=>c1 (h.1 x hxl)
      have hld:=hs.ld hlt hs.pos
      rw [← hx] at hld
      simp -implicitDefEqProofs only [fq8.n4_w,sw0,sw1,sw2,sw3,sw4,sw5,reduceCtorEq,Nat.reduceEqDiff,Nat.reduceAdd,Nat.reduceDiv,Nat.reduceLeDiff,hs.at,hlt,hld,ic,hc,hw,within_s (k:=k) (by omega),eq_false c1,fq8.n5_w,fq8.ret,hno]
  · rename_i hge
    rw [List.take_of_length_le (by omega)] at hin hnd
    by_cases c3:(l.length:Int)=n
    · have:rnd n l=true:=decide_eq_true ⟨hin,hnd,c3⟩
      simp -implicitDefEqProofs only [fq8.n8_w,sw0,sw1,sw2,sw3,sw4,sw5,reduceCtorEq,Nat.reduceEqDiff,Nat.reduceAdd,Nat.reduceDiv,Nat.reduceLeDiff,hs.len,hc,eq_true c3,this,fq8.ret]
    · have:rnd n l=false:=decide_eq_false fun h=>c3 h.2.2
      simp -implicitDefEqProofs only [fq8.n8_w,sw0,sw1,sw2,sw3,sw4,sw5,reduceCtorEq,Nat.reduceEqDiff,Nat.reduceAdd,Nat.reduceDiv,Nat.reduceLeDiff,hs.len,hc,eq_false c3,this,fq8.ret]
abbrev rc (q:AV × List Int):List AV:=[q.1]
theorem rc_len (q:AV × List Int):(rc q).length=1:=rfl
structure RD (H:List AObj) (v:AV) (rs:List (AV × List Int)):Prop where
  sl:Sl H 1 rc v rs
  row:∀ q,q ∈ rs→SI H q.1 q.2
theorem RD.app {H:List AObj} {v:AV} {rs:List (AV × List Int)} (h:RD H v rs) {L:List AObj}:RD (H ++ L) v rs:=⟨h.sl.app,fun q hq=>(h.row q hq).app⟩
def rot (n:Int) (rs:List (AV × List Int)):Bool:=decide (1≤n∧n≤8) && decide (rs.length≤100) && rs.all (fun q=>rnd n q.2)
theorem CheckRotation_s (hk:1610≤k) {v:AV} {n:Int} {rs:List (AV × List Int)} (hs:RD H v rs) (hl:rs.length≤1000) (hw:∀ q,q ∈ rs→q.2.length≤500) :
    VC ⟨prog,k,b⟩ F_fq7 [iv n,v] ⟨H,lk⟩ K=K (.bool (rot n rs)) ⟨H,lk⟩:=by
  obtain ⟨k,rfl⟩:∃ j,k=j + 1:=⟨k - 1,by omega⟩
  apply VC_iff
  apply fq7.enter
  have hs':=hs.app (L:=[.cells [iv n]])
  by_cases c1:1≤n∧n≤8
  · by_cases c2:(100:Int) < rs.length
    · have hno:rot n rs=false:=by unfold rot; rw [decide_eq_false (show ¬ rs.length≤100 by omega)]; simp
      simp -implicitDefEqProofs only [fq7.n0_w,sw0,sw1,sw2,sw3,sw4,sw5,reduceCtorEq,Nat.reduceEqDiff,Nat.reduceAdd,Nat.reduceDiv,Nat.reduceLeDiff,within_s (k:=k) (by omega),eq_true c1,hs.sl.len,eq_true c2,fq7.n1_w,fq7.ret,hno]
    · have hcf:=fun (K:AV→St→Prop)=>ContainsFunc_s_int (K:=K) (k:=k) (b:=some H.length) (lk:=false) (by omega) (f:=F_fq8) (caps:=[.ptr H.length 0 1]) hs'.sl hl (vl:=fun q=>q.1) (fun x=>rfl) (p:=fun q=>!rnd n q.2) (fun x hx b lk K=>CheckRotation_1_s (k:=k - 2) (by omega) (hs'.row x hx) (hw x hx) c1 (by simp -implicitDefEqProofs only [sw0,sw1,sw2,sw3,sw4,sw5,reduceCtorEq,Nat.reduceEqDiff,Nat.reduceAdd,Nat.reduceDiv,Nat.reduceLeDiff]))
      have hyes:rot n rs=!(rs.any fun q=>!rnd n q.2):=by
        unfold rot; rw [decide_eq_true c1,decide_eq_true (show rs.length≤100 by omega),List.all_eq_not_any_not]; simp
      simp -implicitDefEqProofs only [fq7.n0_w,sw0,sw1,sw2,sw3,sw4,sw5,reduceCtorEq,Nat.reduceEqDiff,Nat.reduceAdd,Nat.reduceDiv,Nat.reduceLeDiff,within_s (k:=k) (by omega),eq_true c1,hs.sl.len,eq_false c2,fq7.n2_w,hcf,fq7.ret,hyes]
  · have hno:rot n rs=false:=by unfold rot; rw [decide_eq_false c1]; simp
    simp -implicitDefEqProofs only [fq7.n0_w,sw0,sw1,sw2,sw3,sw4,sw5,reduceCtorEq,Nat.reduceEqDiff,Nat.reduceAdd,Nat.reduceDiv,Nat.reduceLeDiff,within_s (k:=k) (by omega),eq_false c1,fq7.n1_w,fq7.ret,hno]
def lm (D:Nat→Nat→Int) (n:Nat):Nat→List Nat→Int × Nat
  | 0,_=>(0,0)
  | _ + 1,[]=>(0,0)
  | r + 1,a :: S=>(a :: S).foldl (pstep D (fun l=>(lm D n r l).1) (n - (S.length + 1)) (a :: S)) (-1,0)
theorem lm_fuel {D:Nat→Nat→Int} {n:Nat}:∀ {r r':Nat} {S:List Nat},S.Nodup→S.length≤r→S.length≤r'→lm D n r S=lm D n r' S
  | 0,r',S,_,h,_=>by
    have:S=[]:=List.eq_nil_of_length_eq_zero (by omega)
    subst this
    cases r' <;> rfl
  | r + 1,0,S,_,_,h=>by
    have:S=[]:=List.eq_nil_of_length_eq_zero (by omega)
    subst this
    rfl
  | r + 1,r' + 1,[],_,_,_=>rfl
  | r + 1,r' + 1,a :: S,hn,h,h'=>by
    simp -implicitDefEqProofs only [List.length_cons] at h h'
    simp -implicitDefEqProofs only [lm]
    refine foldl_same fun c hc y=>?_
    have hl:=wo_len hn hc
    simp -implicitDefEqProofs only [List.length_cons] at hl
    exact pstep_congr (by rw [lm_fuel (r':=r') (wo_nodup hn) (by omega) (by omega)])
def lv (D:Nat→Nat→Int) (n:Nat) (S:List Nat):Int × Nat:=lm D n 64 S
theorem lv_nil {D:Nat→Nat→Int} {n:Nat}:lv D n []=(0,0):=rfl
theorem lv_cons {D:Nat→Nat→Int} {n:Nat} {S:List Nat} (hne:S ≠ []) (hn:S.Nodup) (hl:S.length≤64):lv D n S=S.foldl (pstep D (fun l=>(lv D n l).1) (n - S.length) S) (-1,0):=by
  cases S with
  | nil=>exact absurd rfl hne
  | cons a S =>
    unfold lv
    rw [lm]
    simp -implicitDefEqProofs only [List.length_cons] at hl ⊢
    refine foldl_same fun c hc y=>?_
    have h:=wo_len hn hc
    simp -implicitDefEqProofs only [List.length_cons] at h
    exact pstep_congr (by rw [lm_fuel (r:=63) (r':=64) (wo_nodup hn) (by omega) (by omega)])
theorem lm_le {D:Nat→Nat→Int} {n:Nat} {M:Int} (hD:∀ a c,0≤D a c∧D a c≤M):∀ (r:Nat) (S:List Nat),-1≤(lm D n r S).1∧(lm D n r S).1≤r * M
  | 0,S=>by simp [lm]
  | r + 1,[]=>by
    have:=hD 0 0
    have h2:0≤((r + 1:Nat):Int) * M:=Int.mul_nonneg (by omega) (by omega)
    simp -implicitDefEqProofs only [lm]
    omega
  | r + 1,a :: S=>by
    simp -implicitDefEqProofs only [lm]
    have hM:=hD 0 0
    have h2:0≤(r:Int) * M:=Int.mul_nonneg (by omega) (by omega)
    have h3:((r + 1:Nat):Int) * M=r * M + M:=by rw [Int.natCast_add,Int.add_mul]; simp
    have key:∀ (l:List Nat) (z:Int × Nat),(-1≤z.1∧z.1≤r * M + M)→-1≤(l.foldl (pstep D (fun l=>(lm D n r l).1) (n - (S.length + 1)) (a :: S)) z).1∧(l.foldl (pstep D (fun l=>(lm D n r l).1) (n - (S.length + 1)) (a :: S)) z).1≤r * M + M:=by
      intro l
      induction l with
      | nil=>intro z hz; exact hz
      | cons c l ih =>
        intro z hz
        rw [List.foldl_cons]
        refine ih _ ?_
        have:=lm_le (n:=n) hD r (wo c (a :: S))
        have:=hD (n - (S.length + 1)) c
        unfold pstep
        split
        · dsimp only; omega
        · exact hz
    rw [h3]
    exact key (a :: S) (-1,0) (by dsimp only; omega)
end Go.Proofs.YtcebebhaahpoiaaDoor
end
section
namespace Go.Proofs.YtcebebhaahpoiaaDoor
open Go Go.Ai Go.W
attribute [local irreducible] VC YC WC
set_option linter.unusedSimpArgs false
set_option linter.unusedVariables false
set_option maxRecDepth 10000
variable {k:Nat} {b:Option Nat} {H:List AObj} {lk:Bool} {K:AV→St→Prop}
def tab8 (D:Nat→Nat→Int):List AV:=(List.range 64).map fun i=>iv (D (i / 8) (i % 8))
theorem tab8_len {D:Nat→Nat→Int}:(tab8 D).length=64:=by simp [tab8]
theorem tab8_at {D:Nat→Nat→Int} {s x:Nat} (hs:s < 8) (hx:x < 8):(tab8 D)[s * 8 + x]?=some (iv (D s x)):=by
  unfold tab8
  rw [List.getElem?_map,List.getElem?_range (by omega),Option.map_some]
  congr 3
  · omega
  · omega
structure LG (D:Nat→Nat→Int) (n:Nat) (l:List (Nat × AV)):Prop where
  val:∀ x v,lkp l x=some v→v=iv (lv D n (mem x)).1
structure NF (H:List AObj) (ck cb cu cm:Nat) (D:Nat→Nat→Int):Prop where
  k:H[ck]?=some (.cells [.map cm])
  b:H[cb]?=some (.cells [.fn F_fq16 [.ptr ck 0 1,.ptr cb 0 1,.ptr cu 0 64]])
  u:H[cu]?=some (.cells (tab8 D))
theorem NF.set {H:List AObj} {ck cb cu cm:Nat} {D:Nat→Nat→Int} (h:NF H ck cb cu cm D) {o:AObj} (hc:∀ cs,H[cm]? ≠ some (AObj.cells cs)):NF (H.set cm o) ck cb cu cm D:=by
  have key:∀ c cs,H[c]?=some (AObj.cells cs)→(H.set cm o)[c]?=some (AObj.cells cs):=fun c cs e=>by
    rw [List.getElem?_set_ne (fun e'=>by subst e'; exact hc _ e)]
    exact e
  exact ⟨key _ _ h.k,key _ _ h.b,key _ _ h.u⟩
theorem NF.app {H:List AObj} {ck cb cu cm:Nat} {D:Nat→Nat→Int} (h:NF H ck cb cu cm D) {L:List AObj}:NF (H ++ L) ck cb cu cm D:=⟨get_app h.k,get_app h.b,get_app h.u⟩
theorem least_s {D:Nat→Nat→Int} {n:Nat} (hD:∀ a c,0≤D a c∧D a c≤1000) (hn:n≤8) {ck cb cu cm:Nat}:∀ (r:Nat) {k:Nat} {b:Option Nat} {H:List AObj} {lk:Bool} {K:AV→St→Prop} (hk:r + 100≤k) {x ver sh:Nat} {l:List (Nat × AV)} (hx:x < 2 ^ n) (hr:(mem x).length≤r) (hsh:sh + (mem x).length=n) (hF:NF H ck cb cu cm D) (hM:H[cm]?=some (.map shU ver (encE uvn l))) (hG:LG D n l)
    (hK:∀ ver' l',LG D n l'→K (iv (lv D n (mem x)).1) ⟨H.set cm (.map shU ver' (encE uvn l')),lk⟩),
    VC ⟨prog,k,b⟩ F_fq16 [uv x,iv sh,.ptr ck 0 1,.ptr cb 0 1,.ptr cu 0 64] ⟨H,lk⟩ K:=by
  intro r
  induction r with
  | zero=>?_
  | succ r ih=>?_
  all_goals
    intro k b H lk K hk x ver sh l hx hr hsh hF hM hG hK
    obtain ⟨k,rfl⟩:∃ j,k=j + 1:=⟨k - 1,by omega⟩
    have hx64:x < 18446744073709551616:=by
      have:=Nat.pow_le_pow_right (show 0 < 2 by omega) hn
      omega
    apply fq16.enter
    have hrk:=row_of hF.k (v:=1) rfl
    have hlook:=look_at key_uv (H:=H) (c:=cm) (l:=l) ⟨ver,hM⟩ (zero:=iv 0) (ok:=true) x
    have hsame:H.set cm (.map shU ver (encE uvn l))=H:=by
      obtain ⟨h1,h2⟩:=List.getElem?_eq_some_iff.1 hM
      rw [← h2,List.set_getElem_self]
    have hK0:=hK ver l hG
    rw [hsame] at hK0
    by_cases c0:(x:Int)=0
    · have e0:x=0:=by omega
      rw [e0,mem_zero,lv_nil] at hK0
      simp -implicitDefEqProofs only [fq16.n0_w,sw0,sw1,sw2,sw3,sw4,sw5,reduceCtorEq,Nat.reduceEqDiff,Nat.reduceAdd,Nat.reduceDiv,Nat.reduceLeDiff,eq_true c0,fq16.n1_w,fq16.ret]
      exact hK0
    cases hf:lkp l x with
    | some v =>
      have hv:=hG.val x v hf
      rw [hf] at hlook
      subst hv
      simp -implicitDefEqProofs only [Option.getD_some,Option.isSome_some,if_true] at hlook
      simp -implicitDefEqProofs only [fq16.n0_w,sw0,sw1,sw2,sw3,sw4,sw5,reduceCtorEq,Nat.reduceEqDiff,Nat.reduceAdd,Nat.reduceDiv,Nat.reduceLeDiff,eq_false c0,fq16.n2_w,hrk,hlook,fq16.n3_w,fq16.ret]
      exact hK0
    | none=>?_
  · have hx0:x=0:=mem_nil hx64 (List.eq_nil_of_length_eq_zero (by omega))
    exact absurd hx0 (by omega)
  · rw [hf] at hlook
    simp -implicitDefEqProofs only [Option.getD_none,Option.isSome_none,if_true] at hlook
    have hx0:x ≠ 0:=by omega
    have hne:mem x ≠ []:=fun e=>hx0 (mem_nil hx64 e)
    simp -implicitDefEqProofs only [fq16.n0_w,sw0,sw1,sw2,sw3,sw4,sw5,reduceCtorEq,Nat.reduceEqDiff,Nat.reduceAdd,Nat.reduceDiv,Nat.reduceLeDiff,eq_false c0,fq16.n2_w,hrk,hlook,fq16.n4_w]
    have hnc:∀ cs,H[cm]? ≠ some (AObj.cells cs):=fun cs e=>by rw [hM] at e; cases e
    have hcm:cm < H.length:=(List.getElem?_eq_some_iff.1 hM).1
    have hFs:∀ o,NF (H.set cm o) ck cb cu cm D:=fun o=>hF.set hnc
    have hrk':∀ o,row (H.set cm o) ck 1=some [.map cm]:=fun o=>row_of (hFs o).k rfl
    have hrb':∀ o,row (H.set cm o) cb 1=some [.fn F_fq16 [.ptr ck 0 1,.ptr cb 0 1,.ptr cu 0 64]]:=fun o=>row_of (hFs o).b rfl
    have hru':∀ o,row (H.set cm o) cu 64=some (tab8 D):=fun o=>row_of (hFs o).u tab8_len
    have hsm:∀ o o',(H.set cm o).set cm o'=H.set cm o':=fun o o'=>List.set_set ..
    have hgm:∀ o,(H.set cm o)[cm]?=some o:=fun o=>List.getElem?_set_self hcm
    have hsh8:sh < 8:=by
      have:0 < (mem x).length:=List.length_pos_iff.2 hne
      omega
    refine fq16.n5_l (fun m r6 r7 s=>∃ (y:Nat) (done:List Nat) (acc:Int × Nat) (l1:List (Nat × AV)) (ver1:Nat),r6=iv acc.1∧r7=uv y∧s=⟨H.set cm (.map shU ver1 (encE uvn l1)),false⟩∧m=(mem y).length∧y < 18446744073709551616∧mem x=done ++ mem y ∧
      acc=done.foldl (pstep D (fun l=>(lv D n l).1) (n - (mem x).length) (mem x)) (-1,0)∧LG D n l1) (mem x).length (by simp -implicitDefEqProofs only []; omega)
      ⟨x,[],(-1,0),l,ver,rfl,rfl,by rw [hsame],rfl,hx64,rfl,rfl,hG⟩ ?_
    rintro m r6 r7 r8 r9 r10 r11 r12 r13 r14 r15 r16 r17 r18 r19 r20 r21 r22 s ⟨y,done,acc,l1,ver1,rfl,rfl,rfl,rfl,hy64,hdone,hacc,hG1⟩
    simp -implicitDefEqProofs only [fq16.n6_w,sw0,sw1,sw2,sw3,sw4,sw5,reduceCtorEq,Nat.reduceEqDiff,Nat.reduceAdd,Nat.reduceDiv,Nat.reduceLeDiff]
    split
    · rename_i hne
      have hy0:y ≠ 0:=by omega
      obtain ⟨hc64,hmy⟩:=mem_first hy0 hy64
      obtain ⟨c,hc⟩:∃ c,c=ctzN 64 y:=⟨_,rfl⟩
      rw [← hc] at hc64 hmy
      have hcx:c ∈ mem x:=by rw [hdone,hmy]; simp
      have hcn:=mem_bound hx hcx
      have hcxx:clrB x c < x:=clrB_lt hx64 (mem_iff.1 hcx).2
      have hmc:=mem_clr (i:=c) hx64
      have hwl:=wo_len mem_nodup hcx
      have hws:IntKind.i64.wrap ((sh:Int) + 1)=((sh + 1:Nat):Int):=by rw [wrap64 (by omega)]; rfl
      simp -implicitDefEqProofs only [fq16.n8_w,sw0,sw1,sw2,sw3,sw4,sw5,reduceCtorEq,Nat.reduceEqDiff,Nat.reduceAdd,Nat.reduceDiv,Nat.reduceLeDiff,hrb',first_place (k:=k) (by omega) hy64,← hc,without_place (k:=k) (by omega) hx64 hc64,VV_fn,hws]
      refine ih (k:=k) (by omega) (x:=clrB x c) (sh:=sh + 1) (by omega) (by rw [hmc]; omega) (by rw [hmc]; omega) (hFs _) (hgm _) hG1 ?_
      intro ver2 l2 hG2
      rw [hsm]
      have hpvb:=lm_le (n:=n) hD 64 (mem (clrB x c))
      have hpvb:-1≤(lv D n (mem (clrB x c))).1∧(lv D n (mem (clrB x c))).1≤64000:=by unfold lv; omega
      have hdl:=hD sh c
      have hw3:=wrap64 (n:=(lv D n (mem (clrB x c))).1 + D sh c) (by omega)
      have hta:(tab8 D)[sh * 8 + c * 1]?=some (iv (D sh c)):=by rw [Nat.mul_one]; exact tab8_at hsh8 (by omega)
      have hc8:c < 8:=by omega
      have hshe:n - (mem x).length=sh:=by omega
      simp -implicitDefEqProofs only [sw0,sw1,sw2,sw3,sw4,sw5,reduceCtorEq,Nat.reduceEqDiff,Nat.reduceAdd,Nat.reduceDiv,Nat.reduceLeDiff,hrb',hru',idx_i,hsh8,hc8,hta,hw3]
      have hmyc:=mem_clr (i:=c) hy64
      have hyl:(mem (clrB y c)).length < (mem y).length:=by rw [hmy]; simp
      have hdone':mem x=(done ++ [c]) ++ mem (clrB y c):=by rw [hdone,hmy]; simp
      have hstep:(done ++ [c]).foldl (pstep D (fun l=>(lv D n l).1) (n - (mem x).length) (mem x)) (-1,0)=pstep D (fun l=>(lv D n l).1) (n - (mem x).length) (mem x) acc c:=by
        rw [List.foldl_append,← hacc]; rfl
      have hpst:pstep D (fun l=>(lv D n l).1) (n - (mem x).length) (mem x) acc c=if acc.1 < 0∨(lv D n (mem (clrB x c))).1 + D sh c < acc.1 then ((lv D n (mem (clrB x c))).1 + D sh c,c) else acc:=by
        unfold pstep
        rw [hshe,hmc]
      rw [hpst] at hstep
      by_cases c1:acc.1 < 0
      · rw [if_pos (.inl c1)] at hstep
        simp -implicitDefEqProofs only [eq_true c1,sw0,sw1,sw2,sw3,sw4,sw5,reduceCtorEq,Nat.reduceEqDiff,Nat.reduceAdd,Nat.reduceDiv,Nat.reduceLeDiff,fq16.n9_w,fq16.n10_w,first_place (k:=k) (by omega) hy64,← hc,without_place (k:=k) (by omega) hy64 hc64]
        refine fq16.n5_go (m':=(mem (clrB y c)).length) hyl ⟨clrB y c,done ++ [c],_,l2,ver2,rfl,rfl,rfl,rfl,clrB_lt2,hdone',hstep.symm,hG2⟩
      · by_cases c2:(lv D n (mem (clrB x c))).1 + D sh c < acc.1
        · rw [if_pos (.inr c2)] at hstep
          simp -implicitDefEqProofs only [eq_false c1,eq_true c2,sw0,sw1,sw2,sw3,sw4,sw5,reduceCtorEq,Nat.reduceEqDiff,Nat.reduceAdd,Nat.reduceDiv,Nat.reduceLeDiff,fq16.n9_w,fq16.n10_w,first_place (k:=k) (by omega) hy64,← hc,without_place (k:=k) (by omega) hy64 hc64]
          refine fq16.n5_go (m':=(mem (clrB y c)).length) hyl ⟨clrB y c,done ++ [c],_,l2,ver2,rfl,rfl,rfl,rfl,clrB_lt2,hdone',hstep.symm,hG2⟩
        · rw [if_neg (by omega)] at hstep
          simp -implicitDefEqProofs only [eq_false c1,eq_false c2,sw0,sw1,sw2,sw3,sw4,sw5,reduceCtorEq,Nat.reduceEqDiff,Nat.reduceAdd,Nat.reduceDiv,Nat.reduceLeDiff,fq16.n10_w,first_place (k:=k) (by omega) hy64,← hc,without_place (k:=k) (by omega) hy64 hc64]
          refine fq16.n5_go (m':=(mem (clrB y c)).length) hyl ⟨clrB y c,done ++ [c],_,l2,ver2,rfl,rfl,rfl,rfl,clrB_lt2,hdone',hstep.symm,hG2⟩
    · rename_i hz
      have hy0:y=0:=by omega
      subst hy0
      rw [mem_zero,List.append_nil] at hdone
      rw [← hdone] at hacc
      have hpv:lv D n (mem x)=acc:=by
        rw [hacc]
        exact lv_cons hne mem_nodup mem_len
      have hupd:=upd_at key_uv (H:=H.set cm (.map shU ver1 (encE uvn l1))) (c:=cm) (ver:=ver1) (l:=l1) (hgm _) (base:=some H.length) (lk:=false) x (v:=iv acc.1) rfl
      rw [hsm] at hupd
      simp -implicitDefEqProofs only [fq16.n11_w,sw0,sw1,sw2,sw3,sw4,sw5,reduceCtorEq,Nat.reduceEqDiff,Nat.reduceAdd,Nat.reduceDiv,Nat.reduceLeDiff,hrk',hupd,fq16.ret]
      rw [List.take_of_length_le (by simp)]
      have:=hK (ver1 + 1) (ins l1 x (iv acc.1)) ⟨fun z v hz=>?_⟩
      · rw [hpv] at this
        exact this
      · rw [lkp_ins] at hz
        split at hz
        · rename_i e
          subst e
          rw [hpv]
          simpa using hz.symm
        · exact hG1.val z v hz
end Go.Proofs.YtcebebhaahpoiaaDoor
end
