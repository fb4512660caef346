/- PlantHeats: for every plant and every schedule the law answers true and turns nothing, with no condition. Part 5 of 5. -/
import Derived.Test.YtcebebhaahpoiaaDoorH4
set_option linter.unusedSimpArgs false
set_option linter.unusedVariables false
set_option linter.deprecated false
set_option linter.all false
section
namespace Go.Proofs.YtcebebhaahpoiaaDoor
open Go Go.Ai Go.W
attribute [local irreducible] VC YC WC
set_option linter.unusedSimpArgs false
set_option linter.unusedVariables false
set_option maxRecDepth 10000
variable {k : Nat} {b : Option Nat} {H : List AObj} {lk : Bool} {K : AV → St → Prop}
def tab8 (D : Nat → Nat → Int) : List AV := (List.range 64).map fun i => iv (D (i / 8) (i % 8))
theorem tab8_len {D : Nat → Nat → Int} : (tab8 D).length = 64 := by simp [tab8]
theorem tab8_at {D : Nat → Nat → Int} {s x : Nat} (hs : s < 8) (hx : x < 8) : (tab8 D)[s * 8 + x]? = some (iv (D s x)) := by
  unfold tab8
  rw [List.getElem?_map, List.getElem?_range (by omega), Option.map_some]
  congr 3
  · omega
  · omega
structure LG (D : Nat → Nat → Int) (n : Nat) (l : List (Nat × AV)) : Prop where
  val : ∀ x v, lkp l x = some v → v = iv (lv D n (mem x)).1
structure NF (H : List AObj) (ck cb cu cm : Nat) (D : Nat → Nat → Int) : Prop where
  k : H[ck]? = some (.cells [.map cm])
  b : H[cb]? = some (.cells [.fn F_q16 [.ptr ck 0 1, .ptr cb 0 1, .ptr cu 0 64]])
  u : H[cu]? = some (.cells (tab8 D))
theorem NF.set {H : List AObj} {ck cb cu cm : Nat} {D : Nat → Nat → Int} (h : NF H ck cb cu cm D) {o : AObj} (hc : ∀ cs, H[cm]? ≠ some (AObj.cells cs)) : NF (H.set cm o) ck cb cu cm D := by
  have key : ∀ c cs, H[c]? = some (AObj.cells cs) → (H.set cm o)[c]? = some (AObj.cells cs) := fun c cs e => by
    rw [List.getElem?_set_ne (fun e' => by subst e'; exact hc _ e)]
    exact e
  exact ⟨key _ _ h.k, key _ _ h.b, key _ _ h.u⟩
theorem NF.app {H : List AObj} {ck cb cu cm : Nat} {D : Nat → Nat → Int} (h : NF H ck cb cu cm D) {L : List AObj} : NF (H ++ L) ck cb cu cm D := ⟨get_app h.k, get_app h.b, get_app h.u⟩
theorem least_s {D : Nat → Nat → Int} {n : Nat} (hD : ∀ a c, 0 ≤ D a c ∧ D a c ≤ 1000) (hn : n ≤ 8) {ck cb cu cm : Nat} : ∀ (r : Nat) {k : Nat} {b : Option Nat} {H : List AObj} {lk : Bool} {K : AV → St → Prop} (hk : r + 100 ≤ k) {x ver sh : Nat} {l : List (Nat × AV)} (hx : x < 2 ^ n) (hr : (mem x).length ≤ r) (hsh : sh + (mem x).length = n) (hF : NF H ck cb cu cm D) (hM : H[cm]? = some (.map shU ver (encE uvn l))) (hG : LG D n l)
    (hK : ∀ ver' l', LG D n l' → K (iv (lv D n (mem x)).1) ⟨H.set cm (.map shU ver' (encE uvn l')), lk⟩),
    VC ⟨prog, k, b⟩ F_q16 [uv x, iv sh, .ptr ck 0 1, .ptr cb 0 1, .ptr cu 0 64] ⟨H, lk⟩ K := by
  intro r
  induction r with
  | zero => ?_
  | succ r ih => ?_
  all_goals
    intro k b H lk K hk x ver sh l hx hr hsh hF hM hG hK
    obtain ⟨k, rfl⟩ : ∃ j, k = j + 1 := ⟨k - 1, by omega⟩
    have hx64 : x < 18446744073709551616 := by
      have := Nat.pow_le_pow_right (show 0 < 2 by omega) hn
      omega
    apply q16.enter
    have hrk := row_of hF.k (v := 1) rfl
    have hlook := look_at key_uv (H := H) (c := cm) (l := l) ⟨ver, hM⟩ (zero := iv 0) (ok := true) x
    have hsame : H.set cm (.map shU ver (encE uvn l)) = H := by
      obtain ⟨h1, h2⟩ := List.getElem?_eq_some_iff.1 hM
      rw [← h2, List.set_getElem_self]
    have hK0 := hK ver l hG
    rw [hsame] at hK0
    by_cases c0 : (x : Int) = 0
    · have e0 : x = 0 := by omega
      rw [e0, mem_zero, lv_nil] at hK0
      simp -implicitDefEqProofs only [q16.n0_w, sw0, sw1, sw2, sw3, sw4, sw5, reduceCtorEq, Nat.reduceEqDiff, Nat.reduceAdd, Nat.reduceDiv, Nat.reduceLeDiff, eq_true c0, q16.n1_w, q16.ret]
      exact hK0
    cases hf : lkp l x with
    | some v =>
      have hv := hG.val x v hf
      rw [hf] at hlook
      subst hv
      simp -implicitDefEqProofs only [Option.getD_some, Option.isSome_some, if_true] at hlook
      simp -implicitDefEqProofs only [q16.n0_w, sw0, sw1, sw2, sw3, sw4, sw5, reduceCtorEq, Nat.reduceEqDiff, Nat.reduceAdd, Nat.reduceDiv, Nat.reduceLeDiff, eq_false c0, q16.n2_w, hrk, hlook, q16.n3_w, q16.ret]
      exact hK0
    | none => ?_
  · have hx0 : x = 0 := mem_nil hx64 (List.eq_nil_of_length_eq_zero (by omega))
    exact absurd hx0 (by omega)
  · rw [hf] at hlook
    simp -implicitDefEqProofs only [Option.getD_none, Option.isSome_none, if_true] at hlook
    have hx0 : x ≠ 0 := by omega
    have hne : mem x ≠ [] := fun e => hx0 (mem_nil hx64 e)
    simp -implicitDefEqProofs only [q16.n0_w, sw0, sw1, sw2, sw3, sw4, sw5, reduceCtorEq, Nat.reduceEqDiff, Nat.reduceAdd, Nat.reduceDiv, Nat.reduceLeDiff, eq_false c0, q16.n2_w, hrk, hlook, q16.n4_w]
    have hnc : ∀ cs, H[cm]? ≠ some (AObj.cells cs) := fun cs e => by rw [hM] at e; cases e
    have hcm : cm < H.length := (List.getElem?_eq_some_iff.1 hM).1
    have hFs : ∀ o, NF (H.set cm o) ck cb cu cm D := fun o => hF.set hnc
    have hrk' : ∀ o, row (H.set cm o) ck 1 = some [.map cm] := fun o => row_of (hFs o).k rfl
    have hrb' : ∀ o, row (H.set cm o) cb 1 = some [.fn F_q16 [.ptr ck 0 1, .ptr cb 0 1, .ptr cu 0 64]] := fun o => row_of (hFs o).b rfl
    have hru' : ∀ o, row (H.set cm o) cu 64 = some (tab8 D) := fun o => row_of (hFs o).u tab8_len
    have hsm : ∀ o o', (H.set cm o).set cm o' = H.set cm o' := fun o o' => List.set_set ..
    have hgm : ∀ o, (H.set cm o)[cm]? = some o := fun o => List.getElem?_set_self hcm
    have hsh8 : sh < 8 := by
      have : 0 < (mem x).length := List.length_pos_iff.2 hne
      omega
    refine q16.n5_l (fun m r6 r7 s => ∃ (y : Nat) (done : List Nat) (acc : Int × Nat) (l1 : List (Nat × AV)) (ver1 : Nat), r6 = iv acc.1 ∧ r7 = uv y ∧ s = ⟨H.set cm (.map shU ver1 (encE uvn l1)), false⟩ ∧ m = (mem y).length ∧ y < 18446744073709551616 ∧ mem x = done ++ mem y ∧
      acc = done.foldl (pstep D (fun l => (lv D n l).1) (n - (mem x).length) (mem x)) (-1, 0) ∧ LG D n l1) (mem x).length (by simp -implicitDefEqProofs only []; omega)
      ⟨x, [], (-1, 0), l, ver, rfl, rfl, by rw [hsame], rfl, hx64, rfl, rfl, hG⟩ ?_
    rintro m r6 r7 r8 r9 r10 r11 r12 r13 r14 r15 r16 r17 r18 r19 r20 r21 r22 s ⟨y, done, acc, l1, ver1, rfl, rfl, rfl, rfl, hy64, hdone, hacc, hG1⟩
    simp -implicitDefEqProofs only [q16.n6_w, sw0, sw1, sw2, sw3, sw4, sw5, reduceCtorEq, Nat.reduceEqDiff, Nat.reduceAdd, Nat.reduceDiv, Nat.reduceLeDiff]
    split
    · rename_i hne
      have hy0 : y ≠ 0 := by omega
      obtain ⟨hc64, hmy⟩ := mem_first hy0 hy64
      obtain ⟨c, hc⟩ : ∃ c, c = ctzN 64 y := ⟨_, rfl⟩
      rw [← hc] at hc64 hmy
      have hcx : c ∈ mem x := by rw [hdone, hmy]; simp
      have hcn := mem_bound hx hcx
      have hcxx : clrB x c < x := clrB_lt hx64 (mem_iff.1 hcx).2
      have hmc := mem_clr (i := c) hx64
      have hwl := wo_len mem_nodup hcx
      have hws : IntKind.i64.wrap ((sh : Int) + 1) = ((sh + 1 : Nat) : Int) := by rw [wrap64 (by omega)]; rfl
      simp -implicitDefEqProofs only [q16.n8_w, sw0, sw1, sw2, sw3, sw4, sw5, reduceCtorEq, Nat.reduceEqDiff, Nat.reduceAdd, Nat.reduceDiv, Nat.reduceLeDiff, hrb', first_place (k := k) (by omega) hy64, ← hc, without_place (k := k) (by omega) hx64 hc64, VV_fn, hws]
      refine ih (k := k) (by omega) (x := clrB x c) (sh := sh + 1) (by omega) (by rw [hmc]; omega) (by rw [hmc]; omega) (hFs _) (hgm _) hG1 ?_
      intro ver2 l2 hG2
      rw [hsm]
      have hpvb := lm_le (n := n) hD 64 (mem (clrB x c))
      have hpvb : -1 ≤ (lv D n (mem (clrB x c))).1 ∧ (lv D n (mem (clrB x c))).1 ≤ 64000 := by unfold lv; omega
      have hdl := hD sh c
      have hw3 := wrap64 (n := (lv D n (mem (clrB x c))).1 + D sh c) (by omega)
      have hta : (tab8 D)[sh * 8 + c * 1]? = some (iv (D sh c)) := by rw [Nat.mul_one]; exact tab8_at hsh8 (by omega)
      have hc8 : c < 8 := by omega
      have hshe : n - (mem x).length = sh := by omega
      simp -implicitDefEqProofs only [sw0, sw1, sw2, sw3, sw4, sw5, reduceCtorEq, Nat.reduceEqDiff, Nat.reduceAdd, Nat.reduceDiv, Nat.reduceLeDiff, hrb', hru', idx_i, hsh8, hc8, hta, hw3]
      have hmyc := mem_clr (i := c) hy64
      have hyl : (mem (clrB y c)).length < (mem y).length := by rw [hmy]; simp
      have hdone' : mem x = (done ++ [c]) ++ mem (clrB y c) := by rw [hdone, hmy]; simp
      have hstep : (done ++ [c]).foldl (pstep D (fun l => (lv D n l).1) (n - (mem x).length) (mem x)) (-1, 0) = pstep D (fun l => (lv D n l).1) (n - (mem x).length) (mem x) acc c := by
        rw [List.foldl_append, ← hacc]; rfl
      have hpst : pstep D (fun l => (lv D n l).1) (n - (mem x).length) (mem x) acc c = if acc.1 < 0 ∨ (lv D n (mem (clrB x c))).1 + D sh c < acc.1 then ((lv D n (mem (clrB x c))).1 + D sh c, c) else acc := by
        unfold pstep
        rw [hshe, hmc]
      rw [hpst] at hstep
      by_cases c1 : acc.1 < 0
      · rw [if_pos (.inl c1)] at hstep
        simp -implicitDefEqProofs only [eq_true c1, sw0, sw1, sw2, sw3, sw4, sw5, reduceCtorEq, Nat.reduceEqDiff, Nat.reduceAdd, Nat.reduceDiv, Nat.reduceLeDiff, q16.n9_w, q16.n10_w, first_place (k := k) (by omega) hy64, ← hc, without_place (k := k) (by omega) hy64 hc64]
        refine q16.n5_go (m' := (mem (clrB y c)).length) hyl ⟨clrB y c, done ++ [c], _, l2, ver2, rfl, rfl, rfl, rfl, clrB_lt2, hdone', hstep.symm, hG2⟩
      · by_cases c2 : (lv D n (mem (clrB x c))).1 + D sh c < acc.1
        · rw [if_pos (.inr c2)] at hstep
          simp -implicitDefEqProofs only [eq_false c1, eq_true c2, sw0, sw1, sw2, sw3, sw4, sw5, reduceCtorEq, Nat.reduceEqDiff, Nat.reduceAdd, Nat.reduceDiv, Nat.reduceLeDiff, q16.n9_w, q16.n10_w, first_place (k := k) (by omega) hy64, ← hc, without_place (k := k) (by omega) hy64 hc64]
          refine q16.n5_go (m' := (mem (clrB y c)).length) hyl ⟨clrB y c, done ++ [c], _, l2, ver2, rfl, rfl, rfl, rfl, clrB_lt2, hdone', hstep.symm, hG2⟩
        · rw [if_neg (by omega)] at hstep
          simp -implicitDefEqProofs only [eq_false c1, eq_false c2, sw0, sw1, sw2, sw3, sw4, sw5, reduceCtorEq, Nat.reduceEqDiff, Nat.reduceAdd, Nat.reduceDiv, Nat.reduceLeDiff, q16.n10_w, first_place (k := k) (by omega) hy64, ← hc, without_place (k := k) (by omega) hy64 hc64]
          refine q16.n5_go (m' := (mem (clrB y c)).length) hyl ⟨clrB y c, done ++ [c], _, l2, ver2, rfl, rfl, rfl, rfl, clrB_lt2, hdone', hstep.symm, hG2⟩
    · rename_i hz
      have hy0 : y = 0 := by omega
      subst hy0
      rw [mem_zero, List.append_nil] at hdone
      rw [← hdone] at hacc
      have hpv : lv D n (mem x) = acc := by
        rw [hacc]
        exact lv_cons hne mem_nodup mem_len
      have hupd := upd_at key_uv (H := H.set cm (.map shU ver1 (encE uvn l1))) (c := cm) (ver := ver1) (l := l1) (hgm _) (base := some H.length) (lk := false) x (v := iv acc.1) rfl
      rw [hsm] at hupd
      simp -implicitDefEqProofs only [q16.n11_w, sw0, sw1, sw2, sw3, sw4, sw5, reduceCtorEq, Nat.reduceEqDiff, Nat.reduceAdd, Nat.reduceDiv, Nat.reduceLeDiff, hrk', hupd, q16.ret]
      rw [List.take_of_length_le (by simp)]
      have := hK (ver1 + 1) (ins l1 x (iv acc.1)) ⟨fun z v hz => ?_⟩
      · rw [hpv] at this
        exact this
      · rw [lkp_ins] at hz
        split at hz
        · rename_i e
          subst e
          rw [hpv]
          simpa using hz.symm
        · exact hG1.val z v hz
end Go.Proofs.YtcebebhaahpoiaaDoor
end
section
namespace Go.Proofs.YtcebebhaahpoiaaDoor
open Go Go.Ai Go.W
attribute [local irreducible] VC YC WC
set_option linter.unusedSimpArgs false
set_option linter.unusedVariables false
set_option maxRecDepth 10000
variable {k : Nat} {b : Option Nat} {H : List AObj} {lk : Bool} {K : AV → St → Prop}
def mstep (val : Nat → Int) (acc : Int × Nat) (c : Nat) : Int × Nat := if acc.1 < 0 ∨ val c < acc.1 then (val c, c) else acc
theorem pstep_m {D f a S} : pstep D f a S = mstep (fun c => f (wo c S) + D a c) := rfl
def firstOf (val : Nat → Int) (done : List Nat) (acc : Int × Nat) : Prop :=
  (done = [] ∧ acc.1 < 0) ∨ ∃ l1 l2, done = l1 ++ acc.2 :: l2 ∧ val acc.2 = acc.1 ∧ 0 ≤ acc.1 ∧ (∀ d, d ∈ l1 → acc.1 < val d) ∧ (∀ d, d ∈ l2 → acc.1 ≤ val d)
theorem fold_firstOf {val : Nat → Int} : ∀ (S done : List Nat) (acc : Int × Nat), (∀ c, c ∈ S → 0 ≤ val c) → firstOf val done acc → firstOf val (done ++ S) (S.foldl (mstep val) acc)
  | [], done, acc, _, h => by rw [List.append_nil]; exact h
  | c :: S, done, acc, hv, h => by
    rw [List.foldl_cons, show done ++ c :: S = (done ++ [c]) ++ S by simp]
    have hc := hv c (by simp)
    refine fold_firstOf S _ _ (fun d hd => hv d (by simp [hd])) ?_
    unfold mstep
    rcases h with ⟨rfl, h0⟩ | ⟨l1, l2, rfl, h1, h2, h3, h4⟩
    · rw [if_pos (.inl h0)]
      exact .inr ⟨[], [], rfl, rfl, hc, fun d hd => (by cases hd), fun d hd => (by cases hd)⟩
    · by_cases hlt : val c < acc.1
      · rw [if_pos (.inr hlt)]
        refine .inr ⟨l1 ++ acc.2 :: l2, [], by simp, rfl, hc, fun d hd => ?_, fun d hd => (by cases hd)⟩
        dsimp only
        rcases List.mem_append.1 hd with h | h
        · have := h3 d h; omega
        · rcases List.mem_cons.1 h with rfl | h
          · omega
          · have := h4 d h; omega
      · rw [if_neg (by omega)]
        refine .inr ⟨l1, l2 ++ [c], by simp, h1, h2, h3, fun d hd => ?_⟩
        rcases List.mem_append.1 hd with h | h
        · exact h4 d h
        · simp -implicitDefEqProofs only [List.mem_singleton] at h
          subst h
          omega
theorem fold_first {val : Nat → Int} {S : List Nat} (hne : S ≠ []) (hv : ∀ c, c ∈ S → 0 ≤ val c) {acc : Int × Nat} (he : S.foldl (mstep val) (-1, 0) = acc) :
    ∃ l1 l2, S = l1 ++ acc.2 :: l2 ∧ val acc.2 = acc.1 ∧ 0 ≤ acc.1 ∧ (∀ d, d ∈ l1 → acc.1 < val d) ∧ (∀ d, d ∈ l2 → acc.1 ≤ val d) := by
  have := fold_firstOf S [] (-1, 0) hv (.inl ⟨rfl, by decide⟩)
  rw [he, List.nil_append] at this
  exact this.resolve_left fun h => hne h.1
theorem lm_pos {D : Nat → Nat → Int} {n : Nat} (hD : ∀ a c, 0 ≤ D a c) : ∀ (r : Nat) (S : List Nat), 0 ≤ (lm D n r S).1
  | 0, S => by simp [lm]
  | r + 1, [] => by simp [lm]
  | r + 1, a :: S => by
    rw [lm, pstep_m]
    obtain ⟨_, _, _, _, h, _⟩ := fold_first (val := fun c => (lm D n r (wo c (a :: S))).1 + D (n - (S.length + 1)) c) (S := a :: S) (by simp) (fun c _ => by have := lm_pos (n := n) hD r (wo c (a :: S)); have := hD (n - (S.length + 1)) c; omega) rfl
    exact h
theorem lv_first {D : Nat → Nat → Int} {n : Nat} (hD : ∀ a c, 0 ≤ D a c) {S : List Nat} (hne : S ≠ []) (hn : S.Nodup) (hl : S.length ≤ 64) :
    ∃ l1 l2, S = l1 ++ (lv D n S).2 :: l2 ∧ (lv D n (wo (lv D n S).2 S)).1 + D (n - S.length) (lv D n S).2 = (lv D n S).1 ∧ (∀ d, d ∈ l1 → (lv D n (wo d S)).1 + D (n - S.length) d ≠ (lv D n S).1) := by
  have h := lv_cons (D := D) (n := n) hne hn hl
  rw [pstep_m] at h
  obtain ⟨l1, l2, h1, h2, _, h3, _⟩ := fold_first hne (fun c _ => by have := lm_pos (n := n) hD 64 (wo c S); have := hD (n - S.length) c; unfold lv; omega) h.symm
  exact ⟨l1, l2, h1, h2, fun d hd e => by have := h3 d hd; omega⟩
theorem first_uniq {P : Nat → Prop} : ∀ {l m r t : List Nat} {c a : Nat}, l ++ c :: r = m ++ a :: t → (∀ d, d ∈ l → ¬ P d) → (∀ d, d ∈ m → ¬ P d) → P c → P a → c = a
  | [], [], r, t, c, a, e, _, _, _, _ => by simpa using (List.cons.inj e).1
  | [], x :: m, r, t, c, a, e, _, h2, hc, _ => by
    have := (List.cons.inj e).1
    exact absurd (this ▸ hc) (h2 x (by simp))
  | x :: l, [], r, t, c, a, e, h1, _, _, ha => by
    have := (List.cons.inj e).1
    exact absurd (this.symm ▸ ha) (h1 x (by simp))
  | x :: l, y :: m, r, t, c, a, e, h1, h2, hc, ha => first_uniq (List.cons.inj e).2 (fun d hd => h1 d (by simp [hd])) (fun d hd => h2 d (by simp [hd])) hc ha
def nrow (D : Nat → Nat → Int) (n : Nat) : Nat → List Nat → List Int
  | 0, _ => []
  | _ + 1, [] => []
  | r + 1, a :: S => ((lv D n (a :: S)).2 : Int) :: nrow D n r (wo (lv D n (a :: S)).2 (a :: S))
theorem nrow_ne {D : Nat → Nat → Int} {n r : Nat} {S : List Nat} (h : S ≠ []) : nrow D n (r + 1) S = ((lv D n S).2 : Int) :: nrow D n r (wo (lv D n S).2 S) := by
  cases S with
  | nil => exact absurd rfl h
  | cons a S => rfl
def cnt (rs : List (AV × List Int)) (s x : Nat) : Int := (rs.countP fun q => decide (q.2[s]? = some (x : Int)) : Nat)
theorem cnt_le {rs : List (AV × List Int)} {s x : Nat} : 0 ≤ cnt rs s x ∧ cnt rs s x ≤ rs.length := by
  unfold cnt
  have := List.countP_le_length (p := fun q : AV × List Int => decide (q.2[s]? = some (x : Int))) (l := rs)
  omega
def nextAns (n : Int) (rs : List (AV × List Int)) : List AV :=
  if rot n rs then (if rs.length = 100 then [.slice true 0 [], iv 6] else [.slice false 1 ((nrow (cnt rs) n.toNat n.toNat (List.range n.toNat)).map ic), iv 0]) else [.slice true 0 [], iv 2]
theorem tab8_ext {D D' : Nat → Nat → Int} (h : ∀ s x, s < 8 → x < 8 → D s x = D' s x) : tab8 D = tab8 D' := by
  unfold tab8
  refine List.map_congr_left fun i hi => ?_
  rw [List.mem_range] at hi
  rw [h _ _ (by omega) (by omega)]
theorem tab8_set {D : Nat → Nat → Int} {s x : Nat} {v : Int} (hs : s < 8) (hx : x < 8) : (tab8 D).set (s * 8 + x) (iv v) = tab8 fun a c => if a = s ∧ c = x then v else D a c := by
  unfold tab8
  refine List.ext_getElem (by simp) fun i h1 h2 => ?_
  simp -implicitDefEqProofs only [List.length_set, List.length_map, List.length_range] at h1
  rw [List.getElem_set]
  simp -implicitDefEqProofs only [List.getElem_map, List.getElem_range]
  by_cases e : s * 8 + x = i
  · rw [if_pos e, if_pos ⟨by omega, by omega⟩]
  · rw [if_neg e, if_neg (by omega)]
def cntT (rs : List (AV × List Int)) (l : List Int) (j s x : Nat) : Int := cnt rs s x + if s < j ∧ l[s]? = some (x : Int) then 1 else 0
theorem cntT_zero {rs l} : cntT rs l 0 = cnt rs := by
  funext s x
  simp [cntT]
theorem cntT_le {rs : List (AV × List Int)} {l j s x} : 0 ≤ cntT rs l j s x ∧ cntT rs l j s x ≤ rs.length + 1 := by
  have := cnt_le (rs := rs) (s := s) (x := x)
  unfold cntT
  split <;> omega
theorem cntT_full {rs : List (AV × List Int)} {q : AV × List Int} (h : q.2.length ≤ 8) : tab8 (cntT rs q.2 q.2.length) = tab8 (cnt (rs ++ [q])) := by
  refine tab8_ext fun s x hs hx => ?_
  unfold cntT cnt
  rw [List.countP_append, List.countP_singleton]
  by_cases e : q.2[s]? = some (x : Int)
  · have : s < q.2.length := (List.getElem?_eq_some_iff.1 e).1
    simp -implicitDefEqProofs only [e, this, true_and, and_self, if_true, decide_true]
    omega
  · simp [e]
theorem cntT_step {rs : List (AV × List Int)} {l : List Int} {j x : Nat} (hj : j < 8) (hx : x < 8) (hl : l[j]? = some (x : Int)) : (tab8 (cntT rs l j)).set (j * 8 + x) (iv (cntT rs l j j x + 1)) = tab8 (cntT rs l (j + 1)) := by
  rw [tab8_set hj hx]
  refine tab8_ext fun s y hs hy => ?_
  unfold cntT
  by_cases e : s = j
  · subst e
    rw [hl]
    by_cases e2 : y = x
    · subst e2; simp
    · have : ¬ x = y := fun e => e2 e.symm
      have : ¬ ((x : Int) = (y : Int)) := by omega
      simp [e2, this]
  · have : (s < j + 1) = (s < j) := by simp; omega
    simp [e, this]
theorem rnd_at {n : Int} {l : List Int} (h : rnd n l = true) : (∀ x, x ∈ l → 0 ≤ x ∧ x ≤ n - 1) ∧ l.Nodup ∧ (l.length : Int) = n := of_decide_eq_true h
theorem Next_s (hk : 1700 ≤ k) {v : AV} {n : Int} {rs : List (AV × List Int)} (hs : RD H v rs) (hl : rs.length ≤ 1000) (hw : ∀ q, q ∈ rs → q.2.length ≤ 500) :
    VC ⟨prog, k, b⟩ F_q15 [iv n, v] ⟨H, lk⟩ K = K (.tup (nextAns n rs)) ⟨H, lk⟩ := by
  obtain ⟨k, rfl⟩ : ∃ j, k = j + 1 := ⟨k - 1, by omega⟩
  apply VC_iff
  apply q15.enter
  have hcr := fun (K : AV → St → Prop) => CheckRotation_s (K := K) (k := k) (b := some H.length) (lk := false) (n := n) (by omega) hs hl hw
  cases hr : rot n rs
  · rw [hr] at hcr
    have hans : nextAns n rs = [.slice true 0 [], iv 2] := by unfold nextAns; rw [hr]; rfl
    simp -implicitDefEqProofs only [q15.n0_w, sw0, sw1, sw2, sw3, sw4, sw5, reduceCtorEq, Nat.reduceEqDiff, Nat.reduceAdd, Nat.reduceDiv, Nat.reduceLeDiff, hcr, q15.n1_w, q15.ret, hans]
  rw [hr] at hcr
  by_cases c1 : (rs.length : Int) = 100
  · have hans : nextAns n rs = [.slice true 0 [], iv 6] := by unfold nextAns; rw [hr, if_pos rfl, if_pos (by omega)]
    simp -implicitDefEqProofs only [q15.n0_w, sw0, sw1, sw2, sw3, sw4, sw5, reduceCtorEq, Nat.reduceEqDiff, Nat.reduceAdd, Nat.reduceDiv, Nat.reduceLeDiff, hcr, q15.n2_w, hs.sl.len, eq_true c1, q15.n3_w, q15.ret, hans]
  obtain ⟨hn18, hall⟩ : (1 ≤ n ∧ n ≤ 8) ∧ ∀ q, q ∈ rs → rnd n q.2 = true := by
    unfold rot at hr
    simp -implicitDefEqProofs only [Bool.and_eq_true, decide_eq_true_eq, List.all_eq_true] at hr
    exact ⟨hr.1.1, hr.2⟩
  have hl100 : rs.length ≤ 100 := by
    unfold rot at hr
    simp -implicitDefEqProofs only [Bool.and_eq_true, decide_eq_true_eq, List.all_eq_true] at hr
    exact hr.1.2
  obtain ⟨w, rfl⟩ := Int.eq_ofNat_of_zero_le (show 0 ≤ n by omega)
  have hans : nextAns w rs = [.slice false 1 ((nrow (cnt rs) w w (List.range w)).map ic), iv 0] := by unfold nextAns; rw [hr, if_pos rfl, if_neg (by omega), Int.toNat_natCast]
  have h00 : tab8 (cnt ([] : List (AV × List Int))) = [iv 0, iv 0, iv 0, iv 0, iv 0, iv 0, iv 0, iv 0, iv 0, iv 0, iv 0, iv 0, iv 0, iv 0, iv 0, iv 0, iv 0, iv 0, iv 0, iv 0, iv 0, iv 0, iv 0, iv 0, iv 0, iv 0, iv 0, iv 0, iv 0, iv 0, iv 0, iv 0, iv 0, iv 0, iv 0, iv 0, iv 0, iv 0, iv 0, iv 0, iv 0, iv 0, iv 0, iv 0, iv 0, iv 0, iv 0, iv 0, iv 0, iv 0, iv 0, iv 0, iv 0, iv 0, iv 0, iv 0, iv 0, iv 0, iv 0, iv 0, iv 0, iv 0, iv 0, iv 0] := by rfl
  simp -implicitDefEqProofs only [q15.n0_w, sw0, sw1, sw2, sw3, sw4, sw5, reduceCtorEq, Nat.reduceEqDiff, Nat.reduceAdd, Nat.reduceDiv, Nat.reduceLeDiff, hcr, q15.n2_w, hs.sl.len, eq_false c1, q15.n4_w]
  rw [← h00]
  refine q15.n5_l (fun m r7 s => ∃ i : Nat, r7 = iv i ∧ s = ⟨H ++ [.cells (tab8 (cnt (rs.take i)))], false⟩ ∧ m = rs.length - i ∧ i ≤ rs.length) rs.length (by simp -implicitDefEqProofs only []; omega) ⟨0, rfl, rfl, rfl, by omega⟩ ?_
  rintro m r7 r8 r12 r13 r14 r15 r16 s ⟨i, rfl, rfl, rfl, hi⟩
  have hsl := hs.sl.app (L := [.cells (tab8 (cnt (rs.take i)))])
  simp -implicitDefEqProofs only [q15.n6_w, sw0, sw1, sw2, sw3, sw4, sw5, reduceCtorEq, Nat.reduceEqDiff, Nat.reduceAdd, Nat.reduceDiv, Nat.reduceLeDiff]
  split
  · rename_i hlt
    have hlt : i < rs.length := by omega
    obtain ⟨q, hq⟩ : ∃ q, q = rs[i] := ⟨_, rfl⟩
    have hqm : q ∈ rs := by rw [hq]; exact List.getElem_mem hlt
    have htk : rs.take (i + 1) = rs.take i ++ [q] := by rw [hq]; exact (List.take_append_getElem hlt).symm
    obtain ⟨hq1, hq2, hq3⟩ := rnd_at (hall q hqm)
    have hld := hsl.ld hlt (show 0 < 1 by omega)
    rw [← hq] at hld
    have hqs := (hs.row q hqm).app (L := [.cells (tab8 (cnt (rs.take i)))])
    have hti : (rs.take i).length = i := by rw [List.length_take]; omega
    simp -implicitDefEqProofs only [q15.n8_w, sw0, sw1, sw2, sw3, sw4, sw5, reduceCtorEq, Nat.reduceEqDiff, Nat.reduceAdd, Nat.reduceDiv, Nat.reduceLeDiff, hsl.at, hlt, hld, rc, hqs.len]
    refine q15.n9_l (fun m r8 s => ∃ j : Nat, r8 = iv j ∧ s = ⟨H ++ [.cells (tab8 (cntT (rs.take i) q.2 j))], false⟩ ∧ m = q.2.length - j ∧ j ≤ q.2.length) q.2.length (by simp -implicitDefEqProofs only []; omega) ⟨0, rfl, by rw [cntT_zero], rfl, by omega⟩ ?_
    rintro m r8 r14 r15 r16 s ⟨j, rfl, rfl, rfl, hj⟩
    simp -implicitDefEqProofs only [q15.n10_w, sw0, sw1, sw2, sw3, sw4, sw5, reduceCtorEq, Nat.reduceEqDiff, Nat.reduceAdd, Nat.reduceDiv, Nat.reduceLeDiff]
    split
    · rename_i hltj
      have hltj : j < q.2.length := by omega
      have hqs' := (hs.row q hqm).app (L := [.cells (tab8 (cntT (rs.take i) q.2 j))])
      obtain ⟨x, hx⟩ := Int.eq_ofNat_of_zero_le (hq1 _ (List.getElem_mem hltj)).1
      have hx8 : x < 8 := by have := (hq1 _ (List.getElem_mem hltj)).2; omega
      have hj8 : j < 8 := by omega
      have hldx := hqs'.ld hltj hqs'.pos
      rw [hx] at hldx
      have hlx : q.2[j]? = some (x : Int) := by rw [List.getElem?_eq_getElem hltj, hx]
      have hrow : row (H ++ [.cells (tab8 (cntT (rs.take i) q.2 j))]) H.length 64 = some (tab8 (cntT (rs.take i) q.2 j)) := by simp -implicitDefEqProofs only [sw0, sw1, sw2, sw3, sw4, sw5, reduceCtorEq, Nat.reduceEqDiff, Nat.reduceAdd, Nat.reduceDiv, Nat.reduceLeDiff, row_hd, tab8_len]
      have hta : (tab8 (cntT (rs.take i) q.2 j))[j * 8 + x * 1]? = some (iv (cntT (rs.take i) q.2 j j x)) := by rw [Nat.mul_one]; exact tab8_at hj8 hx8
      have hb := cntT_le (rs := rs.take i) (l := q.2) (j := j) (s := j) (x := x)
      have hst := cntT_step (rs := rs.take i) hj8 hx8 hlx
      have hle : j * 8 + x * 1 + 1 ≤ (tab8 (cntT (rs.take i) q.2 j)).length := by rw [tab8_len]; omega
      have hst' : (tab8 (cntT (rs.take i) q.2 j)).set (j * 8 + x * 1) (iv (cntT (rs.take i) q.2 j j x + 1)) = tab8 (cntT (rs.take i) q.2 (j + 1)) := by rw [Nat.mul_one]; exact hst
      simp -implicitDefEqProofs only [q15.n12_w, sw0, sw1, sw2, sw3, sw4, sw5, reduceCtorEq, Nat.reduceEqDiff, Nat.reduceAdd, Nat.reduceDiv, Nat.reduceLeDiff, hqs'.at, hltj, hldx, ic, idx_i, hj8, hx8, hrow, hta, hle]
      rw [wrap64 (n := cntT (rs.take i) q.2 j j x + 1) (by omega)]
      simp -implicitDefEqProofs only [sw0, sw1, sw2, sw3, sw4, sw5, reduceCtorEq, Nat.reduceEqDiff, Nat.reduceAdd, Nat.reduceDiv, Nat.reduceLeDiff, hst', hle]
      refine q15.n9_go (m' := q.2.length - (j + 1)) (by omega) ⟨j + 1, by rw [wrap64 (by omega)]; rfl, rfl, rfl, by omega⟩
    · rename_i hgej
      have hje : j = q.2.length := by omega
      subst hje
      rw [cntT_full (by omega), ← htk]
      simp -implicitDefEqProofs only [sw0, sw1, sw2, sw3, sw4, sw5, reduceCtorEq, Nat.reduceEqDiff, Nat.reduceAdd, Nat.reduceDiv, Nat.reduceLeDiff, q15.n13_w]
      refine q15.n5_go (m' := rs.length - (i + 1)) (by omega) ⟨i + 1, by rw [wrap64 (by omega)]; rfl, rfl, rfl, by omega⟩
  · rename_i hge
    rw [List.take_of_length_le (show rs.length ≤ i by omega)]
    simp -implicitDefEqProofs only [sw0, sw1, sw2, sw3, sw4, sw5, reduceCtorEq, Nat.reduceEqDiff, Nat.reduceAdd, Nat.reduceDiv, Nat.reduceLeDiff, q15.n14_w]
    have hneg : ¬ ((w : Int) < 0) := by omega
    have hpw : 2 ^ w ≤ 2 ^ 8 := Nat.pow_le_pow_right (by omega) (by omega)
    have hpw1 : 0 < 2 ^ w := Nat.two_pow_pos _
    have e2 : (1 : Int) * 2 ^ min w IntKind.u64.bits = ((2 ^ w : Nat) : Int) := by
      rw [show IntKind.u64.bits = 64 from rfl, Nat.min_eq_left (by omega)]; simp
    have hneg2 : ((2 ^ w : Nat) : Int) - 1 = ((2 ^ w - 1 : Nat) : Int) := by omega
    simp -implicitDefEqProofs only [sw0, sw1, sw2, sw3, sw4, sw5, reduceCtorEq, Nat.reduceEqDiff, Nat.reduceAdd, Nat.reduceDiv, Nat.reduceLeDiff, hneg, Int.toNat_natCast, e2, wrapu (show 2 ^ w < 18446744073709551616 by omega)]
    rw [hneg2, wrapu (by omega)]
    obtain ⟨D, hDd⟩ : ∃ D, D = cnt rs := ⟨_, rfl⟩
    have hD : ∀ a c, 0 ≤ D a c ∧ D a c ≤ 1000 := fun a c => by have := cnt_le (rs := rs) (s := a) (x := c); rw [hDd]; omega
    have hw8 : w ≤ 8 := by omega
    rw [← hDd] at hans ⊢
    refine q15.n15_l (fun m r4 r5 r9 s => ∃ (sh x : Nat) (xs : List Int) (ver : Nat) (l : List (Nat × AV)), r4 = uv x ∧ r5 = .sref (H.length + 4) 0 xs.length (xs.length * 1) 1 ∧ r9 = iv sh ∧ s = ⟨H ++ [.cells (tab8 D), .map shU ver (encE uvn l), .cells [.map (H.length + 1)], .cells [.fn F_q16 [.ptr (H.length + 2) 0 1, .ptr (H.length + 3) 0 1, .ptr H.length 0 64]], .cells (xs.map ic).flatten], false⟩ ∧
      m = w - sh ∧ sh + (mem x).length = w ∧ x < 2 ^ w ∧ LG D w l ∧ xs ++ nrow D w (w - sh) (mem x) = nrow D w w (List.range w) ∧ xs.length = sh) w (by simp -implicitDefEqProofs only []; omega)
      ⟨0, 2 ^ w - 1, [], 0, [], rfl, rfl, rfl, rfl, rfl, by rw [mem_full (by omega), List.length_range]; omega, by omega, ⟨fun x v hx => by cases hx⟩, by rw [mem_full (by omega)]; rfl, rfl⟩ ?_
    rintro m r4 r5 r6 r9 r11 r12 r13 r14 r15 r16 r17 r18 r19 r20 r21 r22 r23 r24 r25 r26 r27 s ⟨sh, x, xs, ver, l, rfl, rfl, rfl, rfl, rfl, hsh, hx, hG, hxs, hxl⟩
    simp -implicitDefEqProofs only [q15.n16_w, sw0, sw1, sw2, sw3, sw4, sw5, reduceCtorEq, Nat.reduceEqDiff, Nat.reduceAdd, Nat.reduceDiv, Nat.reduceLeDiff]
    split
    · rename_i hlt2
      have hlt2 : sh < w := by omega
      have hx64 : x < 18446744073709551616 := by
        have := Nat.pow_le_pow_right (show 0 < 2 by omega) hw8
        omega
      have hne : mem x ≠ [] := fun e => by rw [e] at hsh; simp at hsh; omega
      have hF : ∀ ver l ys, NF (H ++ [.cells (tab8 D), .map shU ver (encE uvn l), .cells [.map (H.length + 1)], .cells [.fn F_q16 [.ptr (H.length + 2) 0 1, .ptr (H.length + 3) 0 1, .ptr H.length 0 64]], .cells ys]) (H.length + 2) (H.length + 3) H.length (H.length + 1) D := fun ver l ys =>
        ⟨by simp -implicitDefEqProofs only [sw0, sw1, sw2, sw3, sw4, sw5, reduceCtorEq, Nat.reduceEqDiff, Nat.reduceAdd, Nat.reduceDiv, Nat.reduceLeDiff], by simp -implicitDefEqProofs only [sw0, sw1, sw2, sw3, sw4, sw5, reduceCtorEq, Nat.reduceEqDiff, Nat.reduceAdd, Nat.reduceDiv, Nat.reduceLeDiff], by simp -implicitDefEqProofs only [sw0, sw1, sw2, sw3, sw4, sw5, reduceCtorEq, Nat.reduceEqDiff, Nat.reduceAdd, Nat.reduceDiv, Nat.reduceLeDiff]⟩
      have hrow : ∀ ver l ys, row (H ++ [.cells (tab8 D), .map shU ver (encE uvn l), .cells [.map (H.length + 1)], .cells [.fn F_q16 [.ptr (H.length + 2) 0 1, .ptr (H.length + 3) 0 1, .ptr H.length 0 64]], .cells ys]) H.length 64 = some (tab8 D) := fun ver l ys => row_of (hF ver l ys).u tab8_len
      simp -implicitDefEqProofs only [q15.n18_w, sw0, sw1, sw2, sw3, sw4, sw5, reduceCtorEq, Nat.reduceEqDiff, Nat.reduceAdd, Nat.reduceDiv, Nat.reduceLeDiff, VV_fn]
      refine least_s hD hw8 64 (k := k) (by omega) hx mem_len hsh (hF _ _ _) (ver := ver) (l := l) (by simp -implicitDefEqProofs only [sw0, sw1, sw2, sw3, sw4, sw5, reduceCtorEq, Nat.reduceEqDiff, Nat.reduceAdd, Nat.reduceDiv, Nat.reduceLeDiff]) hG ?_
      intro ver1 l1 hG1
      obtain ⟨want, hwant⟩ : ∃ z, z = (lv D w (mem x)).1 := ⟨_, rfl⟩
      obtain ⟨m1, m2, hsp, hval, hbef⟩ := lv_first (D := D) (n := w) (fun a c => (hD a c).1) hne mem_nodup mem_len
      have hshe : w - (mem x).length = sh := by omega
      rw [hshe] at hval hbef
      rw [← hwant] at hval hbef ⊢
      simp -implicitDefEqProofs only [sw0, sw1, sw2, sw3, sw4, sw5, reduceCtorEq, Nat.reduceEqDiff, Nat.reduceAdd, Nat.reduceDiv, Nat.reduceLeDiff]
      refine q15.n19_l (fun m r4 r5 r6 r11 s => ∃ (y : Nat) (done : List Nat) (ver : Nat) (l : List (Nat × AV)), r4 = uv x ∧ r5 = .sref (H.length + 4) 0 xs.length (xs.length * 1) 1 ∧ r6 = uv y ∧ r11 = iv want ∧ s = ⟨H ++ [.cells (tab8 D), .map shU ver (encE uvn l), .cells [.map (H.length + 1)], .cells [.fn F_q16 [.ptr (H.length + 2) 0 1, .ptr (H.length + 3) 0 1, .ptr H.length 0 64]], .cells (xs.map ic).flatten], false⟩ ∧
        m = (mem y).length ∧ y < 18446744073709551616 ∧ mem x = done ++ mem y ∧ LG D w l ∧ (∀ d, d ∈ done → (lv D w (wo d (mem x))).1 + D sh d ≠ want)) (mem x).length (by simp -implicitDefEqProofs only []; omega)
        ⟨x, [], ver1, l1, rfl, rfl, rfl, rfl, rfl, rfl, hx64, rfl, hG1, fun d hd => by cases hd⟩ ?_
      rintro m r4 r5 r6 r11 r12 r13 r14 r15 r16 r17 r18 r19 r20 r21 r22 r23 r24 r25 r26 r27 s ⟨y, done, ver2, l2, rfl, rfl, rfl, rfl, rfl, rfl, hy64, hdone, hG2, hno⟩
      simp -implicitDefEqProofs only [q15.n20_w, sw0, sw1, sw2, sw3, sw4, sw5, reduceCtorEq, Nat.reduceEqDiff, Nat.reduceAdd, Nat.reduceDiv, Nat.reduceLeDiff]
      split
      · rename_i hney
        have hy0 : y ≠ 0 := by omega
        obtain ⟨hc64, hmy⟩ := mem_first hy0 hy64
        obtain ⟨c, hc⟩ : ∃ c, c = ctzN 64 y := ⟨_, rfl⟩
        rw [← hc] at hc64 hmy
        have hcx : c ∈ mem x := by rw [hdone, hmy]; simp
        have hcn := mem_bound hx hcx
        have hcxx : clrB x c < x := clrB_lt hx64 (mem_iff.1 hcx).2
        have hmc := mem_clr (i := c) hx64
        have hwl := wo_len mem_nodup hcx
        have hws : IntKind.i64.wrap ((sh : Int) + 1) = ((sh + 1 : Nat) : Int) := by rw [wrap64 (by omega)]; rfl
        simp -implicitDefEqProofs only [q15.n22_w, sw0, sw1, sw2, sw3, sw4, sw5, reduceCtorEq, Nat.reduceEqDiff, Nat.reduceAdd, Nat.reduceDiv, Nat.reduceLeDiff, first_place (k := k) (by omega) hy64, ← hc, without_place (k := k) (by omega) hx64 hc64, VV_fn, hws]
        refine least_s hD hw8 64 (k := k) (by omega) (x := clrB x c) (sh := sh + 1) (by omega) mem_len (by rw [hmc]; omega) (hF _ _ _) (ver := ver2) (l := l2) (by simp -implicitDefEqProofs only [sw0, sw1, sw2, sw3, sw4, sw5, reduceCtorEq, Nat.reduceEqDiff, Nat.reduceAdd, Nat.reduceDiv, Nat.reduceLeDiff]) hG2 ?_
        intro ver3 l3 hG3
        have hpvb := lm_le (n := w) hD 64 (mem (clrB x c))
        have hpvb : -1 ≤ (lv D w (mem (clrB x c))).1 ∧ (lv D w (mem (clrB x c))).1 ≤ 64000 := by unfold lv; omega
        have hdl := hD sh c
        have hw3 := wrap64 (n := (lv D w (mem (clrB x c))).1 + D sh c) (by omega)
        have hta : (tab8 D)[sh * 8 + c * 1]? = some (iv (D sh c)) := by rw [Nat.mul_one]; exact tab8_at (by omega) (by omega)
        have hc8 : c < 8 := by omega
        have hsh8 : sh < 8 := by omega
        have hmyc := mem_clr (i := c) hy64
        have hyl : (mem (clrB y c)).length < (mem y).length := by rw [hmy]; simp
        have hdone' : mem x = (done ++ [c]) ++ mem (clrB y c) := by rw [hdone, hmy]; simp
        rw [hmc] at hw3 ⊢
        by_cases ce : (lv D w (wo c (mem x))).1 + D sh c = want
        ·
          have hcm : c = (lv D w (mem x)).2 := by
            have h1 : mem x = done ++ c :: mem (clrB y c) := by rw [hdone, hmy]
            exact first_uniq (P := fun d => (lv D w (wo d (mem x))).1 + D sh d = want) (h1.symm.trans hsp) hno hbef ce hval
          rw [ce] at hw3
          have happ := app_own (base := some H.length) (lk := false) (fl := true) (bytes := 8) (xs := xs) (x := (c : Int)) (H := H ++ [.cells (tab8 D), .map shU ver3 (encE uvn l3), .cells [.map (H.length + 1)], .cells [.fn F_q16 [.ptr (H.length + 2) 0 1, .ptr (H.length + 3) 0 1, .ptr H.length 0 64]], .cells (xs.map ic).flatten]) (c := H.length + 4) Nat.one_pos ic_len (ic_one _) (ic_clean _) rfl (by simp -implicitDefEqProofs only [sw0, sw1, sw2, sw3, sw4, sw5, reduceCtorEq, Nat.reduceEqDiff, Nat.reduceAdd, Nat.reduceDiv, Nat.reduceLeDiff, row_hd, ic_flat, Nat.mul_one]) (by omega)
          simp -implicitDefEqProofs only [ic] at happ
          simp -implicitDefEqProofs only [sw0, sw1, sw2, sw3, sw4, sw5, reduceCtorEq, Nat.reduceEqDiff, Nat.reduceAdd, Nat.reduceDiv, Nat.reduceLeDiff, hrow, tab8_len, idx_i, hsh8, hc8, hta, ce, hw3, q15.n23_w, happ, without_place (k := k) (by omega) hx64 hc64, q15.n25_w]
          refine q15.n15_go (m' := w - (sh + 1)) (by omega) ⟨sh + 1, clrB x c, xs ++ [(c : Int)], ver3, l3, rfl, by simp, by rw [hws], rfl, rfl, by rw [hmc]; omega, by omega, hG3, ?_, by simp [hxl]⟩
          rw [← hxs, show w - sh = (w - (sh + 1)) + 1 by omega, nrow_ne hne, ← hcm, hmc]
          simp
        · simp -implicitDefEqProofs only [sw0, sw1, sw2, sw3, sw4, sw5, reduceCtorEq, Nat.reduceEqDiff, Nat.reduceAdd, Nat.reduceDiv, Nat.reduceLeDiff, hrow, tab8_len, idx_i, hsh8, hc8, hta, hw3, eq_false ce, q15.n24_w, first_place (k := k) (by omega) hy64, ← hc, without_place (k := k) (by omega) hy64 hc64]
          refine q15.n19_go (m' := (mem (clrB y c)).length) hyl ⟨clrB y c, done ++ [c], ver3, l3, rfl, rfl, rfl, rfl, rfl, rfl, clrB_lt2, hdone', hG3, ?_⟩
          intro d hd
          rcases List.mem_append.1 hd with h | h
          · exact hno d h
          · simp -implicitDefEqProofs only [List.mem_singleton] at h
            subst h
            exact ce
      · rename_i hzy
        have hy0 : y = 0 := by omega
        subst hy0
        rw [mem_zero, List.append_nil] at hdone
        refine absurd hval (hno _ ?_)
        rw [← hdone]
        have : (lv D w (mem x)).2 ∈ m1 ++ (lv D w (mem x)).2 :: m2 := by simp
        rw [← hsp] at this
        exact this
    · rename_i hge2
      have hxe : sh = w := by omega
      rw [hxe, Nat.sub_self] at hxs
      simp -implicitDefEqProofs only [nrow, List.append_nil] at hxs
      subst hxs
      have hfz := fz_own (m := H.length) (f := ic) (xs := nrow D w w (List.range w)) (c := H.length + 4) (H := H ++ [.cells (tab8 D), .map shU ver (encE uvn l), .cells [.map (H.length + 1)], .cells [.fn F_q16 [.ptr (H.length + 2) 0 1, .ptr (H.length + 3) 0 1, .ptr H.length 0 64]], .cells ((nrow D w w (List.range w)).map ic).flatten]) Nat.one_pos ic_len ic_clean rfl (by simp -implicitDefEqProofs only [sw0, sw1, sw2, sw3, sw4, sw5, reduceCtorEq, Nat.reduceEqDiff, Nat.reduceAdd, Nat.reduceDiv, Nat.reduceLeDiff, row_hd, ic_flat, Nat.mul_one]) (by omega)
      simp -implicitDefEqProofs only [q15.n26_w, sw0, sw1, sw2, sw3, sw4, sw5, reduceCtorEq, Nat.reduceEqDiff, Nat.reduceAdd, Nat.reduceDiv, Nat.reduceLeDiff, q15.ret, hfz, hans]
end Go.Proofs.YtcebebhaahpoiaaDoor
end
section
namespace Go.Proofs.YtcebebhaahpoiaaDoor
open Go Go.Ai Go.W
attribute [local irreducible] VC YC WC
set_option linter.unusedSimpArgs false
set_option linter.unusedVariables false
set_option maxRecDepth 10000
variable {k : Nat} {b : Option Nat} {H : List AObj} {lk : Bool} {K : AV → St → Prop}
abbrev jc (q : Int × Int × Int) : List AV := [iv q.1, iv q.2.1, iv q.2.2]
theorem jc_len (q : Int × Int × Int) : (jc q).length = 3 := rfl
def jobOk (q : Int × Int × Int) : Bool := decide (0 ≤ q.1 ∧ q.1 ≤ 7) && decide (0 ≤ q.2.1 ∧ q.2.1 ≤ 499) && decide (q.2.1 + 1 ≤ q.2.2 ∧ q.2.2 ≤ 500)
theorem CheckJobs_1_s (hk : 10 ≤ k) {q : Int × Int × Int} : VC ⟨prog, k, b⟩ F_q4 [.agg (jc q)] ⟨H, lk⟩ K = K (.bool (!jobOk q)) ⟨H, lk⟩ := by
  obtain ⟨k, rfl⟩ : ∃ j, k = j + 1 := ⟨k - 1, by omega⟩
  apply VC_iff
  apply q4.enter
  by_cases c1 : 0 ≤ q.1 ∧ q.1 ≤ 7
  · by_cases c2 : 0 ≤ q.2.1 ∧ q.2.1 ≤ 499
    · have hw := wrap64 (n := q.2.1 + 1) (by omega)
      simp -implicitDefEqProofs only [q4.n0_w, sw0, sw1, sw2, sw3, sw4, sw5, reduceCtorEq, Nat.reduceEqDiff, Nat.reduceAdd, Nat.reduceDiv, Nat.reduceLeDiff, jc, within_s (k := k) (by omega), eq_true c1, eq_true c2, hw, q4.ret, jobOk]
    · simp -implicitDefEqProofs only [q4.n0_w, sw0, sw1, sw2, sw3, sw4, sw5, reduceCtorEq, Nat.reduceEqDiff, Nat.reduceAdd, Nat.reduceDiv, Nat.reduceLeDiff, jc, within_s (k := k) (by omega), eq_true c1, eq_false c2, q4.ret, jobOk]
  · simp -implicitDefEqProofs only [q4.n0_w, sw0, sw1, sw2, sw3, sw4, sw5, reduceCtorEq, Nat.reduceEqDiff, Nat.reduceAdd, Nat.reduceDiv, Nat.reduceLeDiff, jc, within_s (k := k) (by omega), eq_false c1, q4.ret, jobOk]
theorem CheckJobs_s (hk : 1100 ≤ k) {v : AV} {qs : List (Int × Int × Int)} (hs : Sl H 3 jc v qs) (hl : qs.length ≤ 1000) :
    VC ⟨prog, k, b⟩ F_q3 [v] ⟨H, lk⟩ K = K (.bool (decide (qs.length ≤ 200) && qs.all jobOk)) ⟨H, lk⟩ := by
  obtain ⟨k, rfl⟩ : ∃ j, k = j + 1 := ⟨k - 1, by omega⟩
  apply VC_iff
  apply q3.enter
  have hcf := fun (K : AV → St → Prop) => ContainsFunc_Job (K := K) (k := k) (b := some H.length) (lk := false) (by omega) (f := F_q4) (caps := []) hs hl (vl := fun q => .agg (jc q)) (fun x => rfl) (p := fun q => !jobOk q) (fun x hx b lk K => CheckJobs_1_s (k := k - 2) (by omega))
  have hany : qs.any (fun q => !jobOk q) = !qs.all jobOk := by rw [List.all_eq_not_any_not, Bool.not_not]
  simp -implicitDefEqProofs only [hany] at hcf
  by_cases c1 : (qs.length : Int) ≤ 200
  · have c1' : decide (qs.length ≤ 200) = true := decide_eq_true (by omega)
    simp -implicitDefEqProofs only [q3.n0_w, sw0, sw1, sw2, sw3, sw4, sw5, reduceCtorEq, Nat.reduceEqDiff, Nat.reduceAdd, Nat.reduceDiv, Nat.reduceLeDiff, hs.len, eq_true c1, hcf, c1', Bool.not_not, q3.ret]
  · have c1' : decide (qs.length ≤ 200) = false := decide_eq_false (by omega)
    simp -implicitDefEqProofs only [q3.n0_w, sw0, sw1, sw2, sw3, sw4, sw5, reduceCtorEq, Nat.reduceEqDiff, Nat.reduceAdd, Nat.reduceDiv, Nat.reduceLeDiff, hs.len, eq_false c1, c1', q3.ret]
theorem asked_s (hk : 1110 ≤ k) {v : AV} {c : Int} {qs : List (Int × Int × Int)} (hs : Sl H 3 jc v qs) (hl : qs.length ≤ 1000) :
    VC ⟨prog, k, b⟩ F_q19 [v, iv c] ⟨H, lk⟩ K = K (iv (if (decide (qs.length ≤ 200) && qs.all jobOk) = true then if 1 ≤ c ∧ c ≤ 8 then 0 else 4 else 2)) ⟨H, lk⟩ := by
  obtain ⟨k, rfl⟩ : ∃ j, k = j + 1 := ⟨k - 1, by omega⟩
  apply VC_iff
  apply q19.enter
  cases h : (decide (qs.length ≤ 200) && qs.all jobOk)
  · simp -implicitDefEqProofs only [q19.n0_w, sw0, sw1, sw2, sw3, sw4, sw5, reduceCtorEq, Nat.reduceEqDiff, Nat.reduceAdd, Nat.reduceDiv, Nat.reduceLeDiff, CheckJobs_s (k := k) (by omega) hs hl, h, q19.n1_w, q19.ret]
  · by_cases c1 : 1 ≤ c ∧ c ≤ 8
    · simp -implicitDefEqProofs only [q19.n0_w, sw0, sw1, sw2, sw3, sw4, sw5, reduceCtorEq, Nat.reduceEqDiff, Nat.reduceAdd, Nat.reduceDiv, Nat.reduceLeDiff, CheckJobs_s (k := k) (by omega) hs hl, h, q19.n2_w, within_s (k := k) (by omega), eq_true c1, q19.n4_w, q19.ret]
    · simp -implicitDefEqProofs only [q19.n0_w, sw0, sw1, sw2, sw3, sw4, sw5, reduceCtorEq, Nat.reduceEqDiff, Nat.reduceAdd, Nat.reduceDiv, Nat.reduceLeDiff, CheckJobs_s (k := k) (by omega) hs hl, h, q19.n2_w, within_s (k := k) (by omega), eq_false c1, q19.n3_w, q19.ret]
def jB : List (Int × Int × Int) := [(0, 0, 1), (1, 0, 1)]
abbrev vB : AV := .slice true 3 [[iv 0, iv 0, iv 1], [iv 1, iv 0, iv 1]]
theorem vB_sl : Sl H 3 jc vB jB := Sl.lit (by omega) jc_len rfl
theorem Crowd_n6 {E : Env} {r0 r1 r2 r3 r4 r5 r6 r7 r8 r9 r10 r11 r12 : AV} {s : St} {Q : AExit → Regs → St → Prop} : WC E q10.n6 [r0, r1, r2, r3, r4, r5, r6, r7, r8, r9, r10, r11, r12] s Q = (oM (vLen false r0) fun v1 => (sK (WC E (.block 2 q10.n7)) (sK (WC E q10.n13) (bK 1 (sK (WC E q10.n20) Q)))) .normal [r0, r1, r2, r3, r4, r5, r6, r7, iv 0, (.ptr s.heap.length 0 501), v1, r11, r12] (push s (.cells (List.replicate 501 (iv 0))))) := by
  rw [q10.n6_w]; rfl
theorem Crowd_n3 {k : Nat} {b : Option Nat} {ρ s Q} : WC ⟨prog, k, b⟩ q10.n3 ρ s Q = wLoop (WC ⟨prog, k, b⟩ q10.n4) k ρ s Q := WC_lp
theorem Crowd_n7 {k : Nat} {b : Option Nat} {ρ s Q} : WC ⟨prog, k, b⟩ q10.n7 ρ s Q = wLoop (WC ⟨prog, k, b⟩ q10.n8) k ρ s Q := WC_lp
theorem Crowd_n14 {k : Nat} {b : Option Nat} {ρ s Q} : WC ⟨prog, k, b⟩ q10.n14 ρ s Q = wLoop (WC ⟨prog, k, b⟩ q10.n15) k ρ s Q := WC_lp
theorem CrowdB (hk : 1200 ≤ k) : VC ⟨prog, k, b⟩ F_q10 [vB, iv 1] ⟨H, lk⟩ K = K (.tup [iv 0, iv 1, iv 0]) ⟨H, lk⟩ := by
  obtain ⟨k, rfl⟩ : ∃ j, k = j + 1 := ⟨k - 1, by omega⟩
  apply VC_iff
  apply q10.enter
  have hjb : (decide (jB.length ≤ 200) && jB.all jobOk) = true := by decide
  have h11 : ((1 : Int) ≤ 1 ∧ (1 : Int) ≤ 8) = True := by simp
  have hask := fun (K : AV → St → Prop) => asked_s (K := K) (k := k) (b := some H.length) (lk := false) (by omega) (H := H) vB_sl (c := 1) (by decide)
  simp -implicitDefEqProofs only [hjb, if_true, h11] at hask
  obtain ⟨k, rfl⟩ : ∃ j, k = j + 100 := ⟨k - 100, by omega⟩
  obtain ⟨Z, hZ⟩ : ∃ Z, Z = List.replicate 501 (iv 0) := ⟨_, rfl⟩
  have hZl : Z.length = 501 := by rw [hZ, List.length_replicate]
  have hZ1 : Z[1]? = some (iv 0) := by rw [hZ]; rfl
  simp -implicitDefEqProofs only [q10.n0_w, wl_s, sw0, sw1, sw2, sw3, sw4, sw5, reduceCtorEq, Nat.reduceEqDiff, Nat.reduceAdd, Nat.reduceDiv, Nat.reduceLeDiff, dw0, Int.reduceAdd, Int.reduceSub, Int.reduceMul, Int.reduceLT, Int.reduceLE, Int.reduceNeg, Int.reduceEq, Int.reduceToNat, Nat.reduceLT, Nat.reduceMul, Nat.reduceSub, Nat.reduceBEq, Nat.reduceLeDiff, hask, q10.n2_w, Crowd_n3, q10.n4_w, Crowd_n6, ← hZ, Crowd_n7, q10.n8_w]
  simp -implicitDefEqProofs only [sw0, sw1, sw2, sw3, sw4, sw5, reduceCtorEq, Nat.reduceEqDiff, Nat.reduceAdd, Nat.reduceDiv, Nat.reduceLeDiff, dw0, Int.reduceAdd, Int.reduceSub, Int.reduceMul, Int.reduceLT, Int.reduceLE, Int.reduceNeg, Int.reduceEq, Int.reduceToNat, Nat.reduceLT, Nat.reduceMul, Nat.reduceSub, Nat.reduceBEq, Nat.reduceLeDiff, iaddr_slice, hZl, hZ1, row_hd, q10.n10_w, q10.n11_w, q10.n12_w, q10.n13_w, Crowd_n14, q10.n15_w, q10.n17_w, q10.n18_w, q10.n9_w, hZl, hZ1, row_hd, List.getElem?_set_self, q10.ret]
  simp -implicitDefEqProofs only [wl_s, q10.n8_w]
  simp -implicitDefEqProofs only [sw0, sw1, sw2, sw3, sw4, sw5, reduceCtorEq, Nat.reduceEqDiff, Nat.reduceAdd, Nat.reduceDiv, Nat.reduceLeDiff, dw0, Int.reduceAdd, Int.reduceSub, Int.reduceMul, Int.reduceLT, Int.reduceLE, Int.reduceNeg, Int.reduceEq, Int.reduceToNat, Nat.reduceLT, Nat.reduceMul, Nat.reduceSub, Nat.reduceBEq, Nat.reduceLeDiff, iaddr_slice, hZl, hZ1, row_hd, q10.n10_w, q10.n11_w, q10.n12_w, List.getElem?_set_self, List.set_set]

  simp -implicitDefEqProofs only [wl_s, q10.n8_w]
  simp -implicitDefEqProofs only [sw0, sw1, sw2, sw3, sw4, sw5, reduceCtorEq, Nat.reduceEqDiff, Nat.reduceAdd, Nat.reduceDiv, Nat.reduceLeDiff, dw0, Int.reduceAdd, Int.reduceSub, Int.reduceMul, Int.reduceLT, Int.reduceLE, Int.reduceNeg, Int.reduceEq, Int.reduceToNat, Nat.reduceLT, Nat.reduceMul, Nat.reduceSub, Nat.reduceBEq, Nat.reduceLeDiff, iaddr_slice, hZl, hZ1, row_hd, q10.n13_w, Crowd_n14, List.getElem?_set_self, List.set_set]

  simp -implicitDefEqProofs only [wl_s, q10.n15_w]
  simp -implicitDefEqProofs only [sw0, sw1, sw2, sw3, sw4, sw5, reduceCtorEq, Nat.reduceEqDiff, Nat.reduceAdd, Nat.reduceDiv, Nat.reduceLeDiff, dw0, Int.reduceAdd, Int.reduceSub, Int.reduceMul, Int.reduceLT, Int.reduceLE, Int.reduceNeg, Int.reduceEq, Int.reduceToNat, Nat.reduceLT, Nat.reduceMul, Nat.reduceSub, Nat.reduceBEq, Nat.reduceLeDiff, iaddr_slice, hZl, hZ1, row_hd, q10.n17_w, q10.n18_w, q10.ret, List.getElem?_set_self, List.set_set]
end Go.Proofs.YtcebebhaahpoiaaDoor
end
section
namespace Go.Proofs.YtcebebhaahpoiaaDoor
open Go Go.Ai Go.W
attribute [local irreducible] VC YC WC
set_option linter.unusedSimpArgs false
set_option linter.unusedVariables false
set_option maxRecDepth 10000
variable {k : Nat} {b : Option Nat} {H : List AObj} {lk : Bool} {K : AV → St → Prop}
theorem slots_u1 {k : Nat} {b : Option Nat} {ρ s Q} : WC ⟨prog, k, b⟩ q41.n1 ρ s Q = wLoop (WC ⟨prog, k, b⟩ q41.n2) k ρ s Q := WC_lp
theorem Plan_u6 {k : Nat} {b : Option Nat} {ρ s Q} : WC ⟨prog, k, b⟩ q17.n6 ρ s Q = wLoop (WC ⟨prog, k, b⟩ q17.n7) k ρ s Q := WC_lp
theorem Plan_u11 {k : Nat} {b : Option Nat} {ρ s Q} : WC ⟨prog, k, b⟩ q17.n11 ρ s Q = wLoop (WC ⟨prog, k, b⟩ q17.n12) k ρ s Q := WC_lp
theorem heap_int_put_u1 {k : Nat} {b : Option Nat} {ρ s Q} : WC ⟨prog, k, b⟩ q22.n1 ρ s Q = wLoop (WC ⟨prog, k, b⟩ q22.n2) k ρ s Q := WC_lp
theorem heap_int_take_u1 {k : Nat} {b : Option Nat} {ρ s Q} : WC ⟨prog, k, b⟩ q23.n1 ρ s Q = wLoop (WC ⟨prog, k, b⟩ q23.n2) k ρ s Q := WC_lp
theorem heap_int_take_u3 {k : Nat} {b : Option Nat} {ρ s Q} : WC ⟨prog, k, b⟩ q23.n3 ρ s Q = wLoop (WC ⟨prog, k, b⟩ q23.n4) k ρ s Q := WC_lp
abbrev shI : Sh := .mk false [.int .i64]
theorem slotsB (hk : 200 ≤ k) (hK : K (.fn F_q42 [.ptr (H.length + 1) 0 1]) ⟨H ++ [.map shI 2 [(iv 0, .sref (H.length + 3) 0 2 2 1)], .cells [.map H.length], .cells [iv 0, iv 0, iv 1], .cells [iv 0, iv 1], .cells [iv 1, iv 0, iv 1]], false⟩) : VC ⟨prog, k, b⟩ F_q41 [vB] ⟨H, false⟩ K := by
  obtain ⟨k, rfl⟩ : ∃ j, k = j + 1 := ⟨k - 1, by omega⟩
  obtain ⟨k, rfl⟩ : ∃ j, k = j + 100 := ⟨k - 100, by omega⟩
  apply q41.enter
  have hu : AV.under H.length (AV.fn F_q42 [AV.ptr (H.length + 1) 0 1]) = false := by simp [AV.under, underL]
  simp -implicitDefEqProofs only [q41.n0_w, sw0, sw1, sw2, sw3, sw4, sw5, reduceCtorEq, Nat.reduceEqDiff, Nat.reduceAdd, Nat.reduceDiv, Nat.reduceLeDiff, dw0, Int.reduceAdd, Int.reduceSub, Int.reduceMul, Int.reduceLT, Int.reduceLE, Int.reduceNeg, Int.reduceEq, Int.reduceToNat, Nat.reduceLT, Nat.reduceMul, Nat.reduceSub, Nat.reduceBEq, Nat.reduceLeDiff, xw0, eApp, rowOf, appRow, lkL, lkN, eMupd, vLook, mapSh, findE, putE, keqL, hasSh, fits, shb, Int.reduceBEq, eMksl, vSlc, boundsOf, boundOf, cleanL, Nat.reduceGT, Int.reduceGT, Int.reduceGE, Int.reduceDiv, Int.reduceTDiv, vAidx, rdc, slots_u1]
  simp -implicitDefEqProofs only [wl_s, q41.n2_w]
  simp -implicitDefEqProofs only [sw0, sw1, sw2, sw3, sw4, sw5, reduceCtorEq, Nat.reduceEqDiff, Nat.reduceAdd, Nat.reduceDiv, Nat.reduceLeDiff, dw0, Int.reduceAdd, Int.reduceSub, Int.reduceMul, Int.reduceLT, Int.reduceLE, Int.reduceNeg, Int.reduceEq, Int.reduceToNat, Nat.reduceLT, Nat.reduceMul, Nat.reduceSub, Nat.reduceBEq, Nat.reduceLeDiff, xw0, eApp, rowOf, appRow, lkL, lkN, eMupd, vLook, mapSh, findE, putE, keqL, hasSh, fits, shb, Int.reduceBEq, eMksl, vSlc, boundsOf, boundOf, cleanL, Nat.reduceGT, Int.reduceGT, Int.reduceGE, Int.reduceDiv, Int.reduceTDiv, vAidx, rdc, q41.n4_w]
  simp -implicitDefEqProofs only [wl_s, q41.n2_w]
  simp -implicitDefEqProofs only [sw0, sw1, sw2, sw3, sw4, sw5, reduceCtorEq, Nat.reduceEqDiff, Nat.reduceAdd, Nat.reduceDiv, Nat.reduceLeDiff, dw0, Int.reduceAdd, Int.reduceSub, Int.reduceMul, Int.reduceLT, Int.reduceLE, Int.reduceNeg, Int.reduceEq, Int.reduceToNat, Nat.reduceLT, Nat.reduceMul, Nat.reduceSub, Nat.reduceBEq, Nat.reduceLeDiff, xw0, eApp, rowOf, appRow, lkL, lkN, eMupd, vLook, mapSh, findE, putE, keqL, hasSh, fits, shb, Int.reduceBEq, eMksl, vSlc, boundsOf, boundOf, cleanL, Nat.reduceGT, Int.reduceGT, Int.reduceGE, Int.reduceDiv, Int.reduceTDiv, vAidx, rdc, q41.n4_w]
  simp -implicitDefEqProofs only [wl_s, q41.n2_w]
  simp -implicitDefEqProofs only [sw0, sw1, sw2, sw3, sw4, sw5, reduceCtorEq, Nat.reduceEqDiff, Nat.reduceAdd, Nat.reduceDiv, Nat.reduceLeDiff, dw0, Int.reduceAdd, Int.reduceSub, Int.reduceMul, Int.reduceLT, Int.reduceLE, Int.reduceNeg, Int.reduceEq, Int.reduceToNat, Nat.reduceLT, Nat.reduceMul, Nat.reduceSub, Nat.reduceBEq, Nat.reduceLeDiff, xw0, eApp, rowOf, appRow, lkL, lkN, eMupd, vLook, mapSh, findE, putE, keqL, hasSh, fits, shb, Int.reduceBEq, eMksl, vSlc, boundsOf, boundOf, cleanL, Nat.reduceGT, Int.reduceGT, Int.reduceGE, Int.reduceDiv, Int.reduceTDiv, vAidx, rdc, q41.n5_w, q41.ret, hu]
  exact hK
theorem gO_u {b : Bool} {s : St} {X : (AV → St → Prop) → Prop} {K : AV → St → Prop} : gO .undef b s X K = K .undef s := rfl
theorem Plan_1_s {v : AV} {qs : List (Int × Int × Int)} {cl x y : Nat} (hs : Sl H 3 jc v qs) (hr : row H cl 1 = some [v]) (hx : x < qs.length) (hy : y < qs.length) : VC ⟨prog, k + 1, b⟩ F_q18 [iv x, iv y, .ptr cl 0 1] ⟨H, lk⟩ K = K (.bool (decide (qs[x].2.2 < qs[y].2.2 ∨ qs[x].2.2 = qs[y].2.2 ∧ x < y))) ⟨H, lk⟩ := by
  apply VC_iff
  apply q18.enter
  have hx2 := hs.ld hx (show 2 < 3 by omega)
  have hy2 := hs.ld hy (show 2 < 3 by omega)
  have hax := hs.at' (k := .i64) hx
  have hay := hs.at' (k := .i64) hy
  by_cases c1 : qs[x].2.2 < qs[y].2.2
  · simp -implicitDefEqProofs only [q18.n0_w, sw0, sw1, sw2, sw3, sw4, sw5, reduceCtorEq, Nat.reduceEqDiff, Nat.reduceAdd, Nat.reduceDiv, Nat.reduceLeDiff, hr, hs.at, hx, hy, hs.off, hx2, hy2, eq_true c1, q18.ret, true_or, gO_u]
  · by_cases c2 : qs[x].2.2 = qs[y].2.2
    · by_cases c3 : (x : Int) < y
      · have c3' : x < y := by omega
        simp -implicitDefEqProofs only [q18.n0_w, sw0, sw1, sw2, sw3, sw4, sw5, reduceCtorEq, Nat.reduceEqDiff, Nat.reduceAdd, Nat.reduceDiv, Nat.reduceLeDiff, hr, hs.at, hx, hy, hs.off, hx2, hy2, eq_false c1, eq_true c2, eq_true c3, eq_true c3', q18.ret, false_or, or_true]
      · have c3' : ¬ x < y := by omega
        simp -implicitDefEqProofs only [q18.n0_w, sw0, sw1, sw2, sw3, sw4, sw5, reduceCtorEq, Nat.reduceEqDiff, Nat.reduceAdd, Nat.reduceDiv, Nat.reduceLeDiff, hr, hs.at, hx, hy, hs.off, hx2, hy2, eq_false c1, eq_true c2, eq_false c3, eq_false c3', q18.ret, false_or, or_self]
    · simp -implicitDefEqProofs only [q18.n0_w, sw0, sw1, sw2, sw3, sw4, sw5, reduceCtorEq, Nat.reduceEqDiff, Nat.reduceAdd, Nat.reduceDiv, Nat.reduceLeDiff, hr, hs.at, hx, hy, hs.off, hx2, hy2, eq_false c1, eq_false c2, q18.ret, false_or, false_and, or_self]
variable {f : AV} {L : List AObj} {a c x : AV}
theorem put0 {n : Int} (hK : K (.tup []) ⟨H ++ (.cells [.sref (H.length + (L.length + 1)) 0 1 1 1, f] :: (L ++ [.cells [iv n]])), true⟩) : VC ⟨prog, k + 100, b⟩ F_q22 [.ptr H.length 0 2, iv n] ⟨H ++ (.cells [.slice true 0 [], f] :: L), lk⟩ K := by
  apply q22.enter
  simp -implicitDefEqProofs only [q22.n0_w, sw0, sw1, sw2, sw3, sw4, sw5, reduceCtorEq, Nat.reduceEqDiff, Nat.reduceAdd, Nat.reduceDiv, Nat.reduceLeDiff, dw0, Int.reduceAdd, Int.reduceSub, Int.reduceMul, Int.reduceLT, Int.reduceLE, Int.reduceNeg, Int.reduceEq, Int.reduceToNat, Nat.reduceLT, Nat.reduceMul, Nat.reduceSub, Nat.reduceBEq, Nat.reduceLeDiff, xw0, eApp, rowOf, appRow, lkL, lkN, eMupd, vLook, mapSh, findE, putE, keqL, hasSh, fits, shb, Int.reduceBEq, eMksl, vSlc, boundsOf, boundOf, cleanL, Nat.reduceGT, Int.reduceGT, Int.reduceGE, Int.reduceDiv, Int.reduceTDiv, vAidx, rdc, heap_int_put_u1]
  simp -implicitDefEqProofs only [wl_s, q22.n2_w]
  simp -implicitDefEqProofs only [sw0, sw1, sw2, sw3, sw4, sw5, reduceCtorEq, Nat.reduceEqDiff, Nat.reduceAdd, Nat.reduceDiv, Nat.reduceLeDiff, dw0, Int.reduceAdd, Int.reduceSub, Int.reduceMul, Int.reduceLT, Int.reduceLE, Int.reduceNeg, Int.reduceEq, Int.reduceToNat, Nat.reduceLT, Nat.reduceMul, Nat.reduceSub, Nat.reduceBEq, Nat.reduceLeDiff, xw0, eApp, rowOf, appRow, lkL, lkN, eMupd, vLook, mapSh, findE, putE, keqL, hasSh, fits, shb, Int.reduceBEq, eMksl, vSlc, boundsOf, boundOf, cleanL, Nat.reduceGT, Int.reduceGT, Int.reduceGE, Int.reduceDiv, Int.reduceTDiv, vAidx, rdc, q22.ret]
  exact hK
theorem put1_1 {v z : AV} {qs : List (Int × Int × Int)} {cl n m : Nat} (hs : Sl H 3 jc v qs) (hr : row H cl 1 = some [v]) (hn : n < qs.length) (hm : m < qs.length)
    (hK : K (.tup []) ⟨H ++ (.cells [.sref (H.length + (L.length + 1)) 0 2 2 1, .fn F_q18 [.ptr cl 0 1]] :: (L ++ [.cells (if qs[n].2.2 < qs[m].2.2 ∨ qs[n].2.2 = qs[m].2.2 ∧ n < m then [iv n, iv m] else [iv m, iv n])])), true⟩) :
    VC ⟨prog, k + 100, b⟩ F_q22 [.ptr H.length 0 2, iv n] ⟨H ++ (.cells [.sref (H.length + (L.length + 1)) 0 1 1 1, .fn F_q18 [.ptr cl 0 1]] :: (L ++ [AObj.cells [iv m]])), lk⟩ K := by
  apply q22.enter
  have hbe := fun (X : List AObj) (lk : Bool) (b : Option Nat) (K : AV → St → Prop) => Plan_1_s (k := k + 98) (lk := lk) (b := b) (K := K) (hs.app (L := X)) (row_app (L := X) hr) hn hm
  by_cases c : qs[n].2.2 < qs[m].2.2 ∨ qs[n].2.2 = qs[m].2.2 ∧ n < m
  · rw [if_pos c] at hK
    simp -implicitDefEqProofs only [eq_true c] at hbe
    simp -implicitDefEqProofs only [q22.n0_w, sw0, sw1, sw2, sw3, sw4, sw5, reduceCtorEq, Nat.reduceEqDiff, Nat.reduceAdd, Nat.reduceDiv, Nat.reduceLeDiff, dw0, Int.reduceAdd, Int.reduceSub, Int.reduceMul, Int.reduceLT, Int.reduceLE, Int.reduceNeg, Int.reduceEq, Int.reduceToNat, Nat.reduceLT, Nat.reduceMul, Nat.reduceSub, Nat.reduceBEq, Nat.reduceLeDiff, xw0, eApp, rowOf, appRow, lkL, lkN, eMupd, vLook, mapSh, findE, putE, keqL, hasSh, fits, shb, Int.reduceBEq, eMksl, vSlc, boundsOf, boundOf, cleanL, Nat.reduceGT, Int.reduceGT, Int.reduceGE, Int.reduceDiv, Int.reduceTDiv, vAidx, rdc, heap_int_put_u1]
    simp -implicitDefEqProofs only [wl_s, q22.n2_w]
    simp -implicitDefEqProofs only [sw0, sw1, sw2, sw3, sw4, sw5, reduceCtorEq, Nat.reduceEqDiff, Nat.reduceAdd, Nat.reduceDiv, Nat.reduceLeDiff, dw0, Int.reduceAdd, Int.reduceSub, Int.reduceMul, Int.reduceLT, Int.reduceLE, Int.reduceNeg, Int.reduceEq, Int.reduceToNat, Nat.reduceLT, Nat.reduceMul, Nat.reduceSub, Nat.reduceBEq, Nat.reduceLeDiff, xw0, eApp, rowOf, appRow, lkL, lkN, eMupd, vLook, mapSh, findE, putE, keqL, hasSh, fits, shb, Int.reduceBEq, eMksl, vSlc, boundsOf, boundOf, cleanL, Nat.reduceGT, Int.reduceGT, Int.reduceGE, Int.reduceDiv, Int.reduceTDiv, vAidx, rdc, q22.n4_w, hbe, q22.n5_w]
    simp -implicitDefEqProofs only [wl_s, q22.n2_w]
    simp -implicitDefEqProofs only [sw0, sw1, sw2, sw3, sw4, sw5, reduceCtorEq, Nat.reduceEqDiff, Nat.reduceAdd, Nat.reduceDiv, Nat.reduceLeDiff, dw0, Int.reduceAdd, Int.reduceSub, Int.reduceMul, Int.reduceLT, Int.reduceLE, Int.reduceNeg, Int.reduceEq, Int.reduceToNat, Nat.reduceLT, Nat.reduceMul, Nat.reduceSub, Nat.reduceBEq, Nat.reduceLeDiff, xw0, eApp, rowOf, appRow, lkL, lkN, eMupd, vLook, mapSh, findE, putE, keqL, hasSh, fits, shb, Int.reduceBEq, eMksl, vSlc, boundsOf, boundOf, cleanL, Nat.reduceGT, Int.reduceGT, Int.reduceGE, Int.reduceDiv, Int.reduceTDiv, vAidx, rdc, q22.ret]
    exact hK
  · rw [if_neg c] at hK
    simp -implicitDefEqProofs only [eq_false c] at hbe
    simp -implicitDefEqProofs only [q22.n0_w, sw0, sw1, sw2, sw3, sw4, sw5, reduceCtorEq, Nat.reduceEqDiff, Nat.reduceAdd, Nat.reduceDiv, Nat.reduceLeDiff, dw0, Int.reduceAdd, Int.reduceSub, Int.reduceMul, Int.reduceLT, Int.reduceLE, Int.reduceNeg, Int.reduceEq, Int.reduceToNat, Nat.reduceLT, Nat.reduceMul, Nat.reduceSub, Nat.reduceBEq, Nat.reduceLeDiff, xw0, eApp, rowOf, appRow, lkL, lkN, eMupd, vLook, mapSh, findE, putE, keqL, hasSh, fits, shb, Int.reduceBEq, eMksl, vSlc, boundsOf, boundOf, cleanL, Nat.reduceGT, Int.reduceGT, Int.reduceGE, Int.reduceDiv, Int.reduceTDiv, vAidx, rdc, heap_int_put_u1]
    simp -implicitDefEqProofs only [wl_s, q22.n2_w]
    simp -implicitDefEqProofs only [sw0, sw1, sw2, sw3, sw4, sw5, reduceCtorEq, Nat.reduceEqDiff, Nat.reduceAdd, Nat.reduceDiv, Nat.reduceLeDiff, dw0, Int.reduceAdd, Int.reduceSub, Int.reduceMul, Int.reduceLT, Int.reduceLE, Int.reduceNeg, Int.reduceEq, Int.reduceToNat, Nat.reduceLT, Nat.reduceMul, Nat.reduceSub, Nat.reduceBEq, Nat.reduceLeDiff, xw0, eApp, rowOf, appRow, lkL, lkN, eMupd, vLook, mapSh, findE, putE, keqL, hasSh, fits, shb, Int.reduceBEq, eMksl, vSlc, boundsOf, boundOf, cleanL, Nat.reduceGT, Int.reduceGT, Int.reduceGE, Int.reduceDiv, Int.reduceTDiv, vAidx, rdc, q22.n4_w, hbe, q22.ret]
    exact hK
theorem put1_2 {v z : AV} {qs : List (Int × Int × Int)} {cl n m : Nat} (hs : Sl H 3 jc v qs) (hr : row H cl 1 = some [v]) (hn : n < qs.length) (hm : m < qs.length)
    (hK : K (.tup []) ⟨H ++ (.cells [.sref (H.length + (L.length + 1)) 0 2 2 1, .fn F_q18 [.ptr cl 0 1]] :: (L ++ [.cells (if qs[n].2.2 < qs[m].2.2 ∨ qs[n].2.2 = qs[m].2.2 ∧ n < m then [iv n, iv m] else [iv m, iv n])])), true⟩) :
    VC ⟨prog, k + 100, b⟩ F_q22 [.ptr H.length 0 2, iv n] ⟨H ++ (.cells [.sref (H.length + (L.length + 1)) 0 1 2 1, .fn F_q18 [.ptr cl 0 1]] :: (L ++ [AObj.cells [iv m, z]])), lk⟩ K := by
  apply q22.enter
  have hbe := fun (X : List AObj) (lk : Bool) (b : Option Nat) (K : AV → St → Prop) => Plan_1_s (k := k + 98) (lk := lk) (b := b) (K := K) (hs.app (L := X)) (row_app (L := X) hr) hn hm
  by_cases c : qs[n].2.2 < qs[m].2.2 ∨ qs[n].2.2 = qs[m].2.2 ∧ n < m
  · rw [if_pos c] at hK
    simp -implicitDefEqProofs only [eq_true c] at hbe
    simp -implicitDefEqProofs only [q22.n0_w, sw0, sw1, sw2, sw3, sw4, sw5, reduceCtorEq, Nat.reduceEqDiff, Nat.reduceAdd, Nat.reduceDiv, Nat.reduceLeDiff, dw0, Int.reduceAdd, Int.reduceSub, Int.reduceMul, Int.reduceLT, Int.reduceLE, Int.reduceNeg, Int.reduceEq, Int.reduceToNat, Nat.reduceLT, Nat.reduceMul, Nat.reduceSub, Nat.reduceBEq, Nat.reduceLeDiff, xw0, eApp, rowOf, appRow, lkL, lkN, eMupd, vLook, mapSh, findE, putE, keqL, hasSh, fits, shb, Int.reduceBEq, eMksl, vSlc, boundsOf, boundOf, cleanL, Nat.reduceGT, Int.reduceGT, Int.reduceGE, Int.reduceDiv, Int.reduceTDiv, vAidx, rdc, heap_int_put_u1]
    simp -implicitDefEqProofs only [wl_s, q22.n2_w]
    simp -implicitDefEqProofs only [sw0, sw1, sw2, sw3, sw4, sw5, reduceCtorEq, Nat.reduceEqDiff, Nat.reduceAdd, Nat.reduceDiv, Nat.reduceLeDiff, dw0, Int.reduceAdd, Int.reduceSub, Int.reduceMul, Int.reduceLT, Int.reduceLE, Int.reduceNeg, Int.reduceEq, Int.reduceToNat, Nat.reduceLT, Nat.reduceMul, Nat.reduceSub, Nat.reduceBEq, Nat.reduceLeDiff, xw0, eApp, rowOf, appRow, lkL, lkN, eMupd, vLook, mapSh, findE, putE, keqL, hasSh, fits, shb, Int.reduceBEq, eMksl, vSlc, boundsOf, boundOf, cleanL, Nat.reduceGT, Int.reduceGT, Int.reduceGE, Int.reduceDiv, Int.reduceTDiv, vAidx, rdc, q22.n4_w, hbe, q22.n5_w]
    simp -implicitDefEqProofs only [wl_s, q22.n2_w]
    simp -implicitDefEqProofs only [sw0, sw1, sw2, sw3, sw4, sw5, reduceCtorEq, Nat.reduceEqDiff, Nat.reduceAdd, Nat.reduceDiv, Nat.reduceLeDiff, dw0, Int.reduceAdd, Int.reduceSub, Int.reduceMul, Int.reduceLT, Int.reduceLE, Int.reduceNeg, Int.reduceEq, Int.reduceToNat, Nat.reduceLT, Nat.reduceMul, Nat.reduceSub, Nat.reduceBEq, Nat.reduceLeDiff, xw0, eApp, rowOf, appRow, lkL, lkN, eMupd, vLook, mapSh, findE, putE, keqL, hasSh, fits, shb, Int.reduceBEq, eMksl, vSlc, boundsOf, boundOf, cleanL, Nat.reduceGT, Int.reduceGT, Int.reduceGE, Int.reduceDiv, Int.reduceTDiv, vAidx, rdc, q22.ret]
    exact hK
  · rw [if_neg c] at hK
    simp -implicitDefEqProofs only [eq_false c] at hbe
    simp -implicitDefEqProofs only [q22.n0_w, sw0, sw1, sw2, sw3, sw4, sw5, reduceCtorEq, Nat.reduceEqDiff, Nat.reduceAdd, Nat.reduceDiv, Nat.reduceLeDiff, dw0, Int.reduceAdd, Int.reduceSub, Int.reduceMul, Int.reduceLT, Int.reduceLE, Int.reduceNeg, Int.reduceEq, Int.reduceToNat, Nat.reduceLT, Nat.reduceMul, Nat.reduceSub, Nat.reduceBEq, Nat.reduceLeDiff, xw0, eApp, rowOf, appRow, lkL, lkN, eMupd, vLook, mapSh, findE, putE, keqL, hasSh, fits, shb, Int.reduceBEq, eMksl, vSlc, boundsOf, boundOf, cleanL, Nat.reduceGT, Int.reduceGT, Int.reduceGE, Int.reduceDiv, Int.reduceTDiv, vAidx, rdc, heap_int_put_u1]
    simp -implicitDefEqProofs only [wl_s, q22.n2_w]
    simp -implicitDefEqProofs only [sw0, sw1, sw2, sw3, sw4, sw5, reduceCtorEq, Nat.reduceEqDiff, Nat.reduceAdd, Nat.reduceDiv, Nat.reduceLeDiff, dw0, Int.reduceAdd, Int.reduceSub, Int.reduceMul, Int.reduceLT, Int.reduceLE, Int.reduceNeg, Int.reduceEq, Int.reduceToNat, Nat.reduceLT, Nat.reduceMul, Nat.reduceSub, Nat.reduceBEq, Nat.reduceLeDiff, xw0, eApp, rowOf, appRow, lkL, lkN, eMupd, vLook, mapSh, findE, putE, keqL, hasSh, fits, shb, Int.reduceBEq, eMksl, vSlc, boundsOf, boundOf, cleanL, Nat.reduceGT, Int.reduceGT, Int.reduceGE, Int.reduceDiv, Int.reduceTDiv, vAidx, rdc, q22.n4_w, hbe, q22.ret]
    exact hK
theorem take1 (hk : 100 ≤ k) {ver : Nat} {R : List AV} {n : Int} (hv : R.length + 1 = ver) (hK : K (iv n) ⟨H ++ (.cells [.slice false 1 [], f] :: (L ++ [.cells (iv n :: R)])), true⟩) :
    VC ⟨prog, k + 1, b⟩ F_q23 [.ptr H.length 0 2] ⟨H ++ (.cells [.sref (H.length + (L.length + 1)) 0 1 ver 1, f] :: (L ++ [.cells (iv n :: R)])), true⟩ K := by
  subst hv
  apply q23.enter
  simp -implicitDefEqProofs only [q23.n0_w, sw0, sw1, sw2, sw3, sw4, sw5, reduceCtorEq, Nat.reduceEqDiff, Nat.reduceAdd, Nat.reduceDiv, Nat.reduceLeDiff, dw0, Int.reduceAdd, Int.reduceSub, Int.reduceMul, Int.reduceLT, Int.reduceLE, Int.reduceNeg, Int.reduceEq, Int.reduceToNat, Nat.reduceLT, Nat.reduceMul, Nat.reduceSub, Nat.reduceBEq, Nat.reduceLeDiff, xw0, eApp, rowOf, appRow, lkL, lkN, eMupd, vLook, mapSh, findE, putE, keqL, hasSh, fits, shb, Int.reduceBEq, eMksl, vSlc, boundsOf, boundOf, cleanL, Nat.reduceGT, Int.reduceGT, Int.reduceGE, Int.reduceDiv, Int.reduceTDiv, vAidx, rdc, heap_int_take_u1]
  rw [wl_1 (by omega)]
  simp -implicitDefEqProofs only [q23.n2_w, sw0, sw1, sw2, sw3, sw4, sw5, reduceCtorEq, Nat.reduceEqDiff, Nat.reduceAdd, Nat.reduceDiv, Nat.reduceLeDiff, dw0, Int.reduceAdd, Int.reduceSub, Int.reduceMul, Int.reduceLT, Int.reduceLE, Int.reduceNeg, Int.reduceEq, Int.reduceToNat, Nat.reduceLT, Nat.reduceMul, Nat.reduceSub, Nat.reduceBEq, Nat.reduceLeDiff, xw0, eApp, rowOf, appRow, lkL, lkN, eMupd, vLook, mapSh, findE, putE, keqL, hasSh, fits, shb, Int.reduceBEq, eMksl, vSlc, boundsOf, boundOf, cleanL, Nat.reduceGT, Int.reduceGT, Int.reduceGE, Int.reduceDiv, Int.reduceTDiv, vAidx, rdc, heap_int_take_u3]
  rw [wl_1 (by omega)]
  simp -implicitDefEqProofs only [q23.n4_w, sw0, sw1, sw2, sw3, sw4, sw5, reduceCtorEq, Nat.reduceEqDiff, Nat.reduceAdd, Nat.reduceDiv, Nat.reduceLeDiff, dw0, Int.reduceAdd, Int.reduceSub, Int.reduceMul, Int.reduceLT, Int.reduceLE, Int.reduceNeg, Int.reduceEq, Int.reduceToNat, Nat.reduceLT, Nat.reduceMul, Nat.reduceSub, Nat.reduceBEq, Nat.reduceLeDiff, xw0, eApp, rowOf, appRow, lkL, lkN, eMupd, vLook, mapSh, findE, putE, keqL, hasSh, fits, shb, Int.reduceBEq, eMksl, vSlc, boundsOf, boundOf, cleanL, Nat.reduceGT, Int.reduceGT, Int.reduceGE, Int.reduceDiv, Int.reduceTDiv, vAidx, rdc, q23.n6_w, q23.n8_w]
  rw [wl_1 (by omega)]
  simp -implicitDefEqProofs only [q23.n4_w, sw0, sw1, sw2, sw3, sw4, sw5, reduceCtorEq, Nat.reduceEqDiff, Nat.reduceAdd, Nat.reduceDiv, Nat.reduceLeDiff, dw0, Int.reduceAdd, Int.reduceSub, Int.reduceMul, Int.reduceLT, Int.reduceLE, Int.reduceNeg, Int.reduceEq, Int.reduceToNat, Nat.reduceLT, Nat.reduceMul, Nat.reduceSub, Nat.reduceBEq, Nat.reduceLeDiff, xw0, eApp, rowOf, appRow, lkL, lkN, eMupd, vLook, mapSh, findE, putE, keqL, hasSh, fits, shb, Int.reduceBEq, eMksl, vSlc, boundsOf, boundOf, cleanL, Nat.reduceGT, Int.reduceGT, Int.reduceGE, Int.reduceDiv, Int.reduceTDiv, vAidx, rdc, q23.n6_w, q23.n8_w]
  rw [wl_1 (by omega)]
  simp -implicitDefEqProofs only [q23.n4_w, sw0, sw1, sw2, sw3, sw4, sw5, reduceCtorEq, Nat.reduceEqDiff, Nat.reduceAdd, Nat.reduceDiv, Nat.reduceLeDiff, dw0, Int.reduceAdd, Int.reduceSub, Int.reduceMul, Int.reduceLT, Int.reduceLE, Int.reduceNeg, Int.reduceEq, Int.reduceToNat, Nat.reduceLT, Nat.reduceMul, Nat.reduceSub, Nat.reduceBEq, Nat.reduceLeDiff, xw0, eApp, rowOf, appRow, lkL, lkN, eMupd, vLook, mapSh, findE, putE, keqL, hasSh, fits, shb, Int.reduceBEq, eMksl, vSlc, boundsOf, boundOf, cleanL, Nat.reduceGT, Int.reduceGT, Int.reduceGE, Int.reduceDiv, Int.reduceTDiv, vAidx, rdc, q23.n9_w, q23.n10_w, q23.ret]
  rw [List.take_of_length_le (by simp)]
  exact hK
theorem take2 (hk : 100 ≤ k) {n m : Int} (hK : K (iv n) ⟨H ++ (.cells [.sref (H.length + (L.length + 1)) 0 1 2 1, f] :: (L ++ [.cells [iv m, iv m]])), true⟩) :
    VC ⟨prog, k + 1, b⟩ F_q23 [.ptr H.length 0 2] ⟨H ++ (.cells [.sref (H.length + (L.length + 1)) 0 2 2 1, f] :: (L ++ [.cells [iv n, iv m]])), true⟩ K := by
  apply q23.enter
  simp -implicitDefEqProofs only [q23.n0_w, sw0, sw1, sw2, sw3, sw4, sw5, reduceCtorEq, Nat.reduceEqDiff, Nat.reduceAdd, Nat.reduceDiv, Nat.reduceLeDiff, dw0, Int.reduceAdd, Int.reduceSub, Int.reduceMul, Int.reduceLT, Int.reduceLE, Int.reduceNeg, Int.reduceEq, Int.reduceToNat, Nat.reduceLT, Nat.reduceMul, Nat.reduceSub, Nat.reduceBEq, Nat.reduceLeDiff, xw0, eApp, rowOf, appRow, lkL, lkN, eMupd, vLook, mapSh, findE, putE, keqL, hasSh, fits, shb, Int.reduceBEq, eMksl, vSlc, boundsOf, boundOf, cleanL, Nat.reduceGT, Int.reduceGT, Int.reduceGE, Int.reduceDiv, Int.reduceTDiv, vAidx, rdc, heap_int_take_u1]
  rw [wl_1 (by omega)]
  simp -implicitDefEqProofs only [q23.n2_w, sw0, sw1, sw2, sw3, sw4, sw5, reduceCtorEq, Nat.reduceEqDiff, Nat.reduceAdd, Nat.reduceDiv, Nat.reduceLeDiff, dw0, Int.reduceAdd, Int.reduceSub, Int.reduceMul, Int.reduceLT, Int.reduceLE, Int.reduceNeg, Int.reduceEq, Int.reduceToNat, Nat.reduceLT, Nat.reduceMul, Nat.reduceSub, Nat.reduceBEq, Nat.reduceLeDiff, xw0, eApp, rowOf, appRow, lkL, lkN, eMupd, vLook, mapSh, findE, putE, keqL, hasSh, fits, shb, Int.reduceBEq, eMksl, vSlc, boundsOf, boundOf, cleanL, Nat.reduceGT, Int.reduceGT, Int.reduceGE, Int.reduceDiv, Int.reduceTDiv, vAidx, rdc, heap_int_take_u3]
  rw [wl_1 (by omega)]
  simp -implicitDefEqProofs only [q23.n4_w, sw0, sw1, sw2, sw3, sw4, sw5, reduceCtorEq, Nat.reduceEqDiff, Nat.reduceAdd, Nat.reduceDiv, Nat.reduceLeDiff, dw0, Int.reduceAdd, Int.reduceSub, Int.reduceMul, Int.reduceLT, Int.reduceLE, Int.reduceNeg, Int.reduceEq, Int.reduceToNat, Nat.reduceLT, Nat.reduceMul, Nat.reduceSub, Nat.reduceBEq, Nat.reduceLeDiff, xw0, eApp, rowOf, appRow, lkL, lkN, eMupd, vLook, mapSh, findE, putE, keqL, hasSh, fits, shb, Int.reduceBEq, eMksl, vSlc, boundsOf, boundOf, cleanL, Nat.reduceGT, Int.reduceGT, Int.reduceGE, Int.reduceDiv, Int.reduceTDiv, vAidx, rdc, q23.n6_w, q23.n8_w]
  rw [wl_1 (by omega)]
  simp -implicitDefEqProofs only [q23.n4_w, sw0, sw1, sw2, sw3, sw4, sw5, reduceCtorEq, Nat.reduceEqDiff, Nat.reduceAdd, Nat.reduceDiv, Nat.reduceLeDiff, dw0, Int.reduceAdd, Int.reduceSub, Int.reduceMul, Int.reduceLT, Int.reduceLE, Int.reduceNeg, Int.reduceEq, Int.reduceToNat, Nat.reduceLT, Nat.reduceMul, Nat.reduceSub, Nat.reduceBEq, Nat.reduceLeDiff, xw0, eApp, rowOf, appRow, lkL, lkN, eMupd, vLook, mapSh, findE, putE, keqL, hasSh, fits, shb, Int.reduceBEq, eMksl, vSlc, boundsOf, boundOf, cleanL, Nat.reduceGT, Int.reduceGT, Int.reduceGE, Int.reduceDiv, Int.reduceTDiv, vAidx, rdc, q23.n6_w, q23.n8_w]
  rw [wl_1 (by omega)]
  simp -implicitDefEqProofs only [q23.n4_w, sw0, sw1, sw2, sw3, sw4, sw5, reduceCtorEq, Nat.reduceEqDiff, Nat.reduceAdd, Nat.reduceDiv, Nat.reduceLeDiff, dw0, Int.reduceAdd, Int.reduceSub, Int.reduceMul, Int.reduceLT, Int.reduceLE, Int.reduceNeg, Int.reduceEq, Int.reduceToNat, Nat.reduceLT, Nat.reduceMul, Nat.reduceSub, Nat.reduceBEq, Nat.reduceLeDiff, xw0, eApp, rowOf, appRow, lkL, lkN, eMupd, vLook, mapSh, findE, putE, keqL, hasSh, fits, shb, Int.reduceBEq, eMksl, vSlc, boundsOf, boundOf, cleanL, Nat.reduceGT, Int.reduceGT, Int.reduceGE, Int.reduceDiv, Int.reduceTDiv, vAidx, rdc, q23.n9_w, q23.n10_w, q23.ret]
  exact hK
theorem slots_1_s {J : Nat → St → Prop} {R : St → Prop} (hk : 1000 ≤ k) {l ck : Nat} {s : St}
    (hy : ∀ (t : Nat) s, t < 500 → J t s → ∃ m v, row s.heap ck 1 = some [m] ∧ vLook s.heap shI (.slice true 0 []) false m (iv t) = some v ∧ ∀ b, YC ⟨prog, k, b⟩ l [iv t, v] s (fun w s' => (w = .bool true ∧ J (t + 1) s') ∨ (w = .bool false ∧ R s')))
    (h0 : J 0 { s with leak := false }) (hend : ∀ s, J 500 s → R s) (hR : ∀ s', R s' → s'.leak = true ∧ K (.tup []) ⟨s'.heap, true⟩) : VC ⟨prog, k + 1, b⟩ F_q42 [.yield l, .ptr ck 0 1] s K := by
  have hfin : ∀ s', R s' → K (leave s.heap.length s.leak [] [] s').1 (leave s.heap.length s.leak [] [] s').2 := by
    intro s' h
    obtain ⟨h1, h2⟩ := hR s' h
    obtain ⟨G, lk'⟩ := s'
    dsimp only at h1
    subst h1
    rw [lv_t]
    exact h2
  apply q42.enter
  simp -implicitDefEqProofs only [q42.n0_w, sw0, sw1, sw2, sw3, sw4, sw5, reduceCtorEq, Nat.reduceEqDiff, Nat.reduceAdd, Nat.reduceDiv, Nat.reduceLeDiff]
  refine q42.n1_l (fun m r2 s => ∃ t : Nat, r2 = iv t ∧ m = 500 - t ∧ t ≤ 500 ∧ J t s) 500 (by simp -implicitDefEqProofs only []; omega) ⟨0, rfl, rfl, by omega, h0⟩ ?_
  rintro m r2 r3 s ⟨t, rfl, rfl, ht, hJ⟩
  simp -implicitDefEqProofs only [q42.n2_w, sw0, sw1, sw2, sw3, sw4, sw5, reduceCtorEq, Nat.reduceEqDiff, Nat.reduceAdd, Nat.reduceDiv, Nat.reduceLeDiff]
  split
  · rename_i hlt
    have hlt : t < 500 := by omega
    obtain ⟨mm, v, h1, h2, h3⟩ := hy t s hlt hJ
    simp -implicitDefEqProofs only [q42.n4_w, sw0, sw1, sw2, sw3, sw4, sw5, reduceCtorEq, Nat.reduceEqDiff, Nat.reduceAdd, Nat.reduceDiv, Nat.reduceLeDiff, h1, h2, VV_y]
    refine YC_mono ?_ (h3 _)
    rintro w s' (⟨rfl, hJ'⟩ | ⟨rfl, hR'⟩)
    · simp -implicitDefEqProofs only [sw0, sw1, sw2, sw3, sw4, sw5, reduceCtorEq, Nat.reduceEqDiff, Nat.reduceAdd, Nat.reduceDiv, Nat.reduceLeDiff, q42.n5_w]
      refine q42.n1_go (m' := 500 - (t + 1)) (by omega) ⟨t + 1, by rw [wrap64 (by omega)]; rfl, rfl, by omega, hJ'⟩
    · simp -implicitDefEqProofs only [sw0, sw1, sw2, sw3, sw4, sw5, reduceCtorEq, Nat.reduceEqDiff, Nat.reduceAdd, Nat.reduceDiv, Nat.reduceLeDiff, q42.ret]
      exact hfin s' hR'
  · rename_i hge
    have hte : t = 500 := by omega
    subst hte
    simp -implicitDefEqProofs only [sw0, sw1, sw2, sw3, sw4, sw5, reduceCtorEq, Nat.reduceEqDiff, Nat.reduceAdd, Nat.reduceDiv, Nat.reduceLeDiff, RK_n, q42.ret]
    exact hfin s (hend s hJ)
theorem put0' (hk : 100 ≤ k) {n : Int} (hK : K (.tup []) ⟨H ++ (.cells [.sref (H.length + (L.length + 1)) 0 1 1 1, f] :: (L ++ [.cells [iv n]])), true⟩) : VC ⟨prog, k, b⟩ F_q22 [.ptr H.length 0 2, iv n] ⟨H ++ (.cells [.slice true 0 [], f] :: L), lk⟩ K := by
  obtain ⟨k, rfl⟩ : ∃ j, k = j + 100 := ⟨k - 100, by omega⟩
  exact put0 hK
theorem put1'_1 (hk : 100 ≤ k) {v z : AV} {qs : List (Int × Int × Int)} {cl n m : Nat} (hs : Sl H 3 jc v qs) (hr : row H cl 1 = some [v]) (hn : n < qs.length) (hm : m < qs.length)
    (hK : K (.tup []) ⟨H ++ (.cells [.sref (H.length + (L.length + 1)) 0 2 2 1, .fn F_q18 [.ptr cl 0 1]] :: (L ++ [.cells (if qs[n].2.2 < qs[m].2.2 ∨ qs[n].2.2 = qs[m].2.2 ∧ n < m then [iv n, iv m] else [iv m, iv n])])), true⟩) :
    VC ⟨prog, k, b⟩ F_q22 [.ptr H.length 0 2, iv n] ⟨H ++ (.cells [.sref (H.length + (L.length + 1)) 0 1 1 1, .fn F_q18 [.ptr cl 0 1]] :: (L ++ [AObj.cells [iv m]])), lk⟩ K := by
  obtain ⟨k, rfl⟩ : ∃ j, k = j + 100 := ⟨k - 100, by omega⟩
  exact put1_1 (z := z) hs hr hn hm hK
theorem put1'_2 (hk : 100 ≤ k) {v z : AV} {qs : List (Int × Int × Int)} {cl n m : Nat} (hs : Sl H 3 jc v qs) (hr : row H cl 1 = some [v]) (hn : n < qs.length) (hm : m < qs.length)
    (hK : K (.tup []) ⟨H ++ (.cells [.sref (H.length + (L.length + 1)) 0 2 2 1, .fn F_q18 [.ptr cl 0 1]] :: (L ++ [.cells (if qs[n].2.2 < qs[m].2.2 ∨ qs[n].2.2 = qs[m].2.2 ∧ n < m then [iv n, iv m] else [iv m, iv n])])), true⟩) :
    VC ⟨prog, k, b⟩ F_q22 [.ptr H.length 0 2, iv n] ⟨H ++ (.cells [.sref (H.length + (L.length + 1)) 0 1 2 1, .fn F_q18 [.ptr cl 0 1]] :: (L ++ [AObj.cells [iv m, z]])), lk⟩ K := by
  obtain ⟨k, rfl⟩ : ∃ j, k = j + 100 := ⟨k - 100, by omega⟩
  exact put1_2 (z := z) hs hr hn hm hK
theorem yB0 (hk : 1000 ≤ k) {r0 r1 r6 r9 r10 r11 r12 r13 r14 r15 r16 r17 r18 r19 r20 r21 r22 r23 r24 r25 r26 r27 r28 r29 r30 r31 r32 r33 r34 r35 r36 r37 r38 r39 r40 r41 r42 r43 r44 r45 r46 r47 r48 r49 r50 r51 r52 r53 r54 r55 r56 r57 r58 r59 r60 r61 r62 r63 r64 r65 r66 : AV} {m0 m1 : AObj} {x1 x2 : AObj}
    (hK : K (.bool true) ⟨H ++ [.cells [vB], .cells [iv 1], .cells [.slice true 0 []], .cells [iv 0], .cells [iv 0, iv 0], .cells [.sref (H.length + 4) 0 2 2 1], .cells [.sref (H.length + 13) 0 1 2 1, .fn F_q18 [.ptr H.length 0 1]], m0, m1, x1, .cells [iv 0, iv 1], x2, .loop [r0, r1, .ptr H.length 0 1, .ptr (H.length + 1) 0 1, .ptr (H.length + 2) 0 1, .ptr (H.length + 3) 0 1, r6, .ptr (H.length + 5) 0 1, .ptr (H.length + 6) 0 2, r9, r10, r11, r12, r13, r14, r15, r16, r17, r18, r19, r20, r21, r22, r23, r24, r25, r26, r27, r28, r29, r30, r31, r32, r33, r34, r35, r36, r37, r38, r39, r40, r41, r42, r43, r44, r45, r46, r47, r48, r49, r50, r51, r52, r53, r54, r55, r56, r57, r58, r59, r60, r61, r62, r63, r64, r65, r66] [28, 29] q17.n4 q17.n5 true none, .cells [iv 1, iv 1]], true⟩) :
    YC ⟨prog, k + 1, b⟩ (H.length + 12) [iv 0, .sref (H.length + 10) 0 2 2 1] ⟨H ++ [.cells [vB], .cells [iv 1], .cells [.slice true 0 []], .cells [iv 0], .cells [iv 0, iv 0], .cells [.sref (H.length + 4) 0 2 2 1], .cells [.slice true 0 [], .fn F_q18 [.ptr H.length 0 1]], m0, m1, x1, .cells [iv 0, iv 1], x2, .loop [r0, r1, .ptr H.length 0 1, .ptr (H.length + 1) 0 1, .ptr (H.length + 2) 0 1, .ptr (H.length + 3) 0 1, r6, .ptr (H.length + 5) 0 1, .ptr (H.length + 6) 0 2, r9, r10, r11, r12, r13, r14, r15, r16, r17, r18, r19, r20, r21, r22, r23, r24, r25, r26, r27, r28, r29, r30, r31, r32, r33, r34, r35, r36, r37, r38, r39, r40, r41, r42, r43, r44, r45, r46, r47, r48, r49, r50, r51, r52, r53, r54, r55, r56, r57, r58, r59, r60, r61, r62, r63, r64, r65, r66] [28, 29] q17.n4 q17.n5 true none], lk⟩ K := by
  have hk1 : 100 ≤ k := by omega
  have hk2 : 100 ≤ k - 1 := by omega
  refine YC_go (by simp -implicitDefEqProofs only [sw0, sw1, sw2, sw3, sw4, sw5, reduceCtorEq, Nat.reduceEqDiff, Nat.reduceAdd, Nat.reduceDiv, Nat.reduceLeDiff, dw0, Int.reduceAdd, Int.reduceSub, Int.reduceMul, Int.reduceLT, Int.reduceLE, Int.reduceNeg, Int.reduceEq, Int.reduceToNat, Nat.reduceLT, Nat.reduceMul, Nat.reduceSub, Nat.reduceBEq, Nat.reduceLeDiff, xw0, eApp, rowOf, appRow, lkL, lkN, eMupd, vLook, mapSh, findE, putE, keqL, hasSh, fits, shb, Int.reduceBEq, eMksl, vSlc, boundsOf, boundOf, cleanL, Nat.reduceGT, Int.reduceGT, Int.reduceGE, Int.reduceDiv, Int.reduceTDiv, vAidx, rdc]; rfl) rfl ?_
  simp -implicitDefEqProofs only [sw0, sw1, sw2, sw3, sw4, sw5, reduceCtorEq, Nat.reduceEqDiff, Nat.reduceAdd, Nat.reduceDiv, Nat.reduceLeDiff, dw0, Int.reduceAdd, Int.reduceSub, Int.reduceMul, Int.reduceLT, Int.reduceLE, Int.reduceNeg, Int.reduceEq, Int.reduceToNat, Nat.reduceLT, Nat.reduceMul, Nat.reduceSub, Nat.reduceBEq, Nat.reduceLeDiff, xw0, eApp, rowOf, appRow, lkL, lkN, eMupd, vLook, mapSh, findE, putE, keqL, hasSh, fits, shb, Int.reduceBEq, eMksl, vSlc, boundsOf, boundOf, cleanL, Nat.reduceGT, Int.reduceGT, Int.reduceGE, Int.reduceDiv, Int.reduceTDiv, vAidx, rdc, q17.n4_w, q17.n5_w, YK, Plan_u6]
  refine ⟨⟨_, _, _, _, rfl⟩, ?_⟩
  rw [wl_1 (by omega)]
  simp -implicitDefEqProofs only [q17.n7_w, sw0, sw1, sw2, sw3, sw4, sw5, reduceCtorEq, Nat.reduceEqDiff, Nat.reduceAdd, Nat.reduceDiv, Nat.reduceLeDiff, dw0, Int.reduceAdd, Int.reduceSub, Int.reduceMul, Int.reduceLT, Int.reduceLE, Int.reduceNeg, Int.reduceEq, Int.reduceToNat, Nat.reduceLT, Nat.reduceMul, Nat.reduceSub, Nat.reduceBEq, Nat.reduceLeDiff, xw0, eApp, rowOf, appRow, lkL, lkN, eMupd, vLook, mapSh, findE, putE, keqL, hasSh, fits, shb, Int.reduceBEq, eMksl, vSlc, boundsOf, boundOf, cleanL, Nat.reduceGT, Int.reduceGT, Int.reduceGE, Int.reduceDiv, Int.reduceTDiv, vAidx, rdc, q17.n9_w]
  have h := fun (K : AV → St → Prop) X (hK) => put0' (k := k) (b := none) (lk := lk) (K := K) (n := 0) (f := .fn F_q18 [.ptr H.length 0 1]) hk1 (H := H ++ [.cells [vB], .cells [iv 1], .cells [.slice true 0 []], .cells [iv 0], .cells [iv 0, iv 0], .cells [.sref (H.length + 4) 0 2 2 1]]) (L := [m0, m1, x1, .cells [iv 0, iv 1], x2, X]) hK
  simp -implicitDefEqProofs only [sw0, sw1, sw2, sw3, sw4, sw5, reduceCtorEq, Nat.reduceEqDiff, Nat.reduceAdd, Nat.reduceDiv, Nat.reduceLeDiff, Nat.add_assoc] at h
  refine h _ _ ?_
  clear h
  rw [wl_1 (by omega)]
  simp -implicitDefEqProofs only [q17.n7_w, sw0, sw1, sw2, sw3, sw4, sw5, reduceCtorEq, Nat.reduceEqDiff, Nat.reduceAdd, Nat.reduceDiv, Nat.reduceLeDiff, dw0, Int.reduceAdd, Int.reduceSub, Int.reduceMul, Int.reduceLT, Int.reduceLE, Int.reduceNeg, Int.reduceEq, Int.reduceToNat, Nat.reduceLT, Nat.reduceMul, Nat.reduceSub, Nat.reduceBEq, Nat.reduceLeDiff, xw0, eApp, rowOf, appRow, lkL, lkN, eMupd, vLook, mapSh, findE, putE, keqL, hasSh, fits, shb, Int.reduceBEq, eMksl, vSlc, boundsOf, boundOf, cleanL, Nat.reduceGT, Int.reduceGT, Int.reduceGE, Int.reduceDiv, Int.reduceTDiv, vAidx, rdc, q17.n9_w]
  have h := fun (K : AV → St → Prop) X (hK) => put1'_1 (k := k) (b := none) (lk := true) (K := K) (n := 1) (m := 0) (z := .undef) (qs := jB) (cl := H.length) (v := vB) hk1 (H := H ++ [.cells [vB], .cells [iv 1], .cells [.slice true 0 []], .cells [iv 0], .cells [iv 0, iv 0], .cells [.sref (H.length + 4) 0 2 2 1]]) (L := [m0, m1, x1, .cells [iv 0, iv 1], x2, X]) vB_sl (by simp -implicitDefEqProofs only [sw0, sw1, sw2, sw3, sw4, sw5, reduceCtorEq, Nat.reduceEqDiff, Nat.reduceAdd, Nat.reduceDiv, Nat.reduceLeDiff, dw0, Int.reduceAdd, Int.reduceSub, Int.reduceMul, Int.reduceLT, Int.reduceLE, Int.reduceNeg, Int.reduceEq, Int.reduceToNat, Nat.reduceLT, Nat.reduceMul, Nat.reduceSub, Nat.reduceBEq, Nat.reduceLeDiff, xw0, eApp, rowOf, appRow, lkL, lkN, eMupd, vLook, mapSh, findE, putE, keqL, hasSh, fits, shb, Int.reduceBEq, eMksl, vSlc, boundsOf, boundOf, cleanL, Nat.reduceGT, Int.reduceGT, Int.reduceGE, Int.reduceDiv, Int.reduceTDiv, vAidx, rdc]) (by decide) (by decide) hK
  simp -implicitDefEqProofs only [sw0, sw1, sw2, sw3, sw4, sw5, reduceCtorEq, Nat.reduceEqDiff, Nat.reduceAdd, Nat.reduceDiv, Nat.reduceLeDiff, dw0, Int.reduceAdd, Int.reduceSub, Int.reduceMul, Int.reduceLT, Int.reduceLE, Int.reduceNeg, Int.reduceEq, Int.reduceToNat, Nat.reduceLT, Nat.reduceMul, Nat.reduceSub, Nat.reduceBEq, Nat.reduceLeDiff, xw0, eApp, rowOf, appRow, lkL, lkN, eMupd, vLook, mapSh, findE, putE, keqL, hasSh, fits, shb, Int.reduceBEq, eMksl, vSlc, boundsOf, boundOf, cleanL, Nat.reduceGT, Int.reduceGT, Int.reduceGE, Int.reduceDiv, Int.reduceTDiv, vAidx, rdc, jB, Nat.add_assoc] at h
  refine h _ _ ?_
  clear h
  rw [wl_1 (by omega)]
  simp -implicitDefEqProofs only [q17.n7_w, sw0, sw1, sw2, sw3, sw4, sw5, reduceCtorEq, Nat.reduceEqDiff, Nat.reduceAdd, Nat.reduceDiv, Nat.reduceLeDiff, dw0, Int.reduceAdd, Int.reduceSub, Int.reduceMul, Int.reduceLT, Int.reduceLE, Int.reduceNeg, Int.reduceEq, Int.reduceToNat, Nat.reduceLT, Nat.reduceMul, Nat.reduceSub, Nat.reduceBEq, Nat.reduceLeDiff, xw0, eApp, rowOf, appRow, lkL, lkN, eMupd, vLook, mapSh, findE, putE, keqL, hasSh, fits, shb, Int.reduceBEq, eMksl, vSlc, boundsOf, boundOf, cleanL, Nat.reduceGT, Int.reduceGT, Int.reduceGE, Int.reduceDiv, Int.reduceTDiv, vAidx, rdc, q17.n10_w, Plan_u11]
  rw [wl_1 (by omega)]
  simp -implicitDefEqProofs only [q17.n12_w, sw0, sw1, sw2, sw3, sw4, sw5, reduceCtorEq, Nat.reduceEqDiff, Nat.reduceAdd, Nat.reduceDiv, Nat.reduceLeDiff, dw0, Int.reduceAdd, Int.reduceSub, Int.reduceMul, Int.reduceLT, Int.reduceLE, Int.reduceNeg, Int.reduceEq, Int.reduceToNat, Nat.reduceLT, Nat.reduceMul, Nat.reduceSub, Nat.reduceBEq, Nat.reduceLeDiff, xw0, eApp, rowOf, appRow, lkL, lkN, eMupd, vLook, mapSh, findE, putE, keqL, hasSh, fits, shb, Int.reduceBEq, eMksl, vSlc, boundsOf, boundOf, cleanL, Nat.reduceGT, Int.reduceGT, Int.reduceGE, Int.reduceDiv, Int.reduceTDiv, vAidx, rdc, q17.n14_w]
  have h := fun (K : AV → St → Prop) X (hK) => take2 (k := k - 1) (b := none) (K := K) (n := 0) (m := 1) (f := .fn F_q18 [.ptr H.length 0 1]) hk2 (H := H ++ [.cells [vB], .cells [iv 1], .cells [.slice true 0 []], .cells [iv 0], .cells [iv 0, iv 0], .cells [.sref (H.length + 4) 0 2 2 1]]) (L := [m0, m1, x1, .cells [iv 0, iv 1], x2, X]) hK
  rw [show k - 1 + 1 = k by omega] at h
  simp -implicitDefEqProofs only [sw0, sw1, sw2, sw3, sw4, sw5, reduceCtorEq, Nat.reduceEqDiff, Nat.reduceAdd, Nat.reduceDiv, Nat.reduceLeDiff, dw0, Int.reduceAdd, Int.reduceSub, Int.reduceMul, Int.reduceLT, Int.reduceLE, Int.reduceNeg, Int.reduceEq, Int.reduceToNat, Nat.reduceLT, Nat.reduceMul, Nat.reduceSub, Nat.reduceBEq, Nat.reduceLeDiff, xw0, eApp, rowOf, appRow, lkL, lkN, eMupd, vLook, mapSh, findE, putE, keqL, hasSh, fits, shb, Int.reduceBEq, eMksl, vSlc, boundsOf, boundOf, cleanL, Nat.reduceGT, Int.reduceGT, Int.reduceGE, Int.reduceDiv, Int.reduceTDiv, vAidx, rdc, Nat.add_assoc] at h
  refine h _ _ ?_
  clear h
  simp -implicitDefEqProofs only [sw0, sw1, sw2, sw3, sw4, sw5, reduceCtorEq, Nat.reduceEqDiff, Nat.reduceAdd, Nat.reduceDiv, Nat.reduceLeDiff, dw0, Int.reduceAdd, Int.reduceSub, Int.reduceMul, Int.reduceLT, Int.reduceLE, Int.reduceNeg, Int.reduceEq, Int.reduceToNat, Nat.reduceLT, Nat.reduceMul, Nat.reduceSub, Nat.reduceBEq, Nat.reduceLeDiff, xw0, eApp, rowOf, appRow, lkL, lkN, eMupd, vLook, mapSh, findE, putE, keqL, hasSh, fits, shb, Int.reduceBEq, eMksl, vSlc, boundsOf, boundOf, cleanL, Nat.reduceGT, Int.reduceGT, Int.reduceGE, Int.reduceDiv, Int.reduceTDiv, vAidx, rdc, q17.n16_w, q17.n17_w]
  rw [wl_1 (by omega)]
  simp -implicitDefEqProofs only [q17.n12_w, sw0, sw1, sw2, sw3, sw4, sw5, reduceCtorEq, Nat.reduceEqDiff, Nat.reduceAdd, Nat.reduceDiv, Nat.reduceLeDiff, dw0, Int.reduceAdd, Int.reduceSub, Int.reduceMul, Int.reduceLT, Int.reduceLE, Int.reduceNeg, Int.reduceEq, Int.reduceToNat, Nat.reduceLT, Nat.reduceMul, Nat.reduceSub, Nat.reduceBEq, Nat.reduceLeDiff, xw0, eApp, rowOf, appRow, lkL, lkN, eMupd, vLook, mapSh, findE, putE, keqL, hasSh, fits, shb, Int.reduceBEq, eMksl, vSlc, boundsOf, boundOf, cleanL, Nat.reduceGT, Int.reduceGT, Int.reduceGE, Int.reduceDiv, Int.reduceTDiv, vAidx, rdc, YK]
  exact hK
theorem yB1 (hk : 1000 ≤ k) {r0 r1 r6 r9 r10 r11 r12 r13 r14 r15 r16 r17 r18 r19 r20 r21 r22 r23 r24 r25 r26 r27 r28 r29 r30 r31 r32 r33 r34 r35 r36 r37 r38 r39 r40 r41 r42 r43 r44 r45 r46 r47 r48 r49 r50 r51 r52 r53 r54 r55 r56 r57 r58 r59 r60 r61 r62 r63 r64 r65 r66 : AV} {m0 m1 : AObj} {x1 x2 : AObj}
    (hK : K (.bool false) ⟨H ++ [.cells [vB], .cells [iv 1], .cells [.slice true 0 []], .cells [iv 7], .cells [iv 0, iv 0], .cells [.sref (H.length + 4) 0 2 2 1], .cells [.slice false 1 [], .fn F_q18 [.ptr H.length 0 1]], m0, m1, x1, .cells [iv 0, iv 1], x2, .loop [r0, r1, .ptr H.length 0 1, .ptr (H.length + 1) 0 1, .ptr (H.length + 2) 0 1, .ptr (H.length + 3) 0 1, r6, .ptr (H.length + 5) 0 1, .ptr (H.length + 6) 0 2, r9, r10, r11, r12, r13, r14, r15, r16, r17, r18, r19, r20, r21, r22, r23, r24, r25, r26, r27, r28, r29, r30, r31, r32, r33, r34, r35, r36, r37, r38, r39, r40, r41, r42, r43, r44, r45, r46, r47, r48, r49, r50, r51, r52, r53, r54, r55, r56, r57, r58, r59, r60, r61, r62, r63, r64, r65, r66] [28, 29] q17.n4 q17.n5 false (some .ret), .cells [iv 1, iv 1]], true⟩) :
    YC ⟨prog, k + 1, b⟩ (H.length + 12) [iv 1, .slice true 0 []] ⟨H ++ [.cells [vB], .cells [iv 1], .cells [.slice true 0 []], .cells [iv 0], .cells [iv 0, iv 0], .cells [.sref (H.length + 4) 0 2 2 1], .cells [.sref (H.length + 13) 0 1 2 1, .fn F_q18 [.ptr H.length 0 1]], m0, m1, x1, .cells [iv 0, iv 1], x2, .loop [r0, r1, .ptr H.length 0 1, .ptr (H.length + 1) 0 1, .ptr (H.length + 2) 0 1, .ptr (H.length + 3) 0 1, r6, .ptr (H.length + 5) 0 1, .ptr (H.length + 6) 0 2, r9, r10, r11, r12, r13, r14, r15, r16, r17, r18, r19, r20, r21, r22, r23, r24, r25, r26, r27, r28, r29, r30, r31, r32, r33, r34, r35, r36, r37, r38, r39, r40, r41, r42, r43, r44, r45, r46, r47, r48, r49, r50, r51, r52, r53, r54, r55, r56, r57, r58, r59, r60, r61, r62, r63, r64, r65, r66] [28, 29] q17.n4 q17.n5 true none, .cells [iv 1, iv 1]], true⟩ K := by
  have hk1 : 100 ≤ k := by omega
  have hk2 : 100 ≤ k - 1 := by omega
  refine YC_go (by simp -implicitDefEqProofs only [sw0, sw1, sw2, sw3, sw4, sw5, reduceCtorEq, Nat.reduceEqDiff, Nat.reduceAdd, Nat.reduceDiv, Nat.reduceLeDiff, dw0, Int.reduceAdd, Int.reduceSub, Int.reduceMul, Int.reduceLT, Int.reduceLE, Int.reduceNeg, Int.reduceEq, Int.reduceToNat, Nat.reduceLT, Nat.reduceMul, Nat.reduceSub, Nat.reduceBEq, Nat.reduceLeDiff, xw0, eApp, rowOf, appRow, lkL, lkN, eMupd, vLook, mapSh, findE, putE, keqL, hasSh, fits, shb, Int.reduceBEq, eMksl, vSlc, boundsOf, boundOf, cleanL, Nat.reduceGT, Int.reduceGT, Int.reduceGE, Int.reduceDiv, Int.reduceTDiv, vAidx, rdc]; rfl) rfl ?_
  simp -implicitDefEqProofs only [sw0, sw1, sw2, sw3, sw4, sw5, reduceCtorEq, Nat.reduceEqDiff, Nat.reduceAdd, Nat.reduceDiv, Nat.reduceLeDiff, dw0, Int.reduceAdd, Int.reduceSub, Int.reduceMul, Int.reduceLT, Int.reduceLE, Int.reduceNeg, Int.reduceEq, Int.reduceToNat, Nat.reduceLT, Nat.reduceMul, Nat.reduceSub, Nat.reduceBEq, Nat.reduceLeDiff, xw0, eApp, rowOf, appRow, lkL, lkN, eMupd, vLook, mapSh, findE, putE, keqL, hasSh, fits, shb, Int.reduceBEq, eMksl, vSlc, boundsOf, boundOf, cleanL, Nat.reduceGT, Int.reduceGT, Int.reduceGE, Int.reduceDiv, Int.reduceTDiv, vAidx, rdc, q17.n4_w, q17.n5_w, YK, Plan_u6]
  refine ⟨⟨_, _, _, _, rfl⟩, ?_⟩
  rw [wl_1 (by omega)]
  simp -implicitDefEqProofs only [q17.n7_w, sw0, sw1, sw2, sw3, sw4, sw5, reduceCtorEq, Nat.reduceEqDiff, Nat.reduceAdd, Nat.reduceDiv, Nat.reduceLeDiff, dw0, Int.reduceAdd, Int.reduceSub, Int.reduceMul, Int.reduceLT, Int.reduceLE, Int.reduceNeg, Int.reduceEq, Int.reduceToNat, Nat.reduceLT, Nat.reduceMul, Nat.reduceSub, Nat.reduceBEq, Nat.reduceLeDiff, xw0, eApp, rowOf, appRow, lkL, lkN, eMupd, vLook, mapSh, findE, putE, keqL, hasSh, fits, shb, Int.reduceBEq, eMksl, vSlc, boundsOf, boundOf, cleanL, Nat.reduceGT, Int.reduceGT, Int.reduceGE, Int.reduceDiv, Int.reduceTDiv, vAidx, rdc, q17.n10_w, Plan_u11]
  rw [wl_1 (by omega)]
  simp -implicitDefEqProofs only [q17.n12_w, sw0, sw1, sw2, sw3, sw4, sw5, reduceCtorEq, Nat.reduceEqDiff, Nat.reduceAdd, Nat.reduceDiv, Nat.reduceLeDiff, dw0, Int.reduceAdd, Int.reduceSub, Int.reduceMul, Int.reduceLT, Int.reduceLE, Int.reduceNeg, Int.reduceEq, Int.reduceToNat, Nat.reduceLT, Nat.reduceMul, Nat.reduceSub, Nat.reduceBEq, Nat.reduceLeDiff, xw0, eApp, rowOf, appRow, lkL, lkN, eMupd, vLook, mapSh, findE, putE, keqL, hasSh, fits, shb, Int.reduceBEq, eMksl, vSlc, boundsOf, boundOf, cleanL, Nat.reduceGT, Int.reduceGT, Int.reduceGE, Int.reduceDiv, Int.reduceTDiv, vAidx, rdc, q17.n14_w]
  have h := fun (K : AV → St → Prop) X (hK) => take1 (k := k - 1) (b := none) (K := K) (ver := 2) (R := [iv 1]) (n := 1) (f := .fn F_q18 [.ptr H.length 0 1]) hk2 rfl (H := H ++ [.cells [vB], .cells [iv 1], .cells [.slice true 0 []], .cells [iv 0], .cells [iv 0, iv 0], .cells [.sref (H.length + 4) 0 2 2 1]]) (L := [m0, m1, x1, .cells [iv 0, iv 1], x2, X]) hK
  rw [show k - 1 + 1 = k by omega] at h
  simp -implicitDefEqProofs only [sw0, sw1, sw2, sw3, sw4, sw5, reduceCtorEq, Nat.reduceEqDiff, Nat.reduceAdd, Nat.reduceDiv, Nat.reduceLeDiff, dw0, Int.reduceAdd, Int.reduceSub, Int.reduceMul, Int.reduceLT, Int.reduceLE, Int.reduceNeg, Int.reduceEq, Int.reduceToNat, Nat.reduceLT, Nat.reduceMul, Nat.reduceSub, Nat.reduceBEq, Nat.reduceLeDiff, xw0, eApp, rowOf, appRow, lkL, lkN, eMupd, vLook, mapSh, findE, putE, keqL, hasSh, fits, shb, Int.reduceBEq, eMksl, vSlc, boundsOf, boundOf, cleanL, Nat.reduceGT, Int.reduceGT, Int.reduceGE, Int.reduceDiv, Int.reduceTDiv, vAidx, rdc, Nat.add_assoc] at h
  refine h _ _ ?_
  clear h
  simp -implicitDefEqProofs only [sw0, sw1, sw2, sw3, sw4, sw5, reduceCtorEq, Nat.reduceEqDiff, Nat.reduceAdd, Nat.reduceDiv, Nat.reduceLeDiff, dw0, Int.reduceAdd, Int.reduceSub, Int.reduceMul, Int.reduceLT, Int.reduceLE, Int.reduceNeg, Int.reduceEq, Int.reduceToNat, Nat.reduceLT, Nat.reduceMul, Nat.reduceSub, Nat.reduceBEq, Nat.reduceLeDiff, xw0, eApp, rowOf, appRow, lkL, lkN, eMupd, vLook, mapSh, findE, putE, keqL, hasSh, fits, shb, Int.reduceBEq, eMksl, vSlc, boundsOf, boundOf, cleanL, Nat.reduceGT, Int.reduceGT, Int.reduceGE, Int.reduceDiv, Int.reduceTDiv, vAidx, rdc, q17.n15_w, YK]
  exact hK
theorem runB (hk : 1000 ≤ k) {r0 r1 r6 r9 r10 r11 r12 r13 r14 r15 r16 r17 r18 r19 r20 r21 r22 r23 r24 r25 r26 r27 r28 r29 r30 r31 r32 r33 r34 r35 r36 r37 r38 r39 r40 r41 r42 r43 r44 r45 r46 r47 r48 r49 r50 r51 r52 r53 r54 r55 r56 r57 r58 r59 r60 r61 r62 r63 r64 r65 r66 : AV} {x1 x2 : AObj} (hK : K (.tup []) ⟨H ++ [.cells [vB], .cells [iv 1], .cells [.slice true 0 []], .cells [iv 7], .cells [iv 0, iv 0], .cells [.sref (H.length + 4) 0 2 2 1], .cells [.slice false 1 [], .fn F_q18 [.ptr H.length 0 1]], .map shI 2 [(iv 0, .sref (H.length + 10) 0 2 2 1)], .cells [.map (H.length + 7)], x1, .cells [iv 0, iv 1], x2, .loop [r0, r1, .ptr H.length 0 1, .ptr (H.length + 1) 0 1, .ptr (H.length + 2) 0 1, .ptr (H.length + 3) 0 1, r6, .ptr (H.length + 5) 0 1, .ptr (H.length + 6) 0 2, r9, r10, r11, r12, r13, r14, r15, r16, r17, r18, r19, r20, r21, r22, r23, r24, r25, r26, r27, r28, r29, r30, r31, r32, r33, r34, r35, r36, r37, r38, r39, r40, r41, r42, r43, r44, r45, r46, r47, r48, r49, r50, r51, r52, r53, r54, r55, r56, r57, r58, r59, r60, r61, r62, r63, r64, r65, r66] [28, 29] q17.n4 q17.n5 false (some .ret), .cells [iv 1, iv 1]], true⟩) : VC ⟨prog, k + 2, b⟩ F_q42 [.yield (H.length + 12), .ptr (H.length + 8) 0 1] ⟨H ++ [.cells [vB], .cells [iv 1], .cells [.slice true 0 []], .cells [iv 0], .cells [iv 0, iv 0], .cells [.sref (H.length + 4) 0 2 2 1], .cells [.slice true 0 [], .fn F_q18 [.ptr H.length 0 1]], .map shI 2 [(iv 0, .sref (H.length + 10) 0 2 2 1)], .cells [.map (H.length + 7)], x1, .cells [iv 0, iv 1], x2, .loop [r0, r1, .ptr H.length 0 1, .ptr (H.length + 1) 0 1, .ptr (H.length + 2) 0 1, .ptr (H.length + 3) 0 1, r6, .ptr (H.length + 5) 0 1, .ptr (H.length + 6) 0 2, r9, r10, r11, r12, r13, r14, r15, r16, r17, r18, r19, r20, r21, r22, r23, r24, r25, r26, r27, r28, r29, r30, r31, r32, r33, r34, r35, r36, r37, r38, r39, r40, r41, r42, r43, r44, r45, r46, r47, r48, r49, r50, r51, r52, r53, r54, r55, r56, r57, r58, r59, r60, r61, r62, r63, r64, r65, r66] [28, 29] q17.n4 q17.n5 true none], lk⟩ K := by
  refine slots_1_s (k := k + 1) (J := fun t s => (t = 0 ∧ ∃ lk, s = ⟨H ++ [.cells [vB], .cells [iv 1], .cells [.slice true 0 []], .cells [iv 0], .cells [iv 0, iv 0], .cells [.sref (H.length + 4) 0 2 2 1], .cells [.slice true 0 [], .fn F_q18 [.ptr H.length 0 1]], .map shI 2 [(iv 0, .sref (H.length + 10) 0 2 2 1)], .cells [.map (H.length + 7)], x1, .cells [iv 0, iv 1], x2, .loop [r0, r1, .ptr H.length 0 1, .ptr (H.length + 1) 0 1, .ptr (H.length + 2) 0 1, .ptr (H.length + 3) 0 1, r6, .ptr (H.length + 5) 0 1, .ptr (H.length + 6) 0 2, r9, r10, r11, r12, r13, r14, r15, r16, r17, r18, r19, r20, r21, r22, r23, r24, r25, r26, r27, r28, r29, r30, r31, r32, r33, r34, r35, r36, r37, r38, r39, r40, r41, r42, r43, r44, r45, r46, r47, r48, r49, r50, r51, r52, r53, r54, r55, r56, r57, r58, r59, r60, r61, r62, r63, r64, r65, r66] [28, 29] q17.n4 q17.n5 true none], lk⟩) ∨ (t = 1 ∧ s = ⟨H ++ [.cells [vB], .cells [iv 1], .cells [.slice true 0 []], .cells [iv 0], .cells [iv 0, iv 0], .cells [.sref (H.length + 4) 0 2 2 1], .cells [.sref (H.length + 13) 0 1 2 1, .fn F_q18 [.ptr H.length 0 1]], .map shI 2 [(iv 0, .sref (H.length + 10) 0 2 2 1)], .cells [.map (H.length + 7)], x1, .cells [iv 0, iv 1], x2, .loop [r0, r1, .ptr H.length 0 1, .ptr (H.length + 1) 0 1, .ptr (H.length + 2) 0 1, .ptr (H.length + 3) 0 1, r6, .ptr (H.length + 5) 0 1, .ptr (H.length + 6) 0 2, r9, r10, r11, r12, r13, r14, r15, r16, r17, r18, r19, r20, r21, r22, r23, r24, r25, r26, r27, r28, r29, r30, r31, r32, r33, r34, r35, r36, r37, r38, r39, r40, r41, r42, r43, r44, r45, r46, r47, r48, r49, r50, r51, r52, r53, r54, r55, r56, r57, r58, r59, r60, r61, r62, r63, r64, r65, r66] [28, 29] q17.n4 q17.n5 true none, .cells [iv 1, iv 1]], true⟩)) (R := fun s => s = ⟨H ++ [.cells [vB], .cells [iv 1], .cells [.slice true 0 []], .cells [iv 7], .cells [iv 0, iv 0], .cells [.sref (H.length + 4) 0 2 2 1], .cells [.slice false 1 [], .fn F_q18 [.ptr H.length 0 1]], .map shI 2 [(iv 0, .sref (H.length + 10) 0 2 2 1)], .cells [.map (H.length + 7)], x1, .cells [iv 0, iv 1], x2, .loop [r0, r1, .ptr H.length 0 1, .ptr (H.length + 1) 0 1, .ptr (H.length + 2) 0 1, .ptr (H.length + 3) 0 1, r6, .ptr (H.length + 5) 0 1, .ptr (H.length + 6) 0 2, r9, r10, r11, r12, r13, r14, r15, r16, r17, r18, r19, r20, r21, r22, r23, r24, r25, r26, r27, r28, r29, r30, r31, r32, r33, r34, r35, r36, r37, r38, r39, r40, r41, r42, r43, r44, r45, r46, r47, r48, r49, r50, r51, r52, r53, r54, r55, r56, r57, r58, r59, r60, r61, r62, r63, r64, r65, r66] [28, 29] q17.n4 q17.n5 false (some .ret), .cells [iv 1, iv 1]], true⟩) (by omega) ?_ (.inl ⟨rfl, _, rfl⟩) (fun s h => by rcases h with ⟨h, _⟩ | ⟨h, _⟩ <;> omega) (fun s h => by subst h; exact ⟨rfl, hK⟩)
  rintro t s ht (⟨rfl, lk', rfl⟩ | ⟨rfl, rfl⟩)
  · refine ⟨.map (H.length + 7), .sref (H.length + 10) 0 2 2 1, by simp -implicitDefEqProofs only [sw0, sw1, sw2, sw3, sw4, sw5, reduceCtorEq, Nat.reduceEqDiff, Nat.reduceAdd, Nat.reduceDiv, Nat.reduceLeDiff, dw0, Int.reduceAdd, Int.reduceSub, Int.reduceMul, Int.reduceLT, Int.reduceLE, Int.reduceNeg, Int.reduceEq, Int.reduceToNat, Nat.reduceLT, Nat.reduceMul, Nat.reduceSub, Nat.reduceBEq, Nat.reduceLeDiff, xw0, eApp, rowOf, appRow, lkL, lkN, eMupd, vLook, mapSh, findE, putE, keqL, hasSh, fits, shb, Int.reduceBEq, eMksl, vSlc, boundsOf, boundOf, cleanL, Nat.reduceGT, Int.reduceGT, Int.reduceGE, Int.reduceDiv, Int.reduceTDiv, vAidx, rdc], by simp -implicitDefEqProofs only [sw0, sw1, sw2, sw3, sw4, sw5, reduceCtorEq, Nat.reduceEqDiff, Nat.reduceAdd, Nat.reduceDiv, Nat.reduceLeDiff, dw0, Int.reduceAdd, Int.reduceSub, Int.reduceMul, Int.reduceLT, Int.reduceLE, Int.reduceNeg, Int.reduceEq, Int.reduceToNat, Nat.reduceLT, Nat.reduceMul, Nat.reduceSub, Nat.reduceBEq, Nat.reduceLeDiff, xw0, eApp, rowOf, appRow, lkL, lkN, eMupd, vLook, mapSh, findE, putE, keqL, hasSh, fits, shb, Int.reduceBEq, eMksl, vSlc, boundsOf, boundOf, cleanL, Nat.reduceGT, Int.reduceGT, Int.reduceGE, Int.reduceDiv, Int.reduceTDiv, vAidx, rdc], fun b => yB0 hk ?_⟩
    exact .inl ⟨rfl, .inr ⟨rfl, rfl⟩⟩
  · refine ⟨.map (H.length + 7), .slice true 0 [], by simp -implicitDefEqProofs only [sw0, sw1, sw2, sw3, sw4, sw5, reduceCtorEq, Nat.reduceEqDiff, Nat.reduceAdd, Nat.reduceDiv, Nat.reduceLeDiff, dw0, Int.reduceAdd, Int.reduceSub, Int.reduceMul, Int.reduceLT, Int.reduceLE, Int.reduceNeg, Int.reduceEq, Int.reduceToNat, Nat.reduceLT, Nat.reduceMul, Nat.reduceSub, Nat.reduceBEq, Nat.reduceLeDiff, xw0, eApp, rowOf, appRow, lkL, lkN, eMupd, vLook, mapSh, findE, putE, keqL, hasSh, fits, shb, Int.reduceBEq, eMksl, vSlc, boundsOf, boundOf, cleanL, Nat.reduceGT, Int.reduceGT, Int.reduceGE, Int.reduceDiv, Int.reduceTDiv, vAidx, rdc], by simp -implicitDefEqProofs only [sw0, sw1, sw2, sw3, sw4, sw5, reduceCtorEq, Nat.reduceEqDiff, Nat.reduceAdd, Nat.reduceDiv, Nat.reduceLeDiff, dw0, Int.reduceAdd, Int.reduceSub, Int.reduceMul, Int.reduceLT, Int.reduceLE, Int.reduceNeg, Int.reduceEq, Int.reduceToNat, Nat.reduceLT, Nat.reduceMul, Nat.reduceSub, Nat.reduceBEq, Nat.reduceLeDiff, xw0, eApp, rowOf, appRow, lkL, lkN, eMupd, vLook, mapSh, findE, putE, keqL, hasSh, fits, shb, Int.reduceBEq, eMksl, vSlc, boundsOf, boundOf, cleanL, Nat.reduceGT, Int.reduceGT, Int.reduceGE, Int.reduceDiv, Int.reduceTDiv, vAidx, rdc], fun b => yB1 hk ?_⟩
    exact .inr ⟨rfl, rfl⟩
theorem PlanB (hk : 3000 ≤ k) (hK : ∀ L, K (.tup [.slice true 0 [], iv 7]) ⟨H ++ L, true⟩) : VC ⟨prog, k, b⟩ F_q17 [vB, iv 1] ⟨H, lk⟩ K := by
  obtain ⟨k, rfl⟩ : ∃ j, k = j + 1 := ⟨k - 1, by omega⟩
  apply q17.enter
  have hjb : (decide (jB.length ≤ 200) && jB.all jobOk) = true := by decide
  have h11 : ((1 : Int) ≤ 1 ∧ (1 : Int) ≤ 8) = True := by simp
  have hask := fun (H' : List AObj) (K : AV → St → Prop) => asked_s (K := K) (k := k) (b := some H.length) (lk := false) (by omega) (H := H') vB_sl (c := 1) (by decide)
  simp -implicitDefEqProofs only [hjb, if_true, h11] at hask
  have hmk : ∀ (H' : List AObj), eMksl ⟨H', false⟩ 1 8 [iv 0] (iv 2) (iv 2) = some (.sref H'.length 0 2 (2 * 1) 1, ⟨H' ++ [.cells [iv 0, iv 0]], false⟩) := fun H' => by simp [eMksl, push]
  simp -implicitDefEqProofs only [q17.n0_w, sw0, sw1, sw2, sw3, sw4, sw5, reduceCtorEq, Nat.reduceEqDiff, Nat.reduceAdd, Nat.reduceDiv, Nat.reduceLeDiff, dw0, Int.reduceAdd, Int.reduceSub, Int.reduceMul, Int.reduceLT, Int.reduceLE, Int.reduceNeg, Int.reduceEq, Int.reduceToNat, Nat.reduceLT, Nat.reduceMul, Nat.reduceSub, Nat.reduceBEq, Nat.reduceLeDiff, hask, q17.n2_w, hmk]
  refine slotsB (by omega) ?_
  simp -implicitDefEqProofs only [sw0, sw1, sw2, sw3, sw4, sw5, reduceCtorEq, Nat.reduceEqDiff, Nat.reduceAdd, Nat.reduceDiv, Nat.reduceLeDiff, dw0, Int.reduceAdd, Int.reduceSub, Int.reduceMul, Int.reduceLT, Int.reduceLE, Int.reduceNeg, Int.reduceEq, Int.reduceToNat, Nat.reduceLT, Nat.reduceMul, Nat.reduceSub, Nat.reduceBEq, Nat.reduceLeDiff, xw0, eApp, rowOf, appRow, lkL, lkN, eMupd, vLook, mapSh, findE, putE, keqL, hasSh, fits, shb, Int.reduceBEq, eMksl, vSlc, boundsOf, boundOf, cleanL, Nat.reduceGT, Int.reduceGT, Int.reduceGE, Int.reduceDiv, Int.reduceTDiv, vAidx, rdc]
  refine WC_rf (f := F_q42) (caps := [.ptr (H.length + 8) 0 1]) rfl ?_
  obtain ⟨k', hk'⟩ : ∃ j, k = j + 2 := ⟨k - 2, by omega⟩
  simp -implicitDefEqProofs only [sw0, sw1, sw2, sw3, sw4, sw5, reduceCtorEq, Nat.reduceEqDiff, Nat.reduceAdd, Nat.reduceDiv, Nat.reduceLeDiff, dw0, Int.reduceAdd, Int.reduceSub, Int.reduceMul, Int.reduceLT, Int.reduceLE, Int.reduceNeg, Int.reduceEq, Int.reduceToNat, Nat.reduceLT, Nat.reduceMul, Nat.reduceSub, Nat.reduceBEq, Nat.reduceLeDiff, xw0, eApp, rowOf, appRow, lkL, lkN, eMupd, vLook, mapSh, findE, putE, keqL, hasSh, fits, shb, Int.reduceBEq, eMksl, vSlc, boundsOf, boundOf, cleanL, Nat.reduceGT, Int.reduceGT, Int.reduceGE, Int.reduceDiv, Int.reduceTDiv, vAidx, rdc]
  have hrun := fun (K : AV → St → Prop) (b : Option Nat) => @runB k' b H false K (by omega)
  rw [← hk'] at hrun
  refine hrun _ _ ?_
  simp -implicitDefEqProofs only [RF, sw0, sw1, sw2, sw3, sw4, sw5, reduceCtorEq, Nat.reduceEqDiff, Nat.reduceAdd, Nat.reduceDiv, Nat.reduceLeDiff, dw0, Int.reduceAdd, Int.reduceSub, Int.reduceMul, Int.reduceLT, Int.reduceLE, Int.reduceNeg, Int.reduceEq, Int.reduceToNat, Nat.reduceLT, Nat.reduceMul, Nat.reduceSub, Nat.reduceBEq, Nat.reduceLeDiff, xw0, eApp, rowOf, appRow, lkL, lkN, eMupd, vLook, mapSh, findE, putE, keqL, hasSh, fits, shb, Int.reduceBEq, eMksl, vSlc, boundsOf, boundOf, cleanL, Nat.reduceGT, Int.reduceGT, Int.reduceGE, Int.reduceDiv, Int.reduceTDiv, vAidx, rdc, q17.res]
  simp -implicitDefEqProofs only [RK_r, resultsOf, resultOf, sw0, sw1, sw2, sw3, sw4, sw5, reduceCtorEq, Nat.reduceEqDiff, Nat.reduceAdd, Nat.reduceDiv, Nat.reduceLeDiff, dw0, Int.reduceAdd, Int.reduceSub, Int.reduceMul, Int.reduceLT, Int.reduceLE, Int.reduceNeg, Int.reduceEq, Int.reduceToNat, Nat.reduceLT, Nat.reduceMul, Nat.reduceSub, Nat.reduceBEq, Nat.reduceLeDiff, xw0, eApp, rowOf, appRow, lkL, lkN, eMupd, vLook, mapSh, findE, putE, keqL, hasSh, fits, shb, Int.reduceBEq, eMksl, vSlc, boundsOf, boundOf, cleanL, Nat.reduceGT, Int.reduceGT, Int.reduceGE, Int.reduceDiv, Int.reduceTDiv, vAidx, rdc]
  exact hK _
end Go.Proofs.YtcebebhaahpoiaaDoor
end
section
namespace Go.Proofs.YtcebebhaahpoiaaDoor
open Go Go.Ai Go.W
attribute [local irreducible] VC YC WC
set_option linter.unusedSimpArgs false
set_option linter.unusedVariables false
set_option maxRecDepth 10000
variable {k : Nat} {b : Option Nat} {H : List AObj} {lk : Bool} {K : AV → St → Prop}
def jA : List (Int × Int × Int) := [(0, 0, 3), (1, 0, 2), (2, 1, 2)]
abbrev vA : AV := .slice true 3 [[iv 0, iv 0, iv 3], [iv 1, iv 0, iv 2], [iv 2, iv 1, iv 2]]
theorem vA_sl : Sl H 3 jc vA jA := Sl.lit (by omega) jc_len rfl
theorem yA0 (hk : 1000 ≤ k) {r0 r1 r6 r9 r10 r11 r12 r13 r14 r15 r16 r17 r18 r19 r20 r21 r22 r23 r24 r25 r26 r27 r28 r29 r30 r31 r32 r33 r34 r35 r36 r37 r38 r39 r40 r41 r42 r43 r44 r45 r46 r47 r48 r49 r50 r51 r52 r53 r54 r55 r56 r57 r58 r59 r60 r61 r62 r63 r64 r65 r66 : AV} {x1 x2 x3 : AObj} (hK : K (.bool true) ⟨H ++ [.cells [vA], .cells [iv 1], .cells [.slice true 0 []], .cells [iv 0], .cells [iv 0, iv 0, iv 0], .cells [.sref (H.length + 4) 0 3 3 1], .cells [.sref (H.length + 15) 0 1 2 1, .fn F_q18 [.ptr H.length 0 1]], .map shI 3 [(iv 0, .sref (H.length + 10) 0 2 2 1), (iv 1, .sref (H.length + 13) 0 1 1 1)], .cells [.map (H.length + 7)], x1, .cells [iv 0, iv 1], x2, x3, .cells [iv 2], .loop [r0, r1, .ptr H.length 0 1, .ptr (H.length + 1) 0 1, .ptr (H.length + 2) 0 1, .ptr (H.length + 3) 0 1, r6, .ptr (H.length + 5) 0 1, .ptr (H.length + 6) 0 2, r9, r10, r11, r12, r13, r14, r15, r16, r17, r18, r19, r20, r21, r22, r23, r24, r25, r26, r27, r28, r29, r30, r31, r32, r33, r34, r35, r36, r37, r38, r39, r40, r41, r42, r43, r44, r45, r46, r47, r48, r49, r50, r51, r52, r53, r54, r55, r56, r57, r58, r59, r60, r61, r62, r63, r64, r65, r66] [28, 29] q17.n4 q17.n5 true none, .cells [iv 0, iv 0]], true⟩) : YC ⟨prog, k + 1, b⟩ (H.length + 14) [iv 0, .sref (H.length + 10) 0 2 2 1] ⟨H ++ [.cells [vA], .cells [iv 1], .cells [.slice true 0 []], .cells [iv 0], .cells [iv 0, iv 0, iv 0], .cells [.sref (H.length + 4) 0 3 3 1], .cells [.slice true 0 [], .fn F_q18 [.ptr H.length 0 1]], .map shI 3 [(iv 0, .sref (H.length + 10) 0 2 2 1), (iv 1, .sref (H.length + 13) 0 1 1 1)], .cells [.map (H.length + 7)], x1, .cells [iv 0, iv 1], x2, x3, .cells [iv 2], .loop [r0, r1, .ptr H.length 0 1, .ptr (H.length + 1) 0 1, .ptr (H.length + 2) 0 1, .ptr (H.length + 3) 0 1, r6, .ptr (H.length + 5) 0 1, .ptr (H.length + 6) 0 2, r9, r10, r11, r12, r13, r14, r15, r16, r17, r18, r19, r20, r21, r22, r23, r24, r25, r26, r27, r28, r29, r30, r31, r32, r33, r34, r35, r36, r37, r38, r39, r40, r41, r42, r43, r44, r45, r46, r47, r48, r49, r50, r51, r52, r53, r54, r55, r56, r57, r58, r59, r60, r61, r62, r63, r64, r65, r66] [28, 29] q17.n4 q17.n5 true none], lk⟩ K := by
  have hk1 : 100 ≤ k := by omega
  have hk2 : 100 ≤ k - 1 := by omega
  refine YC_go (by simp -implicitDefEqProofs only [sw0, sw1, sw2, sw3, sw4, sw5, reduceCtorEq, Nat.reduceEqDiff, Nat.reduceAdd, Nat.reduceDiv, Nat.reduceLeDiff, dw0, Int.reduceAdd, Int.reduceSub, Int.reduceMul, Int.reduceLT, Int.reduceLE, Int.reduceNeg, Int.reduceEq, Int.reduceToNat, Nat.reduceLT, Nat.reduceMul, Nat.reduceSub, Nat.reduceBEq, Nat.reduceLeDiff, xw0, eApp, rowOf, appRow, lkL, lkN, eMupd, vLook, mapSh, findE, putE, keqL, hasSh, fits, shb, Int.reduceBEq, eMksl, vSlc, boundsOf, boundOf, cleanL, Nat.reduceGT, Int.reduceGT, Int.reduceGE, Int.reduceDiv, Int.reduceTDiv, vAidx, rdc]; rfl) rfl ?_
  simp -implicitDefEqProofs only [sw0, sw1, sw2, sw3, sw4, sw5, reduceCtorEq, Nat.reduceEqDiff, Nat.reduceAdd, Nat.reduceDiv, Nat.reduceLeDiff, dw0, Int.reduceAdd, Int.reduceSub, Int.reduceMul, Int.reduceLT, Int.reduceLE, Int.reduceNeg, Int.reduceEq, Int.reduceToNat, Nat.reduceLT, Nat.reduceMul, Nat.reduceSub, Nat.reduceBEq, Nat.reduceLeDiff, xw0, eApp, rowOf, appRow, lkL, lkN, eMupd, vLook, mapSh, findE, putE, keqL, hasSh, fits, shb, Int.reduceBEq, eMksl, vSlc, boundsOf, boundOf, cleanL, Nat.reduceGT, Int.reduceGT, Int.reduceGE, Int.reduceDiv, Int.reduceTDiv, vAidx, rdc, q17.n4_w, q17.n5_w, YK, Plan_u6]
  refine ⟨⟨_, _, _, _, rfl⟩, ?_⟩
  rw [wl_1 (by omega)]
  simp -implicitDefEqProofs only [q17.n7_w, sw0, sw1, sw2, sw3, sw4, sw5, reduceCtorEq, Nat.reduceEqDiff, Nat.reduceAdd, Nat.reduceDiv, Nat.reduceLeDiff, dw0, Int.reduceAdd, Int.reduceSub, Int.reduceMul, Int.reduceLT, Int.reduceLE, Int.reduceNeg, Int.reduceEq, Int.reduceToNat, Nat.reduceLT, Nat.reduceMul, Nat.reduceSub, Nat.reduceBEq, Nat.reduceLeDiff, xw0, eApp, rowOf, appRow, lkL, lkN, eMupd, vLook, mapSh, findE, putE, keqL, hasSh, fits, shb, Int.reduceBEq, eMksl, vSlc, boundsOf, boundOf, cleanL, Nat.reduceGT, Int.reduceGT, Int.reduceGE, Int.reduceDiv, Int.reduceTDiv, vAidx, rdc, q17.n9_w]
  have h := fun (K : AV → St → Prop) X (hK) => put0' (k := k) (b := none) (lk := lk) (K := K) (n := 0) (f := .fn F_q18 [.ptr H.length 0 1]) hk1 (H := H ++ [.cells [vA], .cells [iv 1], .cells [.slice true 0 []], .cells [iv 0], .cells [iv 0, iv 0, iv 0], .cells [.sref (H.length + 4) 0 3 3 1]]) (L := [.map shI 3 [(iv 0, .sref (H.length + 10) 0 2 2 1), (iv 1, .sref (H.length + 13) 0 1 1 1)], .cells [.map (H.length + 7)], x1, .cells [iv 0, iv 1], x2, x3, .cells [iv 2], X]) hK
  simp -implicitDefEqProofs only [sw0, sw1, sw2, sw3, sw4, sw5, reduceCtorEq, Nat.reduceEqDiff, Nat.reduceAdd, Nat.reduceDiv, Nat.reduceLeDiff, Nat.add_assoc] at h
  refine h _ _ ?_
  clear h
  rw [wl_1 (by omega)]
  simp -implicitDefEqProofs only [q17.n7_w, sw0, sw1, sw2, sw3, sw4, sw5, reduceCtorEq, Nat.reduceEqDiff, Nat.reduceAdd, Nat.reduceDiv, Nat.reduceLeDiff, dw0, Int.reduceAdd, Int.reduceSub, Int.reduceMul, Int.reduceLT, Int.reduceLE, Int.reduceNeg, Int.reduceEq, Int.reduceToNat, Nat.reduceLT, Nat.reduceMul, Nat.reduceSub, Nat.reduceBEq, Nat.reduceLeDiff, xw0, eApp, rowOf, appRow, lkL, lkN, eMupd, vLook, mapSh, findE, putE, keqL, hasSh, fits, shb, Int.reduceBEq, eMksl, vSlc, boundsOf, boundOf, cleanL, Nat.reduceGT, Int.reduceGT, Int.reduceGE, Int.reduceDiv, Int.reduceTDiv, vAidx, rdc, q17.n9_w]
  have h := fun (K : AV → St → Prop) X (hK) => put1'_1 (k := k) (b := none) (lk := true) (K := K) (n := 1) (m := 0) (z := .undef) (qs := jA) (cl := H.length) (v := vA) hk1 (H := H ++ [.cells [vA], .cells [iv 1], .cells [.slice true 0 []], .cells [iv 0], .cells [iv 0, iv 0, iv 0], .cells [.sref (H.length + 4) 0 3 3 1]]) (L := [.map shI 3 [(iv 0, .sref (H.length + 10) 0 2 2 1), (iv 1, .sref (H.length + 13) 0 1 1 1)], .cells [.map (H.length + 7)], x1, .cells [iv 0, iv 1], x2, x3, .cells [iv 2], X]) vA_sl (by simp -implicitDefEqProofs only [sw0, sw1, sw2, sw3, sw4, sw5, reduceCtorEq, Nat.reduceEqDiff, Nat.reduceAdd, Nat.reduceDiv, Nat.reduceLeDiff, dw0, Int.reduceAdd, Int.reduceSub, Int.reduceMul, Int.reduceLT, Int.reduceLE, Int.reduceNeg, Int.reduceEq, Int.reduceToNat, Nat.reduceLT, Nat.reduceMul, Nat.reduceSub, Nat.reduceBEq, Nat.reduceLeDiff, xw0, eApp, rowOf, appRow, lkL, lkN, eMupd, vLook, mapSh, findE, putE, keqL, hasSh, fits, shb, Int.reduceBEq, eMksl, vSlc, boundsOf, boundOf, cleanL, Nat.reduceGT, Int.reduceGT, Int.reduceGE, Int.reduceDiv, Int.reduceTDiv, vAidx, rdc]) (by decide) (by decide) hK
  simp -implicitDefEqProofs only [sw0, sw1, sw2, sw3, sw4, sw5, reduceCtorEq, Nat.reduceEqDiff, Nat.reduceAdd, Nat.reduceDiv, Nat.reduceLeDiff, dw0, Int.reduceAdd, Int.reduceSub, Int.reduceMul, Int.reduceLT, Int.reduceLE, Int.reduceNeg, Int.reduceEq, Int.reduceToNat, Nat.reduceLT, Nat.reduceMul, Nat.reduceSub, Nat.reduceBEq, Nat.reduceLeDiff, xw0, eApp, rowOf, appRow, lkL, lkN, eMupd, vLook, mapSh, findE, putE, keqL, hasSh, fits, shb, Int.reduceBEq, eMksl, vSlc, boundsOf, boundOf, cleanL, Nat.reduceGT, Int.reduceGT, Int.reduceGE, Int.reduceDiv, Int.reduceTDiv, vAidx, rdc, jA, Nat.add_assoc] at h
  refine h _ _ ?_
  clear h
  rw [wl_1 (by omega)]
  simp -implicitDefEqProofs only [q17.n7_w, sw0, sw1, sw2, sw3, sw4, sw5, reduceCtorEq, Nat.reduceEqDiff, Nat.reduceAdd, Nat.reduceDiv, Nat.reduceLeDiff, dw0, Int.reduceAdd, Int.reduceSub, Int.reduceMul, Int.reduceLT, Int.reduceLE, Int.reduceNeg, Int.reduceEq, Int.reduceToNat, Nat.reduceLT, Nat.reduceMul, Nat.reduceSub, Nat.reduceBEq, Nat.reduceLeDiff, xw0, eApp, rowOf, appRow, lkL, lkN, eMupd, vLook, mapSh, findE, putE, keqL, hasSh, fits, shb, Int.reduceBEq, eMksl, vSlc, boundsOf, boundOf, cleanL, Nat.reduceGT, Int.reduceGT, Int.reduceGE, Int.reduceDiv, Int.reduceTDiv, vAidx, rdc, q17.n10_w, Plan_u11]
  rw [wl_1 (by omega)]
  simp -implicitDefEqProofs only [q17.n12_w, sw0, sw1, sw2, sw3, sw4, sw5, reduceCtorEq, Nat.reduceEqDiff, Nat.reduceAdd, Nat.reduceDiv, Nat.reduceLeDiff, dw0, Int.reduceAdd, Int.reduceSub, Int.reduceMul, Int.reduceLT, Int.reduceLE, Int.reduceNeg, Int.reduceEq, Int.reduceToNat, Nat.reduceLT, Nat.reduceMul, Nat.reduceSub, Nat.reduceBEq, Nat.reduceLeDiff, xw0, eApp, rowOf, appRow, lkL, lkN, eMupd, vLook, mapSh, findE, putE, keqL, hasSh, fits, shb, Int.reduceBEq, eMksl, vSlc, boundsOf, boundOf, cleanL, Nat.reduceGT, Int.reduceGT, Int.reduceGE, Int.reduceDiv, Int.reduceTDiv, vAidx, rdc, q17.n14_w]
  have h := fun (K : AV → St → Prop) X (hK) => take2 (k := k - 1) (b := none) (K := K) (n := 1) (m := 0) (f := .fn F_q18 [.ptr H.length 0 1]) hk2 (H := H ++ [.cells [vA], .cells [iv 1], .cells [.slice true 0 []], .cells [iv 0], .cells [iv 0, iv 0, iv 0], .cells [.sref (H.length + 4) 0 3 3 1]]) (L := [.map shI 3 [(iv 0, .sref (H.length + 10) 0 2 2 1), (iv 1, .sref (H.length + 13) 0 1 1 1)], .cells [.map (H.length + 7)], x1, .cells [iv 0, iv 1], x2, x3, .cells [iv 2], X]) hK
  rw [show k - 1 + 1 = k by omega] at h
  simp -implicitDefEqProofs only [sw0, sw1, sw2, sw3, sw4, sw5, reduceCtorEq, Nat.reduceEqDiff, Nat.reduceAdd, Nat.reduceDiv, Nat.reduceLeDiff, dw0, Int.reduceAdd, Int.reduceSub, Int.reduceMul, Int.reduceLT, Int.reduceLE, Int.reduceNeg, Int.reduceEq, Int.reduceToNat, Nat.reduceLT, Nat.reduceMul, Nat.reduceSub, Nat.reduceBEq, Nat.reduceLeDiff, xw0, eApp, rowOf, appRow, lkL, lkN, eMupd, vLook, mapSh, findE, putE, keqL, hasSh, fits, shb, Int.reduceBEq, eMksl, vSlc, boundsOf, boundOf, cleanL, Nat.reduceGT, Int.reduceGT, Int.reduceGE, Int.reduceDiv, Int.reduceTDiv, vAidx, rdc, Nat.add_assoc] at h
  refine h _ _ ?_
  clear h
  simp -implicitDefEqProofs only [sw0, sw1, sw2, sw3, sw4, sw5, reduceCtorEq, Nat.reduceEqDiff, Nat.reduceAdd, Nat.reduceDiv, Nat.reduceLeDiff, dw0, Int.reduceAdd, Int.reduceSub, Int.reduceMul, Int.reduceLT, Int.reduceLE, Int.reduceNeg, Int.reduceEq, Int.reduceToNat, Nat.reduceLT, Nat.reduceMul, Nat.reduceSub, Nat.reduceBEq, Nat.reduceLeDiff, xw0, eApp, rowOf, appRow, lkL, lkN, eMupd, vLook, mapSh, findE, putE, keqL, hasSh, fits, shb, Int.reduceBEq, eMksl, vSlc, boundsOf, boundOf, cleanL, Nat.reduceGT, Int.reduceGT, Int.reduceGE, Int.reduceDiv, Int.reduceTDiv, vAidx, rdc, q17.n16_w, q17.n17_w]
  rw [wl_1 (by omega)]
  simp -implicitDefEqProofs only [q17.n12_w, sw0, sw1, sw2, sw3, sw4, sw5, reduceCtorEq, Nat.reduceEqDiff, Nat.reduceAdd, Nat.reduceDiv, Nat.reduceLeDiff, dw0, Int.reduceAdd, Int.reduceSub, Int.reduceMul, Int.reduceLT, Int.reduceLE, Int.reduceNeg, Int.reduceEq, Int.reduceToNat, Nat.reduceLT, Nat.reduceMul, Nat.reduceSub, Nat.reduceBEq, Nat.reduceLeDiff, xw0, eApp, rowOf, appRow, lkL, lkN, eMupd, vLook, mapSh, findE, putE, keqL, hasSh, fits, shb, Int.reduceBEq, eMksl, vSlc, boundsOf, boundOf, cleanL, Nat.reduceGT, Int.reduceGT, Int.reduceGE, Int.reduceDiv, Int.reduceTDiv, vAidx, rdc, YK]
  exact hK
theorem yA1 (hk : 1000 ≤ k) {r0 r1 r6 r9 r10 r11 r12 r13 r14 r15 r16 r17 r18 r19 r20 r21 r22 r23 r24 r25 r26 r27 r28 r29 r30 r31 r32 r33 r34 r35 r36 r37 r38 r39 r40 r41 r42 r43 r44 r45 r46 r47 r48 r49 r50 r51 r52 r53 r54 r55 r56 r57 r58 r59 r60 r61 r62 r63 r64 r65 r66 : AV} {x1 x2 x3 : AObj} (hK : K (.bool true) ⟨H ++ [.cells [vA], .cells [iv 1], .cells [.slice true 0 []], .cells [iv 0], .cells [iv 0, iv 0, iv 1], .cells [.sref (H.length + 4) 0 3 3 1], .cells [.sref (H.length + 15) 0 1 2 1, .fn F_q18 [.ptr H.length 0 1]], .map shI 3 [(iv 0, .sref (H.length + 10) 0 2 2 1), (iv 1, .sref (H.length + 13) 0 1 1 1)], .cells [.map (H.length + 7)], x1, .cells [iv 0, iv 1], x2, x3, .cells [iv 2], .loop [r0, r1, .ptr H.length 0 1, .ptr (H.length + 1) 0 1, .ptr (H.length + 2) 0 1, .ptr (H.length + 3) 0 1, r6, .ptr (H.length + 5) 0 1, .ptr (H.length + 6) 0 2, r9, r10, r11, r12, r13, r14, r15, r16, r17, r18, r19, r20, r21, r22, r23, r24, r25, r26, r27, r28, r29, r30, r31, r32, r33, r34, r35, r36, r37, r38, r39, r40, r41, r42, r43, r44, r45, r46, r47, r48, r49, r50, r51, r52, r53, r54, r55, r56, r57, r58, r59, r60, r61, r62, r63, r64, r65, r66] [28, 29] q17.n4 q17.n5 true none, .cells [iv 0, iv 0]], true⟩) : YC ⟨prog, k + 1, b⟩ (H.length + 14) [iv 1, .sref (H.length + 13) 0 1 1 1] ⟨H ++ [.cells [vA], .cells [iv 1], .cells [.slice true 0 []], .cells [iv 0], .cells [iv 0, iv 0, iv 0], .cells [.sref (H.length + 4) 0 3 3 1], .cells [.sref (H.length + 15) 0 1 2 1, .fn F_q18 [.ptr H.length 0 1]], .map shI 3 [(iv 0, .sref (H.length + 10) 0 2 2 1), (iv 1, .sref (H.length + 13) 0 1 1 1)], .cells [.map (H.length + 7)], x1, .cells [iv 0, iv 1], x2, x3, .cells [iv 2], .loop [r0, r1, .ptr H.length 0 1, .ptr (H.length + 1) 0 1, .ptr (H.length + 2) 0 1, .ptr (H.length + 3) 0 1, r6, .ptr (H.length + 5) 0 1, .ptr (H.length + 6) 0 2, r9, r10, r11, r12, r13, r14, r15, r16, r17, r18, r19, r20, r21, r22, r23, r24, r25, r26, r27, r28, r29, r30, r31, r32, r33, r34, r35, r36, r37, r38, r39, r40, r41, r42, r43, r44, r45, r46, r47, r48, r49, r50, r51, r52, r53, r54, r55, r56, r57, r58, r59, r60, r61, r62, r63, r64, r65, r66] [28, 29] q17.n4 q17.n5 true none, .cells [iv 0, iv 0]], true⟩ K := by
  have hk1 : 100 ≤ k := by omega
  have hk2 : 100 ≤ k - 1 := by omega
  refine YC_go (by simp -implicitDefEqProofs only [sw0, sw1, sw2, sw3, sw4, sw5, reduceCtorEq, Nat.reduceEqDiff, Nat.reduceAdd, Nat.reduceDiv, Nat.reduceLeDiff, dw0, Int.reduceAdd, Int.reduceSub, Int.reduceMul, Int.reduceLT, Int.reduceLE, Int.reduceNeg, Int.reduceEq, Int.reduceToNat, Nat.reduceLT, Nat.reduceMul, Nat.reduceSub, Nat.reduceBEq, Nat.reduceLeDiff, xw0, eApp, rowOf, appRow, lkL, lkN, eMupd, vLook, mapSh, findE, putE, keqL, hasSh, fits, shb, Int.reduceBEq, eMksl, vSlc, boundsOf, boundOf, cleanL, Nat.reduceGT, Int.reduceGT, Int.reduceGE, Int.reduceDiv, Int.reduceTDiv, vAidx, rdc]; rfl) rfl ?_
  simp -implicitDefEqProofs only [sw0, sw1, sw2, sw3, sw4, sw5, reduceCtorEq, Nat.reduceEqDiff, Nat.reduceAdd, Nat.reduceDiv, Nat.reduceLeDiff, dw0, Int.reduceAdd, Int.reduceSub, Int.reduceMul, Int.reduceLT, Int.reduceLE, Int.reduceNeg, Int.reduceEq, Int.reduceToNat, Nat.reduceLT, Nat.reduceMul, Nat.reduceSub, Nat.reduceBEq, Nat.reduceLeDiff, xw0, eApp, rowOf, appRow, lkL, lkN, eMupd, vLook, mapSh, findE, putE, keqL, hasSh, fits, shb, Int.reduceBEq, eMksl, vSlc, boundsOf, boundOf, cleanL, Nat.reduceGT, Int.reduceGT, Int.reduceGE, Int.reduceDiv, Int.reduceTDiv, vAidx, rdc, q17.n4_w, q17.n5_w, YK, Plan_u6]
  refine ⟨⟨_, _, _, _, rfl⟩, ?_⟩
  rw [wl_1 (by omega)]
  simp -implicitDefEqProofs only [q17.n7_w, sw0, sw1, sw2, sw3, sw4, sw5, reduceCtorEq, Nat.reduceEqDiff, Nat.reduceAdd, Nat.reduceDiv, Nat.reduceLeDiff, dw0, Int.reduceAdd, Int.reduceSub, Int.reduceMul, Int.reduceLT, Int.reduceLE, Int.reduceNeg, Int.reduceEq, Int.reduceToNat, Nat.reduceLT, Nat.reduceMul, Nat.reduceSub, Nat.reduceBEq, Nat.reduceLeDiff, xw0, eApp, rowOf, appRow, lkL, lkN, eMupd, vLook, mapSh, findE, putE, keqL, hasSh, fits, shb, Int.reduceBEq, eMksl, vSlc, boundsOf, boundOf, cleanL, Nat.reduceGT, Int.reduceGT, Int.reduceGE, Int.reduceDiv, Int.reduceTDiv, vAidx, rdc, q17.n9_w]
  have h := fun (K : AV → St → Prop) X (hK) => put1'_2 (k := k) (b := none) (lk := true) (K := K) (n := 2) (m := 0) (z := iv 0) (qs := jA) (cl := H.length) (v := vA) hk1 (H := H ++ [.cells [vA], .cells [iv 1], .cells [.slice true 0 []], .cells [iv 0], .cells [iv 0, iv 0, iv 0], .cells [.sref (H.length + 4) 0 3 3 1]]) (L := [.map shI 3 [(iv 0, .sref (H.length + 10) 0 2 2 1), (iv 1, .sref (H.length + 13) 0 1 1 1)], .cells [.map (H.length + 7)], x1, .cells [iv 0, iv 1], x2, x3, .cells [iv 2], X]) vA_sl (by simp -implicitDefEqProofs only [sw0, sw1, sw2, sw3, sw4, sw5, reduceCtorEq, Nat.reduceEqDiff, Nat.reduceAdd, Nat.reduceDiv, Nat.reduceLeDiff, dw0, Int.reduceAdd, Int.reduceSub, Int.reduceMul, Int.reduceLT, Int.reduceLE, Int.reduceNeg, Int.reduceEq, Int.reduceToNat, Nat.reduceLT, Nat.reduceMul, Nat.reduceSub, Nat.reduceBEq, Nat.reduceLeDiff, xw0, eApp, rowOf, appRow, lkL, lkN, eMupd, vLook, mapSh, findE, putE, keqL, hasSh, fits, shb, Int.reduceBEq, eMksl, vSlc, boundsOf, boundOf, cleanL, Nat.reduceGT, Int.reduceGT, Int.reduceGE, Int.reduceDiv, Int.reduceTDiv, vAidx, rdc]) (by decide) (by decide) hK
  simp -implicitDefEqProofs only [sw0, sw1, sw2, sw3, sw4, sw5, reduceCtorEq, Nat.reduceEqDiff, Nat.reduceAdd, Nat.reduceDiv, Nat.reduceLeDiff, dw0, Int.reduceAdd, Int.reduceSub, Int.reduceMul, Int.reduceLT, Int.reduceLE, Int.reduceNeg, Int.reduceEq, Int.reduceToNat, Nat.reduceLT, Nat.reduceMul, Nat.reduceSub, Nat.reduceBEq, Nat.reduceLeDiff, xw0, eApp, rowOf, appRow, lkL, lkN, eMupd, vLook, mapSh, findE, putE, keqL, hasSh, fits, shb, Int.reduceBEq, eMksl, vSlc, boundsOf, boundOf, cleanL, Nat.reduceGT, Int.reduceGT, Int.reduceGE, Int.reduceDiv, Int.reduceTDiv, vAidx, rdc, jA, Nat.add_assoc] at h
  refine h _ _ ?_
  clear h
  rw [wl_1 (by omega)]
  simp -implicitDefEqProofs only [q17.n7_w, sw0, sw1, sw2, sw3, sw4, sw5, reduceCtorEq, Nat.reduceEqDiff, Nat.reduceAdd, Nat.reduceDiv, Nat.reduceLeDiff, dw0, Int.reduceAdd, Int.reduceSub, Int.reduceMul, Int.reduceLT, Int.reduceLE, Int.reduceNeg, Int.reduceEq, Int.reduceToNat, Nat.reduceLT, Nat.reduceMul, Nat.reduceSub, Nat.reduceBEq, Nat.reduceLeDiff, xw0, eApp, rowOf, appRow, lkL, lkN, eMupd, vLook, mapSh, findE, putE, keqL, hasSh, fits, shb, Int.reduceBEq, eMksl, vSlc, boundsOf, boundOf, cleanL, Nat.reduceGT, Int.reduceGT, Int.reduceGE, Int.reduceDiv, Int.reduceTDiv, vAidx, rdc, q17.n10_w, Plan_u11]
  rw [wl_1 (by omega)]
  simp -implicitDefEqProofs only [q17.n12_w, sw0, sw1, sw2, sw3, sw4, sw5, reduceCtorEq, Nat.reduceEqDiff, Nat.reduceAdd, Nat.reduceDiv, Nat.reduceLeDiff, dw0, Int.reduceAdd, Int.reduceSub, Int.reduceMul, Int.reduceLT, Int.reduceLE, Int.reduceNeg, Int.reduceEq, Int.reduceToNat, Nat.reduceLT, Nat.reduceMul, Nat.reduceSub, Nat.reduceBEq, Nat.reduceLeDiff, xw0, eApp, rowOf, appRow, lkL, lkN, eMupd, vLook, mapSh, findE, putE, keqL, hasSh, fits, shb, Int.reduceBEq, eMksl, vSlc, boundsOf, boundOf, cleanL, Nat.reduceGT, Int.reduceGT, Int.reduceGE, Int.reduceDiv, Int.reduceTDiv, vAidx, rdc, q17.n14_w]
  have h := fun (K : AV → St → Prop) X (hK) => take2 (k := k - 1) (b := none) (K := K) (n := 2) (m := 0) (f := .fn F_q18 [.ptr H.length 0 1]) hk2 (H := H ++ [.cells [vA], .cells [iv 1], .cells [.slice true 0 []], .cells [iv 0], .cells [iv 0, iv 0, iv 0], .cells [.sref (H.length + 4) 0 3 3 1]]) (L := [.map shI 3 [(iv 0, .sref (H.length + 10) 0 2 2 1), (iv 1, .sref (H.length + 13) 0 1 1 1)], .cells [.map (H.length + 7)], x1, .cells [iv 0, iv 1], x2, x3, .cells [iv 2], X]) hK
  rw [show k - 1 + 1 = k by omega] at h
  simp -implicitDefEqProofs only [sw0, sw1, sw2, sw3, sw4, sw5, reduceCtorEq, Nat.reduceEqDiff, Nat.reduceAdd, Nat.reduceDiv, Nat.reduceLeDiff, dw0, Int.reduceAdd, Int.reduceSub, Int.reduceMul, Int.reduceLT, Int.reduceLE, Int.reduceNeg, Int.reduceEq, Int.reduceToNat, Nat.reduceLT, Nat.reduceMul, Nat.reduceSub, Nat.reduceBEq, Nat.reduceLeDiff, xw0, eApp, rowOf, appRow, lkL, lkN, eMupd, vLook, mapSh, findE, putE, keqL, hasSh, fits, shb, Int.reduceBEq, eMksl, vSlc, boundsOf, boundOf, cleanL, Nat.reduceGT, Int.reduceGT, Int.reduceGE, Int.reduceDiv, Int.reduceTDiv, vAidx, rdc, Nat.add_assoc] at h
  refine h _ _ ?_
  clear h
  simp -implicitDefEqProofs only [sw0, sw1, sw2, sw3, sw4, sw5, reduceCtorEq, Nat.reduceEqDiff, Nat.reduceAdd, Nat.reduceDiv, Nat.reduceLeDiff, dw0, Int.reduceAdd, Int.reduceSub, Int.reduceMul, Int.reduceLT, Int.reduceLE, Int.reduceNeg, Int.reduceEq, Int.reduceToNat, Nat.reduceLT, Nat.reduceMul, Nat.reduceSub, Nat.reduceBEq, Nat.reduceLeDiff, xw0, eApp, rowOf, appRow, lkL, lkN, eMupd, vLook, mapSh, findE, putE, keqL, hasSh, fits, shb, Int.reduceBEq, eMksl, vSlc, boundsOf, boundOf, cleanL, Nat.reduceGT, Int.reduceGT, Int.reduceGE, Int.reduceDiv, Int.reduceTDiv, vAidx, rdc, q17.n16_w, q17.n17_w]
  rw [wl_1 (by omega)]
  simp -implicitDefEqProofs only [q17.n12_w, sw0, sw1, sw2, sw3, sw4, sw5, reduceCtorEq, Nat.reduceEqDiff, Nat.reduceAdd, Nat.reduceDiv, Nat.reduceLeDiff, dw0, Int.reduceAdd, Int.reduceSub, Int.reduceMul, Int.reduceLT, Int.reduceLE, Int.reduceNeg, Int.reduceEq, Int.reduceToNat, Nat.reduceLT, Nat.reduceMul, Nat.reduceSub, Nat.reduceBEq, Nat.reduceLeDiff, xw0, eApp, rowOf, appRow, lkL, lkN, eMupd, vLook, mapSh, findE, putE, keqL, hasSh, fits, shb, Int.reduceBEq, eMksl, vSlc, boundsOf, boundOf, cleanL, Nat.reduceGT, Int.reduceGT, Int.reduceGE, Int.reduceDiv, Int.reduceTDiv, vAidx, rdc, YK]
  exact hK
theorem yA2 (hk : 1000 ≤ k) {r0 r1 r6 r9 r10 r11 r12 r13 r14 r15 r16 r17 r18 r19 r20 r21 r22 r23 r24 r25 r26 r27 r28 r29 r30 r31 r32 r33 r34 r35 r36 r37 r38 r39 r40 r41 r42 r43 r44 r45 r46 r47 r48 r49 r50 r51 r52 r53 r54 r55 r56 r57 r58 r59 r60 r61 r62 r63 r64 r65 r66 : AV} {x1 x2 x3 : AObj} (hK : K (.bool true) ⟨H ++ [.cells [vA], .cells [iv 1], .cells [.slice true 0 []], .cells [iv 0], .cells [iv 2, iv 0, iv 1], .cells [.sref (H.length + 4) 0 3 3 1], .cells [.slice false 1 [], .fn F_q18 [.ptr H.length 0 1]], .map shI 3 [(iv 0, .sref (H.length + 10) 0 2 2 1), (iv 1, .sref (H.length + 13) 0 1 1 1)], .cells [.map (H.length + 7)], x1, .cells [iv 0, iv 1], x2, x3, .cells [iv 2], .loop [r0, r1, .ptr H.length 0 1, .ptr (H.length + 1) 0 1, .ptr (H.length + 2) 0 1, .ptr (H.length + 3) 0 1, r6, .ptr (H.length + 5) 0 1, .ptr (H.length + 6) 0 2, r9, r10, r11, r12, r13, r14, r15, r16, r17, r18, r19, r20, r21, r22, r23, r24, r25, r26, r27, r28, r29, r30, r31, r32, r33, r34, r35, r36, r37, r38, r39, r40, r41, r42, r43, r44, r45, r46, r47, r48, r49, r50, r51, r52, r53, r54, r55, r56, r57, r58, r59, r60, r61, r62, r63, r64, r65, r66] [28, 29] q17.n4 q17.n5 true none, .cells [iv 0, iv 0]], true⟩) : YC ⟨prog, k + 1, b⟩ (H.length + 14) [iv 2, .slice true 0 []] ⟨H ++ [.cells [vA], .cells [iv 1], .cells [.slice true 0 []], .cells [iv 0], .cells [iv 0, iv 0, iv 1], .cells [.sref (H.length + 4) 0 3 3 1], .cells [.sref (H.length + 15) 0 1 2 1, .fn F_q18 [.ptr H.length 0 1]], .map shI 3 [(iv 0, .sref (H.length + 10) 0 2 2 1), (iv 1, .sref (H.length + 13) 0 1 1 1)], .cells [.map (H.length + 7)], x1, .cells [iv 0, iv 1], x2, x3, .cells [iv 2], .loop [r0, r1, .ptr H.length 0 1, .ptr (H.length + 1) 0 1, .ptr (H.length + 2) 0 1, .ptr (H.length + 3) 0 1, r6, .ptr (H.length + 5) 0 1, .ptr (H.length + 6) 0 2, r9, r10, r11, r12, r13, r14, r15, r16, r17, r18, r19, r20, r21, r22, r23, r24, r25, r26, r27, r28, r29, r30, r31, r32, r33, r34, r35, r36, r37, r38, r39, r40, r41, r42, r43, r44, r45, r46, r47, r48, r49, r50, r51, r52, r53, r54, r55, r56, r57, r58, r59, r60, r61, r62, r63, r64, r65, r66] [28, 29] q17.n4 q17.n5 true none, .cells [iv 0, iv 0]], true⟩ K := by
  have hk1 : 100 ≤ k := by omega
  have hk2 : 100 ≤ k - 1 := by omega
  refine YC_go (by simp -implicitDefEqProofs only [sw0, sw1, sw2, sw3, sw4, sw5, reduceCtorEq, Nat.reduceEqDiff, Nat.reduceAdd, Nat.reduceDiv, Nat.reduceLeDiff, dw0, Int.reduceAdd, Int.reduceSub, Int.reduceMul, Int.reduceLT, Int.reduceLE, Int.reduceNeg, Int.reduceEq, Int.reduceToNat, Nat.reduceLT, Nat.reduceMul, Nat.reduceSub, Nat.reduceBEq, Nat.reduceLeDiff, xw0, eApp, rowOf, appRow, lkL, lkN, eMupd, vLook, mapSh, findE, putE, keqL, hasSh, fits, shb, Int.reduceBEq, eMksl, vSlc, boundsOf, boundOf, cleanL, Nat.reduceGT, Int.reduceGT, Int.reduceGE, Int.reduceDiv, Int.reduceTDiv, vAidx, rdc]; rfl) rfl ?_
  simp -implicitDefEqProofs only [sw0, sw1, sw2, sw3, sw4, sw5, reduceCtorEq, Nat.reduceEqDiff, Nat.reduceAdd, Nat.reduceDiv, Nat.reduceLeDiff, dw0, Int.reduceAdd, Int.reduceSub, Int.reduceMul, Int.reduceLT, Int.reduceLE, Int.reduceNeg, Int.reduceEq, Int.reduceToNat, Nat.reduceLT, Nat.reduceMul, Nat.reduceSub, Nat.reduceBEq, Nat.reduceLeDiff, xw0, eApp, rowOf, appRow, lkL, lkN, eMupd, vLook, mapSh, findE, putE, keqL, hasSh, fits, shb, Int.reduceBEq, eMksl, vSlc, boundsOf, boundOf, cleanL, Nat.reduceGT, Int.reduceGT, Int.reduceGE, Int.reduceDiv, Int.reduceTDiv, vAidx, rdc, q17.n4_w, q17.n5_w, YK, Plan_u6]
  refine ⟨⟨_, _, _, _, rfl⟩, ?_⟩
  rw [wl_1 (by omega)]
  simp -implicitDefEqProofs only [q17.n7_w, sw0, sw1, sw2, sw3, sw4, sw5, reduceCtorEq, Nat.reduceEqDiff, Nat.reduceAdd, Nat.reduceDiv, Nat.reduceLeDiff, dw0, Int.reduceAdd, Int.reduceSub, Int.reduceMul, Int.reduceLT, Int.reduceLE, Int.reduceNeg, Int.reduceEq, Int.reduceToNat, Nat.reduceLT, Nat.reduceMul, Nat.reduceSub, Nat.reduceBEq, Nat.reduceLeDiff, xw0, eApp, rowOf, appRow, lkL, lkN, eMupd, vLook, mapSh, findE, putE, keqL, hasSh, fits, shb, Int.reduceBEq, eMksl, vSlc, boundsOf, boundOf, cleanL, Nat.reduceGT, Int.reduceGT, Int.reduceGE, Int.reduceDiv, Int.reduceTDiv, vAidx, rdc, q17.n10_w, Plan_u11]
  rw [wl_1 (by omega)]
  simp -implicitDefEqProofs only [q17.n12_w, sw0, sw1, sw2, sw3, sw4, sw5, reduceCtorEq, Nat.reduceEqDiff, Nat.reduceAdd, Nat.reduceDiv, Nat.reduceLeDiff, dw0, Int.reduceAdd, Int.reduceSub, Int.reduceMul, Int.reduceLT, Int.reduceLE, Int.reduceNeg, Int.reduceEq, Int.reduceToNat, Nat.reduceLT, Nat.reduceMul, Nat.reduceSub, Nat.reduceBEq, Nat.reduceLeDiff, xw0, eApp, rowOf, appRow, lkL, lkN, eMupd, vLook, mapSh, findE, putE, keqL, hasSh, fits, shb, Int.reduceBEq, eMksl, vSlc, boundsOf, boundOf, cleanL, Nat.reduceGT, Int.reduceGT, Int.reduceGE, Int.reduceDiv, Int.reduceTDiv, vAidx, rdc, q17.n14_w]
  have h := fun (K : AV → St → Prop) X (hK) => take1 (k := k - 1) (b := none) (K := K) (ver := 2) (R := [iv 0]) (n := 0) (f := .fn F_q18 [.ptr H.length 0 1]) hk2 rfl (H := H ++ [.cells [vA], .cells [iv 1], .cells [.slice true 0 []], .cells [iv 0], .cells [iv 0, iv 0, iv 1], .cells [.sref (H.length + 4) 0 3 3 1]]) (L := [.map shI 3 [(iv 0, .sref (H.length + 10) 0 2 2 1), (iv 1, .sref (H.length + 13) 0 1 1 1)], .cells [.map (H.length + 7)], x1, .cells [iv 0, iv 1], x2, x3, .cells [iv 2], X]) hK
  rw [show k - 1 + 1 = k by omega] at h
  simp -implicitDefEqProofs only [sw0, sw1, sw2, sw3, sw4, sw5, reduceCtorEq, Nat.reduceEqDiff, Nat.reduceAdd, Nat.reduceDiv, Nat.reduceLeDiff, dw0, Int.reduceAdd, Int.reduceSub, Int.reduceMul, Int.reduceLT, Int.reduceLE, Int.reduceNeg, Int.reduceEq, Int.reduceToNat, Nat.reduceLT, Nat.reduceMul, Nat.reduceSub, Nat.reduceBEq, Nat.reduceLeDiff, xw0, eApp, rowOf, appRow, lkL, lkN, eMupd, vLook, mapSh, findE, putE, keqL, hasSh, fits, shb, Int.reduceBEq, eMksl, vSlc, boundsOf, boundOf, cleanL, Nat.reduceGT, Int.reduceGT, Int.reduceGE, Int.reduceDiv, Int.reduceTDiv, vAidx, rdc, Nat.add_assoc] at h
  refine h _ _ ?_
  clear h
  simp -implicitDefEqProofs only [sw0, sw1, sw2, sw3, sw4, sw5, reduceCtorEq, Nat.reduceEqDiff, Nat.reduceAdd, Nat.reduceDiv, Nat.reduceLeDiff, dw0, Int.reduceAdd, Int.reduceSub, Int.reduceMul, Int.reduceLT, Int.reduceLE, Int.reduceNeg, Int.reduceEq, Int.reduceToNat, Nat.reduceLT, Nat.reduceMul, Nat.reduceSub, Nat.reduceBEq, Nat.reduceLeDiff, xw0, eApp, rowOf, appRow, lkL, lkN, eMupd, vLook, mapSh, findE, putE, keqL, hasSh, fits, shb, Int.reduceBEq, eMksl, vSlc, boundsOf, boundOf, cleanL, Nat.reduceGT, Int.reduceGT, Int.reduceGE, Int.reduceDiv, Int.reduceTDiv, vAidx, rdc, q17.n16_w, q17.n17_w]
  rw [wl_1 (by omega)]
  simp -implicitDefEqProofs only [q17.n12_w, sw0, sw1, sw2, sw3, sw4, sw5, reduceCtorEq, Nat.reduceEqDiff, Nat.reduceAdd, Nat.reduceDiv, Nat.reduceLeDiff, dw0, Int.reduceAdd, Int.reduceSub, Int.reduceMul, Int.reduceLT, Int.reduceLE, Int.reduceNeg, Int.reduceEq, Int.reduceToNat, Nat.reduceLT, Nat.reduceMul, Nat.reduceSub, Nat.reduceBEq, Nat.reduceLeDiff, xw0, eApp, rowOf, appRow, lkL, lkN, eMupd, vLook, mapSh, findE, putE, keqL, hasSh, fits, shb, Int.reduceBEq, eMksl, vSlc, boundsOf, boundOf, cleanL, Nat.reduceGT, Int.reduceGT, Int.reduceGE, Int.reduceDiv, Int.reduceTDiv, vAidx, rdc, YK]
  exact hK
theorem yA3 (hk : 1000 ≤ k) {r0 r1 r6 r9 r10 r11 r12 r13 r14 r15 r16 r17 r18 r19 r20 r21 r22 r23 r24 r25 r26 r27 r28 r29 r30 r31 r32 r33 r34 r35 r36 r37 r38 r39 r40 r41 r42 r43 r44 r45 r46 r47 r48 r49 r50 r51 r52 r53 r54 r55 r56 r57 r58 r59 r60 r61 r62 r63 r64 r65 r66 : AV} {x1 x2 x3 : AObj} {t : Nat} (hK : K (.bool true) ⟨H ++ [.cells [vA], .cells [iv 1], .cells [.slice true 0 []], .cells [iv 0], .cells [iv 2, iv 0, iv 1], .cells [.sref (H.length + 4) 0 3 3 1], .cells [.slice false 1 [], .fn F_q18 [.ptr H.length 0 1]], .map shI 3 [(iv 0, .sref (H.length + 10) 0 2 2 1), (iv 1, .sref (H.length + 13) 0 1 1 1)], .cells [.map (H.length + 7)], x1, .cells [iv 0, iv 1], x2, x3, .cells [iv 2], .loop [r0, r1, .ptr H.length 0 1, .ptr (H.length + 1) 0 1, .ptr (H.length + 2) 0 1, .ptr (H.length + 3) 0 1, r6, .ptr (H.length + 5) 0 1, .ptr (H.length + 6) 0 2, r9, r10, r11, r12, r13, r14, r15, r16, r17, r18, r19, r20, r21, r22, r23, r24, r25, r26, r27, r28, r29, r30, r31, r32, r33, r34, r35, r36, r37, r38, r39, r40, r41, r42, r43, r44, r45, r46, r47, r48, r49, r50, r51, r52, r53, r54, r55, r56, r57, r58, r59, r60, r61, r62, r63, r64, r65, r66] [28, 29] q17.n4 q17.n5 true none, .cells [iv 0, iv 0]], true⟩) : YC ⟨prog, k + 1, b⟩ (H.length + 14) [iv t, .slice true 0 []] ⟨H ++ [.cells [vA], .cells [iv 1], .cells [.slice true 0 []], .cells [iv 0], .cells [iv 2, iv 0, iv 1], .cells [.sref (H.length + 4) 0 3 3 1], .cells [.slice false 1 [], .fn F_q18 [.ptr H.length 0 1]], .map shI 3 [(iv 0, .sref (H.length + 10) 0 2 2 1), (iv 1, .sref (H.length + 13) 0 1 1 1)], .cells [.map (H.length + 7)], x1, .cells [iv 0, iv 1], x2, x3, .cells [iv 2], .loop [r0, r1, .ptr H.length 0 1, .ptr (H.length + 1) 0 1, .ptr (H.length + 2) 0 1, .ptr (H.length + 3) 0 1, r6, .ptr (H.length + 5) 0 1, .ptr (H.length + 6) 0 2, r9, r10, r11, r12, r13, r14, r15, r16, r17, r18, r19, r20, r21, r22, r23, r24, r25, r26, r27, r28, r29, r30, r31, r32, r33, r34, r35, r36, r37, r38, r39, r40, r41, r42, r43, r44, r45, r46, r47, r48, r49, r50, r51, r52, r53, r54, r55, r56, r57, r58, r59, r60, r61, r62, r63, r64, r65, r66] [28, 29] q17.n4 q17.n5 true none, .cells [iv 0, iv 0]], true⟩ K := by
  have hk1 : 100 ≤ k := by omega
  have hk2 : 100 ≤ k - 1 := by omega
  refine YC_go (by simp -implicitDefEqProofs only [sw0, sw1, sw2, sw3, sw4, sw5, reduceCtorEq, Nat.reduceEqDiff, Nat.reduceAdd, Nat.reduceDiv, Nat.reduceLeDiff, dw0, Int.reduceAdd, Int.reduceSub, Int.reduceMul, Int.reduceLT, Int.reduceLE, Int.reduceNeg, Int.reduceEq, Int.reduceToNat, Nat.reduceLT, Nat.reduceMul, Nat.reduceSub, Nat.reduceBEq, Nat.reduceLeDiff, xw0, eApp, rowOf, appRow, lkL, lkN, eMupd, vLook, mapSh, findE, putE, keqL, hasSh, fits, shb, Int.reduceBEq, eMksl, vSlc, boundsOf, boundOf, cleanL, Nat.reduceGT, Int.reduceGT, Int.reduceGE, Int.reduceDiv, Int.reduceTDiv, vAidx, rdc]; rfl) rfl ?_
  simp -implicitDefEqProofs only [sw0, sw1, sw2, sw3, sw4, sw5, reduceCtorEq, Nat.reduceEqDiff, Nat.reduceAdd, Nat.reduceDiv, Nat.reduceLeDiff, dw0, Int.reduceAdd, Int.reduceSub, Int.reduceMul, Int.reduceLT, Int.reduceLE, Int.reduceNeg, Int.reduceEq, Int.reduceToNat, Nat.reduceLT, Nat.reduceMul, Nat.reduceSub, Nat.reduceBEq, Nat.reduceLeDiff, xw0, eApp, rowOf, appRow, lkL, lkN, eMupd, vLook, mapSh, findE, putE, keqL, hasSh, fits, shb, Int.reduceBEq, eMksl, vSlc, boundsOf, boundOf, cleanL, Nat.reduceGT, Int.reduceGT, Int.reduceGE, Int.reduceDiv, Int.reduceTDiv, vAidx, rdc, q17.n4_w, q17.n5_w, YK, Plan_u6]
  refine ⟨⟨_, _, _, _, rfl⟩, ?_⟩
  rw [wl_1 (by omega)]
  simp -implicitDefEqProofs only [q17.n7_w, sw0, sw1, sw2, sw3, sw4, sw5, reduceCtorEq, Nat.reduceEqDiff, Nat.reduceAdd, Nat.reduceDiv, Nat.reduceLeDiff, dw0, Int.reduceAdd, Int.reduceSub, Int.reduceMul, Int.reduceLT, Int.reduceLE, Int.reduceNeg, Int.reduceEq, Int.reduceToNat, Nat.reduceLT, Nat.reduceMul, Nat.reduceSub, Nat.reduceBEq, Nat.reduceLeDiff, xw0, eApp, rowOf, appRow, lkL, lkN, eMupd, vLook, mapSh, findE, putE, keqL, hasSh, fits, shb, Int.reduceBEq, eMksl, vSlc, boundsOf, boundOf, cleanL, Nat.reduceGT, Int.reduceGT, Int.reduceGE, Int.reduceDiv, Int.reduceTDiv, vAidx, rdc, q17.n10_w, Plan_u11]
  rw [wl_1 (by omega)]
  simp -implicitDefEqProofs only [q17.n12_w, sw0, sw1, sw2, sw3, sw4, sw5, reduceCtorEq, Nat.reduceEqDiff, Nat.reduceAdd, Nat.reduceDiv, Nat.reduceLeDiff, dw0, Int.reduceAdd, Int.reduceSub, Int.reduceMul, Int.reduceLT, Int.reduceLE, Int.reduceNeg, Int.reduceEq, Int.reduceToNat, Nat.reduceLT, Nat.reduceMul, Nat.reduceSub, Nat.reduceBEq, Nat.reduceLeDiff, xw0, eApp, rowOf, appRow, lkL, lkN, eMupd, vLook, mapSh, findE, putE, keqL, hasSh, fits, shb, Int.reduceBEq, eMksl, vSlc, boundsOf, boundOf, cleanL, Nat.reduceGT, Int.reduceGT, Int.reduceGE, Int.reduceDiv, Int.reduceTDiv, vAidx, rdc, YK]
  exact hK
theorem runA (hk : 1000 ≤ k) {r0 r1 r6 r9 r10 r11 r12 r13 r14 r15 r16 r17 r18 r19 r20 r21 r22 r23 r24 r25 r26 r27 r28 r29 r30 r31 r32 r33 r34 r35 r36 r37 r38 r39 r40 r41 r42 r43 r44 r45 r46 r47 r48 r49 r50 r51 r52 r53 r54 r55 r56 r57 r58 r59 r60 r61 r62 r63 r64 r65 r66 : AV} {x1 x2 x3 : AObj} (hK : K (.tup []) ⟨H ++ [.cells [vA], .cells [iv 1], .cells [.slice true 0 []], .cells [iv 0], .cells [iv 2, iv 0, iv 1], .cells [.sref (H.length + 4) 0 3 3 1], .cells [.slice false 1 [], .fn F_q18 [.ptr H.length 0 1]], .map shI 3 [(iv 0, .sref (H.length + 10) 0 2 2 1), (iv 1, .sref (H.length + 13) 0 1 1 1)], .cells [.map (H.length + 7)], x1, .cells [iv 0, iv 1], x2, x3, .cells [iv 2], .loop [r0, r1, .ptr H.length 0 1, .ptr (H.length + 1) 0 1, .ptr (H.length + 2) 0 1, .ptr (H.length + 3) 0 1, r6, .ptr (H.length + 5) 0 1, .ptr (H.length + 6) 0 2, r9, r10, r11, r12, r13, r14, r15, r16, r17, r18, r19, r20, r21, r22, r23, r24, r25, r26, r27, r28, r29, r30, r31, r32, r33, r34, r35, r36, r37, r38, r39, r40, r41, r42, r43, r44, r45, r46, r47, r48, r49, r50, r51, r52, r53, r54, r55, r56, r57, r58, r59, r60, r61, r62, r63, r64, r65, r66] [28, 29] q17.n4 q17.n5 true none, .cells [iv 0, iv 0]], true⟩) : VC ⟨prog, k + 2, b⟩ F_q42 [.yield (H.length + 14), .ptr (H.length + 8) 0 1] ⟨H ++ [.cells [vA], .cells [iv 1], .cells [.slice true 0 []], .cells [iv 0], .cells [iv 0, iv 0, iv 0], .cells [.sref (H.length + 4) 0 3 3 1], .cells [.slice true 0 [], .fn F_q18 [.ptr H.length 0 1]], .map shI 3 [(iv 0, .sref (H.length + 10) 0 2 2 1), (iv 1, .sref (H.length + 13) 0 1 1 1)], .cells [.map (H.length + 7)], x1, .cells [iv 0, iv 1], x2, x3, .cells [iv 2], .loop [r0, r1, .ptr H.length 0 1, .ptr (H.length + 1) 0 1, .ptr (H.length + 2) 0 1, .ptr (H.length + 3) 0 1, r6, .ptr (H.length + 5) 0 1, .ptr (H.length + 6) 0 2, r9, r10, r11, r12, r13, r14, r15, r16, r17, r18, r19, r20, r21, r22, r23, r24, r25, r26, r27, r28, r29, r30, r31, r32, r33, r34, r35, r36, r37, r38, r39, r40, r41, r42, r43, r44, r45, r46, r47, r48, r49, r50, r51, r52, r53, r54, r55, r56, r57, r58, r59, r60, r61, r62, r63, r64, r65, r66] [28, 29] q17.n4 q17.n5 true none], lk⟩ K := by
  refine slots_1_s (k := k + 1) (J := fun t s => (t = 0 ∧ ∃ lk, s = ⟨H ++ [.cells [vA], .cells [iv 1], .cells [.slice true 0 []], .cells [iv 0], .cells [iv 0, iv 0, iv 0], .cells [.sref (H.length + 4) 0 3 3 1], .cells [.slice true 0 [], .fn F_q18 [.ptr H.length 0 1]], .map shI 3 [(iv 0, .sref (H.length + 10) 0 2 2 1), (iv 1, .sref (H.length + 13) 0 1 1 1)], .cells [.map (H.length + 7)], x1, .cells [iv 0, iv 1], x2, x3, .cells [iv 2], .loop [r0, r1, .ptr H.length 0 1, .ptr (H.length + 1) 0 1, .ptr (H.length + 2) 0 1, .ptr (H.length + 3) 0 1, r6, .ptr (H.length + 5) 0 1, .ptr (H.length + 6) 0 2, r9, r10, r11, r12, r13, r14, r15, r16, r17, r18, r19, r20, r21, r22, r23, r24, r25, r26, r27, r28, r29, r30, r31, r32, r33, r34, r35, r36, r37, r38, r39, r40, r41, r42, r43, r44, r45, r46, r47, r48, r49, r50, r51, r52, r53, r54, r55, r56, r57, r58, r59, r60, r61, r62, r63, r64, r65, r66] [28, 29] q17.n4 q17.n5 true none], lk⟩) ∨ (t = 1 ∧ s = ⟨H ++ [.cells [vA], .cells [iv 1], .cells [.slice true 0 []], .cells [iv 0], .cells [iv 0, iv 0, iv 0], .cells [.sref (H.length + 4) 0 3 3 1], .cells [.sref (H.length + 15) 0 1 2 1, .fn F_q18 [.ptr H.length 0 1]], .map shI 3 [(iv 0, .sref (H.length + 10) 0 2 2 1), (iv 1, .sref (H.length + 13) 0 1 1 1)], .cells [.map (H.length + 7)], x1, .cells [iv 0, iv 1], x2, x3, .cells [iv 2], .loop [r0, r1, .ptr H.length 0 1, .ptr (H.length + 1) 0 1, .ptr (H.length + 2) 0 1, .ptr (H.length + 3) 0 1, r6, .ptr (H.length + 5) 0 1, .ptr (H.length + 6) 0 2, r9, r10, r11, r12, r13, r14, r15, r16, r17, r18, r19, r20, r21, r22, r23, r24, r25, r26, r27, r28, r29, r30, r31, r32, r33, r34, r35, r36, r37, r38, r39, r40, r41, r42, r43, r44, r45, r46, r47, r48, r49, r50, r51, r52, r53, r54, r55, r56, r57, r58, r59, r60, r61, r62, r63, r64, r65, r66] [28, 29] q17.n4 q17.n5 true none, .cells [iv 0, iv 0]], true⟩) ∨ (t = 2 ∧ s = ⟨H ++ [.cells [vA], .cells [iv 1], .cells [.slice true 0 []], .cells [iv 0], .cells [iv 0, iv 0, iv 1], .cells [.sref (H.length + 4) 0 3 3 1], .cells [.sref (H.length + 15) 0 1 2 1, .fn F_q18 [.ptr H.length 0 1]], .map shI 3 [(iv 0, .sref (H.length + 10) 0 2 2 1), (iv 1, .sref (H.length + 13) 0 1 1 1)], .cells [.map (H.length + 7)], x1, .cells [iv 0, iv 1], x2, x3, .cells [iv 2], .loop [r0, r1, .ptr H.length 0 1, .ptr (H.length + 1) 0 1, .ptr (H.length + 2) 0 1, .ptr (H.length + 3) 0 1, r6, .ptr (H.length + 5) 0 1, .ptr (H.length + 6) 0 2, r9, r10, r11, r12, r13, r14, r15, r16, r17, r18, r19, r20, r21, r22, r23, r24, r25, r26, r27, r28, r29, r30, r31, r32, r33, r34, r35, r36, r37, r38, r39, r40, r41, r42, r43, r44, r45, r46, r47, r48, r49, r50, r51, r52, r53, r54, r55, r56, r57, r58, r59, r60, r61, r62, r63, r64, r65, r66] [28, 29] q17.n4 q17.n5 true none, .cells [iv 0, iv 0]], true⟩) ∨ (3 ≤ t ∧ s = ⟨H ++ [.cells [vA], .cells [iv 1], .cells [.slice true 0 []], .cells [iv 0], .cells [iv 2, iv 0, iv 1], .cells [.sref (H.length + 4) 0 3 3 1], .cells [.slice false 1 [], .fn F_q18 [.ptr H.length 0 1]], .map shI 3 [(iv 0, .sref (H.length + 10) 0 2 2 1), (iv 1, .sref (H.length + 13) 0 1 1 1)], .cells [.map (H.length + 7)], x1, .cells [iv 0, iv 1], x2, x3, .cells [iv 2], .loop [r0, r1, .ptr H.length 0 1, .ptr (H.length + 1) 0 1, .ptr (H.length + 2) 0 1, .ptr (H.length + 3) 0 1, r6, .ptr (H.length + 5) 0 1, .ptr (H.length + 6) 0 2, r9, r10, r11, r12, r13, r14, r15, r16, r17, r18, r19, r20, r21, r22, r23, r24, r25, r26, r27, r28, r29, r30, r31, r32, r33, r34, r35, r36, r37, r38, r39, r40, r41, r42, r43, r44, r45, r46, r47, r48, r49, r50, r51, r52, r53, r54, r55, r56, r57, r58, r59, r60, r61, r62, r63, r64, r65, r66] [28, 29] q17.n4 q17.n5 true none, .cells [iv 0, iv 0]], true⟩)) (R := fun s => s = ⟨H ++ [.cells [vA], .cells [iv 1], .cells [.slice true 0 []], .cells [iv 0], .cells [iv 2, iv 0, iv 1], .cells [.sref (H.length + 4) 0 3 3 1], .cells [.slice false 1 [], .fn F_q18 [.ptr H.length 0 1]], .map shI 3 [(iv 0, .sref (H.length + 10) 0 2 2 1), (iv 1, .sref (H.length + 13) 0 1 1 1)], .cells [.map (H.length + 7)], x1, .cells [iv 0, iv 1], x2, x3, .cells [iv 2], .loop [r0, r1, .ptr H.length 0 1, .ptr (H.length + 1) 0 1, .ptr (H.length + 2) 0 1, .ptr (H.length + 3) 0 1, r6, .ptr (H.length + 5) 0 1, .ptr (H.length + 6) 0 2, r9, r10, r11, r12, r13, r14, r15, r16, r17, r18, r19, r20, r21, r22, r23, r24, r25, r26, r27, r28, r29, r30, r31, r32, r33, r34, r35, r36, r37, r38, r39, r40, r41, r42, r43, r44, r45, r46, r47, r48, r49, r50, r51, r52, r53, r54, r55, r56, r57, r58, r59, r60, r61, r62, r63, r64, r65, r66] [28, 29] q17.n4 q17.n5 true none, .cells [iv 0, iv 0]], true⟩) (by omega) ?_ (.inl ⟨rfl, _, rfl⟩) (fun s h => by rcases h with ⟨h, _⟩ | ⟨h, _⟩ | ⟨h, _⟩ | ⟨_, h⟩ <;> first | omega | exact h) (fun s h => by subst h; exact ⟨rfl, hK⟩)
  rintro t s ht (⟨rfl, lk', rfl⟩ | ⟨rfl, rfl⟩ | ⟨rfl, rfl⟩ | ⟨h3, rfl⟩)
  · refine ⟨.map (H.length + 7), .sref (H.length + 10) 0 2 2 1, by simp -implicitDefEqProofs only [sw0, sw1, sw2, sw3, sw4, sw5, reduceCtorEq, Nat.reduceEqDiff, Nat.reduceAdd, Nat.reduceDiv, Nat.reduceLeDiff, dw0, Int.reduceAdd, Int.reduceSub, Int.reduceMul, Int.reduceLT, Int.reduceLE, Int.reduceNeg, Int.reduceEq, Int.reduceToNat, Nat.reduceLT, Nat.reduceMul, Nat.reduceSub, Nat.reduceBEq, Nat.reduceLeDiff, xw0, eApp, rowOf, appRow, lkL, lkN, eMupd, vLook, mapSh, findE, putE, keqL, hasSh, fits, shb, Int.reduceBEq, eMksl, vSlc, boundsOf, boundOf, cleanL, Nat.reduceGT, Int.reduceGT, Int.reduceGE, Int.reduceDiv, Int.reduceTDiv, vAidx, rdc], by simp -implicitDefEqProofs only [sw0, sw1, sw2, sw3, sw4, sw5, reduceCtorEq, Nat.reduceEqDiff, Nat.reduceAdd, Nat.reduceDiv, Nat.reduceLeDiff, dw0, Int.reduceAdd, Int.reduceSub, Int.reduceMul, Int.reduceLT, Int.reduceLE, Int.reduceNeg, Int.reduceEq, Int.reduceToNat, Nat.reduceLT, Nat.reduceMul, Nat.reduceSub, Nat.reduceBEq, Nat.reduceLeDiff, xw0, eApp, rowOf, appRow, lkL, lkN, eMupd, vLook, mapSh, findE, putE, keqL, hasSh, fits, shb, Int.reduceBEq, eMksl, vSlc, boundsOf, boundOf, cleanL, Nat.reduceGT, Int.reduceGT, Int.reduceGE, Int.reduceDiv, Int.reduceTDiv, vAidx, rdc], fun b => yA0 hk ?_⟩
    exact .inl ⟨rfl, .inr (.inl ⟨rfl, rfl⟩)⟩
  · refine ⟨.map (H.length + 7), .sref (H.length + 13) 0 1 1 1, by simp -implicitDefEqProofs only [sw0, sw1, sw2, sw3, sw4, sw5, reduceCtorEq, Nat.reduceEqDiff, Nat.reduceAdd, Nat.reduceDiv, Nat.reduceLeDiff, dw0, Int.reduceAdd, Int.reduceSub, Int.reduceMul, Int.reduceLT, Int.reduceLE, Int.reduceNeg, Int.reduceEq, Int.reduceToNat, Nat.reduceLT, Nat.reduceMul, Nat.reduceSub, Nat.reduceBEq, Nat.reduceLeDiff, xw0, eApp, rowOf, appRow, lkL, lkN, eMupd, vLook, mapSh, findE, putE, keqL, hasSh, fits, shb, Int.reduceBEq, eMksl, vSlc, boundsOf, boundOf, cleanL, Nat.reduceGT, Int.reduceGT, Int.reduceGE, Int.reduceDiv, Int.reduceTDiv, vAidx, rdc], by simp -implicitDefEqProofs only [sw0, sw1, sw2, sw3, sw4, sw5, reduceCtorEq, Nat.reduceEqDiff, Nat.reduceAdd, Nat.reduceDiv, Nat.reduceLeDiff, dw0, Int.reduceAdd, Int.reduceSub, Int.reduceMul, Int.reduceLT, Int.reduceLE, Int.reduceNeg, Int.reduceEq, Int.reduceToNat, Nat.reduceLT, Nat.reduceMul, Nat.reduceSub, Nat.reduceBEq, Nat.reduceLeDiff, xw0, eApp, rowOf, appRow, lkL, lkN, eMupd, vLook, mapSh, findE, putE, keqL, hasSh, fits, shb, Int.reduceBEq, eMksl, vSlc, boundsOf, boundOf, cleanL, Nat.reduceGT, Int.reduceGT, Int.reduceGE, Int.reduceDiv, Int.reduceTDiv, vAidx, rdc], fun b => yA1 hk ?_⟩
    exact .inl ⟨rfl, .inr (.inr (.inl ⟨rfl, rfl⟩))⟩
  · refine ⟨.map (H.length + 7), .slice true 0 [], by simp -implicitDefEqProofs only [sw0, sw1, sw2, sw3, sw4, sw5, reduceCtorEq, Nat.reduceEqDiff, Nat.reduceAdd, Nat.reduceDiv, Nat.reduceLeDiff, dw0, Int.reduceAdd, Int.reduceSub, Int.reduceMul, Int.reduceLT, Int.reduceLE, Int.reduceNeg, Int.reduceEq, Int.reduceToNat, Nat.reduceLT, Nat.reduceMul, Nat.reduceSub, Nat.reduceBEq, Nat.reduceLeDiff, xw0, eApp, rowOf, appRow, lkL, lkN, eMupd, vLook, mapSh, findE, putE, keqL, hasSh, fits, shb, Int.reduceBEq, eMksl, vSlc, boundsOf, boundOf, cleanL, Nat.reduceGT, Int.reduceGT, Int.reduceGE, Int.reduceDiv, Int.reduceTDiv, vAidx, rdc], by simp -implicitDefEqProofs only [sw0, sw1, sw2, sw3, sw4, sw5, reduceCtorEq, Nat.reduceEqDiff, Nat.reduceAdd, Nat.reduceDiv, Nat.reduceLeDiff, dw0, Int.reduceAdd, Int.reduceSub, Int.reduceMul, Int.reduceLT, Int.reduceLE, Int.reduceNeg, Int.reduceEq, Int.reduceToNat, Nat.reduceLT, Nat.reduceMul, Nat.reduceSub, Nat.reduceBEq, Nat.reduceLeDiff, xw0, eApp, rowOf, appRow, lkL, lkN, eMupd, vLook, mapSh, findE, putE, keqL, hasSh, fits, shb, Int.reduceBEq, eMksl, vSlc, boundsOf, boundOf, cleanL, Nat.reduceGT, Int.reduceGT, Int.reduceGE, Int.reduceDiv, Int.reduceTDiv, vAidx, rdc], fun b => yA2 hk ?_⟩
    exact .inl ⟨rfl, .inr (.inr (.inr ⟨by omega, rfl⟩))⟩
  · have e0 : ((t : Int) == 0) = false := by simp; omega
    have e1 : ((t : Int) == 1) = false := by simp; omega
    refine ⟨.map (H.length + 7), .slice true 0 [], by simp -implicitDefEqProofs only [sw0, sw1, sw2, sw3, sw4, sw5, reduceCtorEq, Nat.reduceEqDiff, Nat.reduceAdd, Nat.reduceDiv, Nat.reduceLeDiff, dw0, Int.reduceAdd, Int.reduceSub, Int.reduceMul, Int.reduceLT, Int.reduceLE, Int.reduceNeg, Int.reduceEq, Int.reduceToNat, Nat.reduceLT, Nat.reduceMul, Nat.reduceSub, Nat.reduceBEq, Nat.reduceLeDiff, xw0, eApp, rowOf, appRow, lkL, lkN, eMupd, vLook, mapSh, findE, putE, keqL, hasSh, fits, shb, Int.reduceBEq, eMksl, vSlc, boundsOf, boundOf, cleanL, Nat.reduceGT, Int.reduceGT, Int.reduceGE, Int.reduceDiv, Int.reduceTDiv, vAidx, rdc], by simp -implicitDefEqProofs only [sw0, sw1, sw2, sw3, sw4, sw5, reduceCtorEq, Nat.reduceEqDiff, Nat.reduceAdd, Nat.reduceDiv, Nat.reduceLeDiff, dw0, Int.reduceAdd, Int.reduceSub, Int.reduceMul, Int.reduceLT, Int.reduceLE, Int.reduceNeg, Int.reduceEq, Int.reduceToNat, Nat.reduceLT, Nat.reduceMul, Nat.reduceSub, Nat.reduceBEq, Nat.reduceLeDiff, xw0, eApp, rowOf, appRow, lkL, lkN, eMupd, vLook, mapSh, findE, putE, keqL, hasSh, fits, shb, Int.reduceBEq, eMksl, vSlc, boundsOf, boundOf, cleanL, Nat.reduceGT, Int.reduceGT, Int.reduceGE, Int.reduceDiv, Int.reduceTDiv, vAidx, rdc, e0, e1], fun b => yA3 hk ?_⟩
    exact .inl ⟨rfl, .inr (.inr (.inr ⟨by omega, rfl⟩))⟩
theorem slotsA (hk : 200 ≤ k) (hK : K (.fn F_q42 [.ptr (H.length + 1) 0 1]) ⟨H ++ [.map shI 3 [(iv 0, .sref (H.length + 3) 0 2 2 1), (iv 1, .sref (H.length + 6) 0 1 1 1)], .cells [.map H.length], .cells [iv 0, iv 0, iv 3], .cells [iv 0, iv 1], .cells [iv 1, iv 0, iv 2], .cells [iv 2, iv 1, iv 2], .cells [iv 2]], false⟩) : VC ⟨prog, k + 1, b⟩ F_q41 [vA] ⟨H, false⟩ K := by
  apply q41.enter
  have hu : AV.under H.length (AV.fn F_q42 [AV.ptr (H.length + 1) 0 1]) = false := by simp [AV.under, underL]
  simp -implicitDefEqProofs only [q41.n0_w, sw0, sw1, sw2, sw3, sw4, sw5, reduceCtorEq, Nat.reduceEqDiff, Nat.reduceAdd, Nat.reduceDiv, Nat.reduceLeDiff, dw0, Int.reduceAdd, Int.reduceSub, Int.reduceMul, Int.reduceLT, Int.reduceLE, Int.reduceNeg, Int.reduceEq, Int.reduceToNat, Nat.reduceLT, Nat.reduceMul, Nat.reduceSub, Nat.reduceBEq, Nat.reduceLeDiff, xw0, eApp, rowOf, appRow, lkL, lkN, eMupd, vLook, mapSh, findE, putE, keqL, hasSh, fits, shb, Int.reduceBEq, eMksl, vSlc, boundsOf, boundOf, cleanL, Nat.reduceGT, Int.reduceGT, Int.reduceGE, Int.reduceDiv, Int.reduceTDiv, vAidx, rdc, slots_u1]
  rw [wl_1 (by omega)]
  simp -implicitDefEqProofs only [q41.n2_w, sw0, sw1, sw2, sw3, sw4, sw5, reduceCtorEq, Nat.reduceEqDiff, Nat.reduceAdd, Nat.reduceDiv, Nat.reduceLeDiff, dw0, Int.reduceAdd, Int.reduceSub, Int.reduceMul, Int.reduceLT, Int.reduceLE, Int.reduceNeg, Int.reduceEq, Int.reduceToNat, Nat.reduceLT, Nat.reduceMul, Nat.reduceSub, Nat.reduceBEq, Nat.reduceLeDiff, xw0, eApp, rowOf, appRow, lkL, lkN, eMupd, vLook, mapSh, findE, putE, keqL, hasSh, fits, shb, Int.reduceBEq, eMksl, vSlc, boundsOf, boundOf, cleanL, Nat.reduceGT, Int.reduceGT, Int.reduceGE, Int.reduceDiv, Int.reduceTDiv, vAidx, rdc, q41.n4_w]
  rw [wl_1 (by omega)]
  simp -implicitDefEqProofs only [q41.n2_w, sw0, sw1, sw2, sw3, sw4, sw5, reduceCtorEq, Nat.reduceEqDiff, Nat.reduceAdd, Nat.reduceDiv, Nat.reduceLeDiff, dw0, Int.reduceAdd, Int.reduceSub, Int.reduceMul, Int.reduceLT, Int.reduceLE, Int.reduceNeg, Int.reduceEq, Int.reduceToNat, Nat.reduceLT, Nat.reduceMul, Nat.reduceSub, Nat.reduceBEq, Nat.reduceLeDiff, xw0, eApp, rowOf, appRow, lkL, lkN, eMupd, vLook, mapSh, findE, putE, keqL, hasSh, fits, shb, Int.reduceBEq, eMksl, vSlc, boundsOf, boundOf, cleanL, Nat.reduceGT, Int.reduceGT, Int.reduceGE, Int.reduceDiv, Int.reduceTDiv, vAidx, rdc, q41.n4_w]
  rw [wl_1 (by omega)]
  simp -implicitDefEqProofs only [q41.n2_w, sw0, sw1, sw2, sw3, sw4, sw5, reduceCtorEq, Nat.reduceEqDiff, Nat.reduceAdd, Nat.reduceDiv, Nat.reduceLeDiff, dw0, Int.reduceAdd, Int.reduceSub, Int.reduceMul, Int.reduceLT, Int.reduceLE, Int.reduceNeg, Int.reduceEq, Int.reduceToNat, Nat.reduceLT, Nat.reduceMul, Nat.reduceSub, Nat.reduceBEq, Nat.reduceLeDiff, xw0, eApp, rowOf, appRow, lkL, lkN, eMupd, vLook, mapSh, findE, putE, keqL, hasSh, fits, shb, Int.reduceBEq, eMksl, vSlc, boundsOf, boundOf, cleanL, Nat.reduceGT, Int.reduceGT, Int.reduceGE, Int.reduceDiv, Int.reduceTDiv, vAidx, rdc, q41.n4_w]
  rw [wl_1 (by omega)]
  simp -implicitDefEqProofs only [q41.n2_w, sw0, sw1, sw2, sw3, sw4, sw5, reduceCtorEq, Nat.reduceEqDiff, Nat.reduceAdd, Nat.reduceDiv, Nat.reduceLeDiff, dw0, Int.reduceAdd, Int.reduceSub, Int.reduceMul, Int.reduceLT, Int.reduceLE, Int.reduceNeg, Int.reduceEq, Int.reduceToNat, Nat.reduceLT, Nat.reduceMul, Nat.reduceSub, Nat.reduceBEq, Nat.reduceLeDiff, xw0, eApp, rowOf, appRow, lkL, lkN, eMupd, vLook, mapSh, findE, putE, keqL, hasSh, fits, shb, Int.reduceBEq, eMksl, vSlc, boundsOf, boundOf, cleanL, Nat.reduceGT, Int.reduceGT, Int.reduceGE, Int.reduceDiv, Int.reduceTDiv, vAidx, rdc, q41.n5_w, q41.ret, hu]
  exact hK
theorem PlanA (hk : 3000 ≤ k) (hK : ∀ L n, SI (H ++ L) n [2, 0, 1] → K (.tup [n, iv 0]) ⟨H ++ L, true⟩) : VC ⟨prog, k, b⟩ F_q17 [vA, iv 1] ⟨H, lk⟩ K := by
  obtain ⟨k, rfl⟩ : ∃ j, k = j + 1 := ⟨k - 1, by omega⟩
  apply q17.enter
  have hjb : (decide (jA.length ≤ 200) && jA.all jobOk) = true := by decide
  have h11 : ((1 : Int) ≤ 1 ∧ (1 : Int) ≤ 8) = True := by simp
  have hask := fun (H' : List AObj) (K : AV → St → Prop) => asked_s (K := K) (k := k) (b := some H.length) (lk := false) (by omega) (H := H') vA_sl (c := 1) (by decide)
  simp -implicitDefEqProofs only [hjb, if_true, h11] at hask
  have hmk : ∀ (H' : List AObj), eMksl ⟨H', false⟩ 1 8 [iv 0] (iv 3) (iv 3) = some (.sref H'.length 0 3 (3 * 1) 1, ⟨H' ++ [.cells [iv 0, iv 0, iv 0]], false⟩) := fun H' => by simp [eMksl, push]
  simp -implicitDefEqProofs only [q17.n0_w, sw0, sw1, sw2, sw3, sw4, sw5, reduceCtorEq, Nat.reduceEqDiff, Nat.reduceAdd, Nat.reduceDiv, Nat.reduceLeDiff, dw0, Int.reduceAdd, Int.reduceSub, Int.reduceMul, Int.reduceLT, Int.reduceLE, Int.reduceNeg, Int.reduceEq, Int.reduceToNat, Nat.reduceLT, Nat.reduceMul, Nat.reduceSub, Nat.reduceBEq, Nat.reduceLeDiff, hask, q17.n2_w, hmk]
  obtain ⟨k1, hk1⟩ : ∃ j, k = j + 1 := ⟨k - 1, by omega⟩
  have hsl := fun (H' : List AObj) (K : AV → St → Prop) (b : Option Nat) (hK) => @slotsA k1 b H' K (by omega) hK
  rw [← hk1] at hsl
  refine hsl _ _ _ ?_
  simp -implicitDefEqProofs only [sw0, sw1, sw2, sw3, sw4, sw5, reduceCtorEq, Nat.reduceEqDiff, Nat.reduceAdd, Nat.reduceDiv, Nat.reduceLeDiff, dw0, Int.reduceAdd, Int.reduceSub, Int.reduceMul, Int.reduceLT, Int.reduceLE, Int.reduceNeg, Int.reduceEq, Int.reduceToNat, Nat.reduceLT, Nat.reduceMul, Nat.reduceSub, Nat.reduceBEq, Nat.reduceLeDiff, xw0, eApp, rowOf, appRow, lkL, lkN, eMupd, vLook, mapSh, findE, putE, keqL, hasSh, fits, shb, Int.reduceBEq, eMksl, vSlc, boundsOf, boundOf, cleanL, Nat.reduceGT, Int.reduceGT, Int.reduceGE, Int.reduceDiv, Int.reduceTDiv, vAidx, rdc]
  refine WC_rf (f := F_q42) (caps := [.ptr (H.length + 8) 0 1]) rfl ?_
  obtain ⟨k', hk'⟩ : ∃ j, k = j + 2 := ⟨k - 2, by omega⟩
  simp -implicitDefEqProofs only [sw0, sw1, sw2, sw3, sw4, sw5, reduceCtorEq, Nat.reduceEqDiff, Nat.reduceAdd, Nat.reduceDiv, Nat.reduceLeDiff, dw0, Int.reduceAdd, Int.reduceSub, Int.reduceMul, Int.reduceLT, Int.reduceLE, Int.reduceNeg, Int.reduceEq, Int.reduceToNat, Nat.reduceLT, Nat.reduceMul, Nat.reduceSub, Nat.reduceBEq, Nat.reduceLeDiff, xw0, eApp, rowOf, appRow, lkL, lkN, eMupd, vLook, mapSh, findE, putE, keqL, hasSh, fits, shb, Int.reduceBEq, eMksl, vSlc, boundsOf, boundOf, cleanL, Nat.reduceGT, Int.reduceGT, Int.reduceGE, Int.reduceDiv, Int.reduceTDiv, vAidx, rdc]
  have hrun := fun (K : AV → St → Prop) (b : Option Nat) => @runA k' b H false K (by omega)
  rw [← hk'] at hrun
  refine hrun _ _ ?_
  simp -implicitDefEqProofs only [RF, sw0, sw1, sw2, sw3, sw4, sw5, reduceCtorEq, Nat.reduceEqDiff, Nat.reduceAdd, Nat.reduceDiv, Nat.reduceLeDiff, dw0, Int.reduceAdd, Int.reduceSub, Int.reduceMul, Int.reduceLT, Int.reduceLE, Int.reduceNeg, Int.reduceEq, Int.reduceToNat, Nat.reduceLT, Nat.reduceMul, Nat.reduceSub, Nat.reduceBEq, Nat.reduceLeDiff, xw0, eApp, rowOf, appRow, lkL, lkN, eMupd, vLook, mapSh, findE, putE, keqL, hasSh, fits, shb, Int.reduceBEq, eMksl, vSlc, boundsOf, boundOf, cleanL, Nat.reduceGT, Int.reduceGT, Int.reduceGE, Int.reduceDiv, Int.reduceTDiv, vAidx, rdc, q17.n18_w, q17.n20_w]
  simp -implicitDefEqProofs only [RK_r, q17.res, resultsOf, resultOf, sw0, sw1, sw2, sw3, sw4, sw5, reduceCtorEq, Nat.reduceEqDiff, Nat.reduceAdd, Nat.reduceDiv, Nat.reduceLeDiff, dw0, Int.reduceAdd, Int.reduceSub, Int.reduceMul, Int.reduceLT, Int.reduceLE, Int.reduceNeg, Int.reduceEq, Int.reduceToNat, Nat.reduceLT, Nat.reduceMul, Nat.reduceSub, Nat.reduceBEq, Nat.reduceLeDiff, xw0, eApp, rowOf, appRow, lkL, lkN, eMupd, vLook, mapSh, findE, putE, keqL, hasSh, fits, shb, Int.reduceBEq, eMksl, vSlc, boundsOf, boundOf, cleanL, Nat.reduceGT, Int.reduceGT, Int.reduceGE, Int.reduceDiv, Int.reduceTDiv, vAidx, rdc]
  refine hK _ _ ⟨Nat.one_pos, ic_len, .inr ⟨H.length + 4, 0, 3, [iv 2, iv 0, iv 1], rfl, by simp -implicitDefEqProofs only [sw0, sw1, sw2, sw3, sw4, sw5, reduceCtorEq, Nat.reduceEqDiff, Nat.reduceAdd, Nat.reduceDiv, Nat.reduceLeDiff, dw0, Int.reduceAdd, Int.reduceSub, Int.reduceMul, Int.reduceLT, Int.reduceLE, Int.reduceNeg, Int.reduceEq, Int.reduceToNat, Nat.reduceLT, Nat.reduceMul, Nat.reduceSub, Nat.reduceBEq, Nat.reduceLeDiff, xw0, eApp, rowOf, appRow, lkL, lkN, eMupd, vLook, mapSh, findE, putE, keqL, hasSh, fits, shb, Int.reduceBEq, eMksl, vSlc, boundsOf, boundOf, cleanL, Nat.reduceGT, Int.reduceGT, Int.reduceGE, Int.reduceDiv, Int.reduceTDiv, vAidx, rdc], rfl⟩⟩
end Go.Proofs.YtcebebhaahpoiaaDoor
end
section
namespace Go.Proofs.YtcebebhaahpoiaaDoor
open Go Go.Ai Go.W
attribute [local irreducible] VC YC WC
set_option linter.unusedSimpArgs false
set_option linter.unusedVariables false
set_option maxRecDepth 10000
variable {k : Nat} {b : Option Nat} {H : List AObj} {lk : Bool} {K : AV → St → Prop}
theorem eqs_kc {p q : Int × Int} : vEqs true (.sh (.mk true [.int .i64, .int .i64])) (.agg (kc p)) (.agg (kc q)) = some (.bool (!decide (p = q))) := by
  show vEqs true (.sh (.mk true [.int .i64, .int .i64])) (ev2 p) (ev2 q) = _
  simp -implicitDefEqProofs only [vEqs, evEq, key_iv2.sh, key_iv2.keq, Bool.and_self, if_true, Option.bind_some]
theorem SamePairs_s (hk : 1005 ≤ k) {v w : AV} {xs ys : List (Int × Int)} (hs : Sl H 2 kc v xs) (ht : Sl H 2 kc w ys) (hl : xs.length ≤ 1000) : VC ⟨prog, k, b⟩ F_q50 [v, w] ⟨H, lk⟩ K = K (.bool (decide (xs = ys))) ⟨H, lk⟩ := by
  obtain ⟨k, rfl⟩ : ∃ j, k = j + 1 := ⟨k - 1, by omega⟩
  apply VC_iff
  apply q50.enter
  simp -implicitDefEqProofs only [q50.n0_w, sw0, sw1, sw2, sw3, sw4, sw5, reduceCtorEq, Nat.reduceEqDiff, Nat.reduceAdd, Nat.reduceDiv, Nat.reduceLeDiff, hs.len, ht.len]
  split
  · rename_i hne
    have : xs ≠ ys := fun e => hne (by rw [e])
    simp -implicitDefEqProofs only [q50.n1_w, sw0, sw1, sw2, sw3, sw4, sw5, reduceCtorEq, Nat.reduceEqDiff, Nat.reduceAdd, Nat.reduceDiv, Nat.reduceLeDiff, q50.ret, decide_eq_false this]
  · rename_i heq
    have hlen : xs.length = ys.length := by omega
    simp -implicitDefEqProofs only [q50.n2_w, sw0, sw1, sw2, sw3, sw4, sw5, reduceCtorEq, Nat.reduceEqDiff, Nat.reduceAdd, Nat.reduceDiv, Nat.reduceLeDiff]
    refine q50.n3_l (fun m r3 s => ∃ i : Nat, r3 = iv i ∧ s = ⟨H, false⟩ ∧ m = xs.length - i ∧ i ≤ xs.length ∧ ∀ j (h : j < xs.length) (h' : j < ys.length), j < i → xs[j] = ys[j]) xs.length (by simp -implicitDefEqProofs only []; omega) ⟨0, rfl, rfl, by omega, by omega, fun j _ _ h => by omega⟩ ?_
    rintro m r2 r3 r4 r5 s ⟨i, rfl, rfl, rfl, hi, hno⟩
    simp -implicitDefEqProofs only [q50.n4_w, sw0, sw1, sw2, sw3, sw4, sw5, reduceCtorEq, Nat.reduceEqDiff, Nat.reduceAdd, Nat.reduceDiv, Nat.reduceLeDiff, hs.len]
    split
    · rename_i hlt
      have hlt : i < xs.length := by omega
      have hlt' : i < ys.length := by omega
      simp -implicitDefEqProofs only [q50.n6_w, sw0, sw1, sw2, sw3, sw4, sw5, reduceCtorEq, Nat.reduceEqDiff, Nat.reduceAdd, Nat.reduceDiv, Nat.reduceLeDiff, hs.at, ht.at, hlt, hlt', hs.lda hlt, ht.lda hlt', eqs_kc]
      split
      · rename_i hne
        have : xs ≠ ys := fun e => hne (by subst e; rfl)
        simp -implicitDefEqProofs only [q50.n7_w, sw0, sw1, sw2, sw3, sw4, sw5, reduceCtorEq, Nat.reduceEqDiff, Nat.reduceAdd, Nat.reduceDiv, Nat.reduceLeDiff, q50.ret, decide_eq_false this]
      · rename_i he
        simp -implicitDefEqProofs only [q50.n8_w, sw0, sw1, sw2, sw3, sw4, sw5, reduceCtorEq, Nat.reduceEqDiff, Nat.reduceAdd, Nat.reduceDiv, Nat.reduceLeDiff]
        refine q50.n3_go (m' := xs.length - (i + 1)) (by omega) ⟨i + 1, by rw [wrap64 (by omega)]; rfl, rfl, rfl, by omega, ?_⟩
        intro j h h' hj
        by_cases hji : j = i
        · subst hji; simpa using he
        · exact hno j h h' (by omega)
    · rename_i hge
      have : xs = ys := List.ext_getElem hlen fun j h h' => hno j h h' (by omega)
      simp -implicitDefEqProofs only [q50.n9_w, sw0, sw1, sw2, sw3, sw4, sw5, reduceCtorEq, Nat.reduceEqDiff, Nat.reduceAdd, Nat.reduceDiv, Nat.reduceLeDiff, q50.ret, decide_eq_true this]
def plA : Plt := { heat := 5, low := 0, high := 10, loads := [4, 4, 4], prices := [1, 3, 1], machs := [⟨6, 2, 1⟩] }
abbrev csA : List AV := [iv 5, iv 0, iv 10, .slice true 1 [[iv 4], [iv 4], [iv 4]], .slice true 1 [[iv 1], [iv 3], [iv 1]], .slice true 3 [[iv 6, iv 2, iv 1]]]
theorem plA_pv : PV H csA plA := ⟨_, _, _, rfl, Sl.lit Nat.one_pos ic_len rfl, Sl.lit Nat.one_pos ic_len rfl, Sl.lit (by omega) (fun _ => rfl) rfl⟩
theorem plA_cool : plA.cool = [.slice false 1 [[iv 1], [iv 0], [iv 1]], iv 6, iv 0] := by rfl
theorem plA_sched : plA.sched [1, 0, 1] = true := by rfl
def msA : List (Int × Int) := [(0, 0), (10, 0), (11, 0), (1, 0)]
theorem msA_ans : matchAns msA = [.slice false 2 [[iv 0, iv 3], [iv 1, iv 2]], iv 2, iv 0] := by rfl
theorem nxA : nextAns 2 [(.slice true 1 [[iv 0], [iv 1]], [0, 1])] = [.slice false 1 [[iv 1], [iv 0]], iv 0] := by rfl
theorem awake_s (hk : 16 ^ 53 ≤ k) (hK : ∀ s, K (.bool true) s) : VC ⟨prog, k, b⟩ F_q2 [] ⟨H, lk⟩ K := by
  have e53 : (16 : Nat) ^ 53 = 6582018229284824168619876730229402019930943462534319453394436096 := by decide
  have e52 : (16 : Nat) ^ 52 = 411376139330301510538742295639337626245683966408394965837152256 := by decide
  obtain ⟨k, rfl⟩ : ∃ j, k = j + 1 := ⟨k - 1, by omega⟩
  apply q2.enter
  have hp : PV (H ++ [.cells csA]) csA plA := plA_pv
  have hcool := fun (K : AV → St → Prop) => Cool_s (K := K) (k := k) (b := some H.length) (lk := false) (by omega) hp (by decide)
  rw [plA_cool] at hcool
  have hS : SI (H ++ [.cells csA]) (.slice true 1 [[iv 1], [iv 0], [iv 1]]) [1, 0, 1] := Sl.lit Nat.one_pos ic_len rfl
  have hheats := fun (K : AV → St → Prop) => Heats_s (K := K) (k := k) (b := some H.length) (lk := false) (by omega) hp hS (by decide) (by decide)
  have e1 : heatsFrom plA 0 plA.heat [1, 0, 1] = [3, 7, 5] := by rfl
  rw [if_pos plA_sched, e1] at hheats
  simp -implicitDefEqProofs only [List.map_cons, List.map_nil, ic] at hheats
  simp -implicitDefEqProofs only [q2.n0_w, sw0, sw1, sw2, sw3, sw4, sw5, reduceCtorEq, Nat.reduceEqDiff, Nat.reduceAdd, Nat.reduceDiv, Nat.reduceLeDiff, hcool, hheats]
  refine PlanA (by omega) ?_
  intro L n hn
  simp -implicitDefEqProofs only [sw0, sw1, sw2, sw3, sw4, sw5, reduceCtorEq, Nat.reduceEqDiff, Nat.reduceAdd, Nat.reduceDiv, Nat.reduceLeDiff]
  refine PlanB (by omega) ?_
  intro L2
  simp -implicitDefEqProofs only [sw0, sw1, sw2, sw3, sw4, sw5, reduceCtorEq, Nat.reduceEqDiff, Nat.reduceAdd, Nat.reduceDiv, Nat.reduceLeDiff, CrowdB (k := k) (by omega)]
  obtain ⟨G, hG⟩ : ∃ G, G = H ++ AObj.cells csA :: (L ++ L2) := ⟨_, rfl⟩
  have hn' : SI G n [2, 0, 1] := by
    have := hn.app (L := L2)
    rw [hG]
    simpa using this
  rw [← hG]
  have hm := fun (K : AV → St → Prop) => Match_s (K := K) (k := k) (b := some H.length) (lk := true) (H := G) (by omega) (show Sl G 2 kc (.slice true 2 [[iv 0, iv 0], [iv 10, iv 0], [iv 11, iv 0], [iv 1, iv 0]]) msA from Sl.lit (by omega) kc_len rfl) (by decide)
  rw [msA_ans] at hm
  have hx := fun (K : AV → St → Prop) => Next_s (K := K) (k := k) (b := some H.length) (lk := true) (H := G) (n := 2) (by omega) (show RD G (.slice true 1 [[.slice true 1 [[iv 0], [iv 1]]]]) [(.slice true 1 [[iv 0], [iv 1]], [0, 1])] from ⟨Sl.lit Nat.one_pos rc_len rfl, fun q hq => by simp -implicitDefEqProofs only [List.mem_singleton] at hq; subst hq; exact Sl.lit Nat.one_pos ic_len rfl⟩) (by decide) (by decide)
  rw [nxA] at hx
  have hI : ∀ {v w : AV} {xs : List Int}, SI G v xs → SI G w xs → xs.length ≤ 1000 → ∀ (K : AV → St → Prop), VC ⟨prog, k, some H.length⟩ F_q45 [v, w] ⟨G, true⟩ K = K (.bool true) ⟨G, true⟩ := fun h1 h2 h3 K => by
    rw [r02_Ints_s (k := k) (by omega) h1 h2 h3, decide_eq_true rfl]
  have hV : ∀ (f : Bool) (xs : List Int), SI G (.slice f 1 (xs.map ic)) xs := fun f xs => Sl.val Nat.one_pos ic_len
  have i1 := hI (hV false [1, 0, 1]) (hV true [1, 0, 1]) (by decide)
  have i2 := hI (hV false [3, 7, 5]) (hV true [3, 7, 5]) (by decide)
  have i3 := hI hn' (hV true [2, 0, 1]) (by decide)
  have i4 := hI (hV false [1, 0]) (hV true [1, 0]) (by decide)
  have hsp := fun (K : AV → St → Prop) => SamePairs_s (K := K) (k := k) (b := some H.length) (lk := true) (H := G) (v := .slice false 2 [[iv 0, iv 3], [iv 1, iv 2]]) (w := .slice true 2 [[iv 0, iv 3], [iv 1, iv 2]]) (xs := [(0, 3), (1, 2)]) (ys := [(0, 3), (1, 2)]) (by omega) (Sl.lit (by omega) kc_len rfl) (Sl.lit (by omega) kc_len rfl) (by decide)
  rw [decide_eq_true rfl] at hsp
  simp -implicitDefEqProofs only [List.map_cons, List.map_nil, ic] at i1 i2 i3 i4
  simp -implicitDefEqProofs only [sw0, sw1, sw2, sw3, sw4, sw5, reduceCtorEq, Nat.reduceEqDiff, Nat.reduceAdd, Nat.reduceDiv, Nat.reduceLeDiff, hm, hx, i1, i2, i3, i4, hsp, q2.ret, lv_t]
  exact hK _
end Go.Proofs.YtcebebhaahpoiaaDoor
end
section
namespace Go.Proofs.YtcebebhaahpoiaaDoor
open Go Go.Ai Go.W
attribute [local irreducible] VC YC WC
set_option linter.unusedSimpArgs false
set_option linter.unusedVariables false
set_option maxRecDepth 10000
variable {k : Nat} {b : Option Nat} {H : List AObj} {lk : Bool} {K : AV → St → Prop}
theorem eqs_b {s t : Bool} : vEqs false .bool (.bool s) (.bool t) = some (.bool (s == t)) := by rfl
theorem Ints_u3 {k : Nat} {b : Option Nat} {ρ s Q} : WC ⟨prog, k, b⟩ q45.n3 ρ s Q = wLoop (WC ⟨prog, k, b⟩ q45.n4) k ρ s Q := WC_lp
theorem Ints_nil (hk : 10 ≤ k) {f g : Bool} {y z : Nat} : VC ⟨prog, k, b⟩ F_q45 [.slice f y [], .slice g z []] ⟨H, lk⟩ K = K (.bool true) ⟨H, lk⟩ := by
  obtain ⟨k, rfl⟩ : ∃ j, k = j + 1 := ⟨k - 1, by omega⟩
  apply VC_iff
  apply q45.enter
  simp -implicitDefEqProofs only [q45.n0_w, sw0, sw1, sw2, sw3, sw4, sw5, reduceCtorEq, Nat.reduceEqDiff, Nat.reduceAdd, Nat.reduceDiv, Nat.reduceLeDiff, dw0, Int.reduceAdd, Int.reduceSub, Int.reduceMul, Int.reduceLT, Int.reduceLE, Int.reduceNeg, Int.reduceEq, Int.reduceToNat, Nat.reduceLT, Nat.reduceMul, Nat.reduceSub, Nat.reduceBEq, Nat.reduceLeDiff, xw0, eApp, rowOf, appRow, lkL, lkN, eMupd, vLook, mapSh, findE, putE, keqL, hasSh, fits, shb, Int.reduceBEq, eMksl, vSlc, boundsOf, boundOf, cleanL, Nat.reduceGT, Int.reduceGT, Int.reduceGE, Int.reduceDiv, Int.reduceTDiv, vAidx, rdc, q45.n2_w, Ints_u3]
  rw [wl_1 (by omega)]
  simp -implicitDefEqProofs only [q45.n4_w, sw0, sw1, sw2, sw3, sw4, sw5, reduceCtorEq, Nat.reduceEqDiff, Nat.reduceAdd, Nat.reduceDiv, Nat.reduceLeDiff, dw0, Int.reduceAdd, Int.reduceSub, Int.reduceMul, Int.reduceLT, Int.reduceLE, Int.reduceNeg, Int.reduceEq, Int.reduceToNat, Nat.reduceLT, Nat.reduceMul, Nat.reduceSub, Nat.reduceBEq, Nat.reduceLeDiff, xw0, eApp, rowOf, appRow, lkL, lkN, eMupd, vLook, mapSh, findE, putE, keqL, hasSh, fits, shb, Int.reduceBEq, eMksl, vSlc, boundsOf, boundOf, cleanL, Nat.reduceGT, Int.reduceGT, Int.reduceGE, Int.reduceDiv, Int.reduceTDiv, vAidx, rdc, q45.n9_w, q45.ret]
theorem PlantHeats_s (hk : 16 ^ 54 ≤ k) {cs : List AV} {v : AV} {p : Plt} {l : List Int} (hp : PV H cs p) (hs : SI H v l) (hK : ∀ s, K (.bool true) s) : VC ⟨prog, k, b⟩ F_q1 [.agg cs, v] ⟨H, lk⟩ K := by
  have e54 : (16 : Nat) ^ 54 = 105312291668557186697918027683670432318895095400549111254310977536 := by decide
  have e53 : (16 : Nat) ^ 53 = 6582018229284824168619876730229402019930943462534319453394436096 := by decide
  obtain ⟨k, rfl⟩ : ∃ j, k = j + 1 := ⟨k - 1, by omega⟩
  have hp' := hp
  obtain ⟨vl, vp, vm, rfl, h1, h2, h3⟩ := hp'.how
  apply q1.enter
  have hpa := hp.app (L := [.cells [iv p.heat, iv p.low, iv p.high, vl, vp, vm]])
  have hsa := hs.app (L := [.cells [iv p.heat, iv p.low, iv p.high, vl, vp, vm]])
  by_cases c1 : (60 : Int) < p.loads.length
  · simp -implicitDefEqProofs only [q1.n0_w, sw0, sw1, sw2, sw3, sw4, sw5, reduceCtorEq, Nat.reduceEqDiff, Nat.reduceAdd, Nat.reduceDiv, Nat.reduceLeDiff, h1.one, h2.one, h3.one, h1.len, eq_true c1, q1.n1_w]
    refine awake_s (by omega) fun s => ?_
    obtain ⟨G, g⟩ := s
    cases g <;> simp -implicitDefEqProofs only [sw0, sw1, sw2, sw3, sw4, sw5, reduceCtorEq, Nat.reduceEqDiff, Nat.reduceAdd, Nat.reduceDiv, Nat.reduceLeDiff, q1.ret, lv_t, hK]
  by_cases c2 : (60 : Int) < p.prices.length
  · simp -implicitDefEqProofs only [q1.n0_w, sw0, sw1, sw2, sw3, sw4, sw5, reduceCtorEq, Nat.reduceEqDiff, Nat.reduceAdd, Nat.reduceDiv, Nat.reduceLeDiff, h1.one, h2.one, h3.one, h1.len, h2.len, eq_false c1, eq_true c2, q1.n1_w]
    refine awake_s (by omega) fun s => ?_
    obtain ⟨G, g⟩ := s
    cases g <;> simp -implicitDefEqProofs only [sw0, sw1, sw2, sw3, sw4, sw5, reduceCtorEq, Nat.reduceEqDiff, Nat.reduceAdd, Nat.reduceDiv, Nat.reduceLeDiff, q1.ret, lv_t, hK]
  by_cases c3 : (6 : Int) < p.machs.length
  · simp -implicitDefEqProofs only [q1.n0_w, sw0, sw1, sw2, sw3, sw4, sw5, reduceCtorEq, Nat.reduceEqDiff, Nat.reduceAdd, Nat.reduceDiv, Nat.reduceLeDiff, h1.one, h2.one, h3.one, h1.len, h2.len, h3.len, eq_false c1, eq_false c2, eq_true c3, q1.n1_w]
    refine awake_s (by omega) fun s => ?_
    obtain ⟨G, g⟩ := s
    cases g <;> simp -implicitDefEqProofs only [sw0, sw1, sw2, sw3, sw4, sw5, reduceCtorEq, Nat.reduceEqDiff, Nat.reduceAdd, Nat.reduceDiv, Nat.reduceLeDiff, q1.ret, lv_t, hK]
  by_cases c4 : (60 : Int) < l.length
  · simp -implicitDefEqProofs only [q1.n0_w, sw0, sw1, sw2, sw3, sw4, sw5, reduceCtorEq, Nat.reduceEqDiff, Nat.reduceAdd, Nat.reduceDiv, Nat.reduceLeDiff, h1.one, h2.one, h3.one, h1.len, h2.len, h3.len, hs.len, eq_false c1, eq_false c2, eq_false c3, eq_true c4, q1.n1_w]
    refine awake_s (by omega) fun s => ?_
    obtain ⟨G, g⟩ := s
    cases g <;> simp -implicitDefEqProofs only [sw0, sw1, sw2, sw3, sw4, sw5, reduceCtorEq, Nat.reduceEqDiff, Nat.reduceAdd, Nat.reduceDiv, Nat.reduceLeDiff, q1.ret, lv_t, hK]
  have hll : p.loads.length ≤ 1000 ∧ p.prices.length ≤ 1000 ∧ p.machs.length ≤ 60 := by omega
  have hll' : p.loads.length ≤ 1000 ∧ p.prices.length ≤ 1000 ∧ p.machs.length ≤ 1000 := by omega
  have a1 := fun (K : AV → St → Prop) => Heats_s (K := K) (k := k) (b := some H.length) (lk := false) (by omega) hpa hsa hll (by omega)
  have a2 := fun (K : AV → St → Prop) => r12_Heats_s (K := K) (k := k) (b := some H.length) (lk := false) (by omega) hpa hsa hll (by omega)
  have a3 := fun (K : AV → St → Prop) => Cost_s (K := K) (k := k) (b := some H.length) (lk := false) (by omega) hpa hsa hll (by omega)
  have a4 := fun (K : AV → St → Prop) => r12_Cost_s (K := K) (k := k) (b := some H.length) (lk := false) (by omega) hpa hsa hll (by omega)
  have a5 := fun (K : AV → St → Prop) => CheckPlant_s (K := K) (k := k) (b := some H.length) (lk := false) (by omega) hpa hll'
  have a6 := fun (K : AV → St → Prop) => r12_CheckPlant_s (K := K) (k := k) (b := some H.length) (lk := false) (by omega) hpa hll'
  have hlen : ∀ (l : List Int) (i : Nat) (t : Int), (heatsFrom p i t l).length = l.length := by
    intro l
    induction l with
    | nil => intro i t; rfl
    | cons a l ih => intro i t; simp [heatsFrom, ih]
  have hI : ∀ (f : Bool) (ys : List Int), ys.length ≤ 1000 → ∀ (K : AV → St → Prop), VC ⟨prog, k, some H.length⟩ F_q45 [.slice f 1 (ys.map ic), .slice f 1 (ys.map ic)] ⟨H ++ [.cells [iv p.heat, iv p.low, iv p.high, vl, vp, vm]], false⟩ K = K (.bool true) ⟨H ++ [.cells [iv p.heat, iv p.low, iv p.high, vl, vp, vm]], false⟩ := fun f ys h K => by
    rw [r02_Ints_s (k := k) (by omega) (Sl.val Nat.one_pos ic_len) (Sl.val Nat.one_pos ic_len) h, decide_eq_true rfl]
  have i1 := hI false (heatsFrom p 0 p.heat l) (by rw [hlen]; omega)
  have i2 := fun (K : AV → St → Prop) => Ints_nil (K := K) (k := k) (b := some H.length) (H := H ++ [.cells [iv p.heat, iv p.low, iv p.high, vl, vp, vm]]) (lk := false) (by omega) (f := true) (g := true) (y := 0) (z := 0)
  cases hsc : p.sched l
  · rw [hsc] at a1 a2 a3 a4
    simp -implicitDefEqProofs only [Bool.false_eq_true, if_false] at a1 a2 a3 a4
    simp -implicitDefEqProofs only [q1.n0_w, sw0, sw1, sw2, sw3, sw4, sw5, reduceCtorEq, Nat.reduceEqDiff, Nat.reduceAdd, Nat.reduceDiv, Nat.reduceLeDiff, h1.one, h2.one, h3.one, h1.len, h2.len, h3.len, hs.len, eq_false c1, eq_false c2, eq_false c3, eq_false c4, q1.n2_w, a1, a2, a3, a4, a5, a6, eqs_b, i2, beq_self_eq_true]
    refine awake_s (by omega) fun s => ?_
    obtain ⟨G, g⟩ := s
    cases g <;> simp -implicitDefEqProofs only [sw0, sw1, sw2, sw3, sw4, sw5, reduceCtorEq, Nat.reduceEqDiff, Nat.reduceAdd, Nat.reduceDiv, Nat.reduceLeDiff, q1.ret, lv_t, hK]
  · rw [hsc] at a1 a2 a3 a4
    simp -implicitDefEqProofs only [if_true] at a1 a2 a3 a4
    simp -implicitDefEqProofs only [q1.n0_w, sw0, sw1, sw2, sw3, sw4, sw5, reduceCtorEq, Nat.reduceEqDiff, Nat.reduceAdd, Nat.reduceDiv, Nat.reduceLeDiff, h1.one, h2.one, h3.one, h1.len, h2.len, h3.len, hs.len, eq_false c1, eq_false c2, eq_false c3, eq_false c4, q1.n2_w, a1, a2, a3, a4, a5, a6, eqs_b, i1, beq_self_eq_true]
    refine awake_s (by omega) fun s => ?_
    obtain ⟨G, g⟩ := s
    cases g <;> simp -implicitDefEqProofs only [sw0, sw1, sw2, sw3, sw4, sw5, reduceCtorEq, Nat.reduceEqDiff, Nat.reduceAdd, Nat.reduceDiv, Nat.reduceLeDiff, q1.ret, lv_t, hK]
end Go.Proofs.YtcebebhaahpoiaaDoor
end
section
namespace Go.Proofs.YtcebebhaahpoiaaDoor
open Go Go.Ai Go.W
attribute [local irreducible] VC YC WC
set_option linter.unusedVariables false
set_option maxRecDepth 100000
theorem c3 : Tryd.prog.cellsOf 3 = 1 := by kernel_rfl
theorem wt_ints {d : Nat} {es : List (List AV)} (h : ∀ l, l ∈ es → l.length = Tryd.prog.cellsOf 3 ∧ Wt Tryd.prog (d + 1) 3 l) : ∃ xs : List Int, es = xs.map ic := by
  induction es with
  | nil => exact ⟨[], rfl⟩
  | cons e es ih =>
    obtain ⟨xs, rfl⟩ := ih fun l hl => h l (by simp [hl])
    have h1 := (h e (by simp)).2
    unfold Wt at h1
    rw [Tryd.underlying3] at h1
    obtain ⟨n, rfl, _⟩ := h1
    exact ⟨n :: xs, rfl⟩
theorem wt_int {d : Nat} {xs : List AV} (h : Wt Tryd.prog (d + 1) 3 xs) : ∃ n, xs = [iv n] := by
  unfold Wt at h
  rw [Tryd.underlying3] at h
  obtain ⟨n, rfl, _⟩ := h
  exact ⟨n, rfl⟩
theorem wt_22 {d : Nat} {xs : List AV} (h : Wt Tryd.prog (d + 2) 22 xs) : ∃ l : List Int, xs = [.slice false 1 (l.map ic)] := by
  unfold Wt at h
  rw [Tryd.underlying22] at h
  obtain ⟨es, rfl, _, h2⟩ := h
  obtain ⟨l, rfl⟩ := wt_ints h2
  exact ⟨l, by rw [c3]⟩
theorem c35 : Tryd.prog.cellsOf 35 = 3 := by kernel_rfl
theorem len3 {xs : List AV} (h : xs.length = 3) : ∃ a b c, xs = [a, b, c] := by
  match xs, h with
  | [a, b, c], _ => exact ⟨a, b, c, rfl⟩
theorem len6 {xs : List AV} (h : xs.length = 6) : ∃ a b c d e f, xs = [a, b, c, d, e, f] := by
  match xs, h with
  | [a, b, c, d, e, f], _ => exact ⟨a, b, c, d, e, f, rfl⟩
theorem wt_35 {d : Nat} {xs : List AV} (hl : xs.length = 3) (h : Wt Tryd.prog (d + 2) 35 xs) : ∃ m : Mach, xs = mc m := by
  unfold Wt at h
  rw [Tryd.underlying35] at h
  obtain ⟨a, b, c, rfl⟩ := len3 hl
  obtain ⟨_, hf⟩ := h
  have f0 := hf _ (.head _)
  have f1 := hf _ (.tail _ (.head _))
  have f2 := hf _ (.tail _ (.tail _ (.head _)))
  simp -implicitDefEqProofs only [c3, List.drop_zero, List.drop_succ_cons, List.take_succ_cons, List.take_zero] at f0 f1 f2
  obtain ⟨x, hx⟩ := wt_int f0
  obtain ⟨y, hy⟩ := wt_int f1
  obtain ⟨z, hz⟩ := wt_int f2
  simp -implicitDefEqProofs only [List.cons.injEq, and_true] at hx hy hz
  exact ⟨⟨x, y, z⟩, by rw [hx, hy, hz]⟩
theorem wt_machs {d : Nat} {es : List (List AV)} (h : ∀ l, l ∈ es → l.length = Tryd.prog.cellsOf 35 ∧ Wt Tryd.prog (d + 2) 35 l) : ∃ ms : List Mach, es = ms.map mc := by
  induction es with
  | nil => exact ⟨[], rfl⟩
  | cons e es ih =>
    obtain ⟨ms, rfl⟩ := ih fun l hl => h l (by simp [hl])
    obtain ⟨h1, h2⟩ := h e (by simp)
    rw [c35] at h1
    obtain ⟨m, rfl⟩ := wt_35 h1 h2
    exact ⟨m :: ms, rfl⟩
theorem wt_23 {d : Nat} {xs : List AV} (h : Wt Tryd.prog (d + 3) 23 xs) : ∃ l : List Mach, xs = [.slice false 3 (l.map mc)] := by
  unfold Wt at h
  rw [Tryd.underlying23] at h
  obtain ⟨es, rfl, _, h2⟩ := h
  obtain ⟨l, rfl⟩ := wt_machs h2
  exact ⟨l, by rw [c35]⟩
theorem c22 : Tryd.prog.cellsOf 22 = 1 := by kernel_rfl
theorem c23 : Tryd.prog.cellsOf 23 = 1 := by kernel_rfl
theorem c25 : Tryd.prog.cellsOf 25 = 6 := by kernel_rfl
theorem wt_plant {d : Nat} {xs : List AV} (h : Wt Tryd.prog (d + 4) 25 xs) : ∃ p : Plt, ∀ H, PV H xs p := by
  unfold Wt at h
  rw [Tryd.underlying25] at h
  obtain ⟨hlen, hf⟩ := h
  rw [c25] at hlen
  obtain ⟨a, b, c, d, e, f, rfl⟩ := len6 hlen
  have f0 := hf _ (.head _)
  have f1 := hf _ (.tail _ (.head _))
  have f2 := hf _ (.tail _ (.tail _ (.head _)))
  have f3 := hf _ (.tail _ (.tail _ (.tail _ (.head _))))
  have f4 := hf _ (.tail _ (.tail _ (.tail _ (.tail _ (.head _)))))
  have f5 := hf _ (.tail _ (.tail _ (.tail _ (.tail _ (.tail _ (.head _))))))
  simp -implicitDefEqProofs only [c3, c22, c23, List.drop_zero, List.drop_succ_cons, List.take_succ_cons, List.take_zero] at f0 f1 f2 f3 f4 f5
  obtain ⟨x, hx⟩ := wt_int f0
  obtain ⟨y, hy⟩ := wt_int f1
  obtain ⟨z, hz⟩ := wt_int f2
  obtain ⟨l, hl⟩ := wt_22 f3
  obtain ⟨m, hm⟩ := wt_22 f4
  obtain ⟨n, hn⟩ := wt_23 f5
  simp -implicitDefEqProofs only [List.cons.injEq, and_true] at hx hy hz hl hm hn
  subst hx; subst hy; subst hz; subst hl; subst hm; subst hn
  exact ⟨⟨x, y, z, l, m, n⟩, fun H => ⟨_, _, _, rfl, Sl.val Nat.one_pos ic_len, Sl.val Nat.one_pos ic_len, Sl.val (by omega) (fun _ => rfl)⟩⟩
theorem agg25 : isAggT Tryd.prog 25 = some true := by kernel_rfl
theorem agg22 : isAggT Tryd.prog 22 = some false := by kernel_rfl
theorem arg_plant {x : AV} (h : Arg Tryd.prog 8 25 x) : ∃ cs, ∃ p : Plt, x = .agg cs ∧ ∀ H, PV H cs p := by
  obtain ⟨h1, h2, _⟩ := h
  obtain ⟨cs, rfl⟩ := h2 agg25
  obtain ⟨p, hp⟩ := wt_plant (d := 4) h1
  exact ⟨cs, p, rfl, hp⟩
theorem arg_ints {x : AV} (h : Arg Tryd.prog 8 22 x) : ∃ l : List Int, ∀ H, SI H x l := by
  obtain ⟨h1, _, h3⟩ := h
  obtain ⟨l, hl⟩ := wt_22 (d := 6) h1
  have : x = .slice false 1 (l.map ic) := by
    cases x <;> first | exact absurd rfl (h3 agg22 _) | exact (List.cons.inj hl).1
  exact ⟨l, fun H => by rw [this]; exact Sl.val Nat.one_pos ic_len⟩
theorem heats_law (xs : List AV) (hl : xs.length = Tryd.f9.params.toList.length) (hx : ∀ (j : Nat) t x, Tryd.f9.params.toList[j]? = some t → xs[j]? = some x → Arg Tryd.prog 8 t x) :
    ∃ k, (ev prog k (.fn 9) xs ⟨[], false⟩).All fun p => p.1 = .val (.bool true) := by
  have hl2 : xs.length = 2 := hl
  match xs, hl2 with
  | [a, b], _ =>
    obtain ⟨cs, p, rfl, hp⟩ := arg_plant (hx 0 25 a rfl rfl)
    obtain ⟨l, hs⟩ := arg_ints (hx 1 22 b rfl rfl)
    refine ⟨16 ^ 54, ?_⟩
    have h := PlantHeats_s (k := 16 ^ 54) (b := none) (H := []) (lk := false) (K := fun v _ => v = .bool true) (Nat.le_refl _) (hp []) (hs []) (fun _ => rfl)
    unfold VC at h
    refine Res.All.mono (fun r hr => ?_) h
    obtain ⟨v, s⟩ := r
    cases v with
    | val v => exact congrArg _ hr
    | panic v => exact hr.elim
end Go.Proofs.YtcebebhaahpoiaaDoor
end
section
namespace Go.Proofs.YtcebebhaahpoiaaDoor
open Go Go.Ai Go.W Go.RowKit Go.ChangeShapes Go.WideShapes Go.ChangeAt Go.Lib
set_option maxRecDepth 100000
theorem heats_lifted (os : Os) (started : os.Started) (X : Type) (enc : TypeId × Value → X) :
    ReturnsInHanded {} Tryd.checked os 9 .any (fun w args => (Rows.plantHeatsSpec.pre enc Tryd.prog Tryd.f9 [] false w args ∧ laidMetH Tryd.prog laidL w) ∧ sizedMet enc Tryd.prog Tryd.f9 (OpenSpec.ofChange Rows.plantHeatsSpec) false w args)
      (Rows.plantHeatsSpec.post enc Tryd.prog Tryd.f9 false true false false) := by
  refine returnsInHanded_of_change_and (C := Tryd.checked) (X := fun w _ => laidMetH Tryd.prog laidL w) (fun _ _ _ hh h => h.of_heap hh) own started (by kernel_rfl) Tryd.func9
    (ChangeSpec.witness_shaped (enc := enc) (C := Tryd.checked) (os := os) (X := fun w _ => laidMetH Tryd.prog laidL w) false (World.laidAll Tryd.prog os laidL) #[.agg #[.int .i64 0, .int .i64 0, .int .i64 0, .slice none 0 0, .slice none 0 0, .slice none 0 0], .slice none 0 0] 8 (World.laidAll_os _ _ _)
      (World.shaped_of_ZipB (by kernel_rfl) (by kernel_rfl)) (by kernel_rfl) (by kernel_rfl) (by kernel_rfl)
      (by rw [MakeChecks.laidMetH_plain _ _ _ (by kernel_rfl)]; exact laidMet_laidAll _ (by kernel_rfl) (by kernel_rfl))) ?_
  intro W base args ds gs before hval0 hW _ _ hL _
  have hval : ∀ (j : Nat) t v, Tryd.f9.params.toList[j]? = some t → args.toList[j]? = some v → Value.okWide Tryd.prog W .any base t v := fun j t v h1 h2 => hval0 j t v (by simpa using h1) (by simpa using h2)
  have hW' := hW
  obtain ⟨p, q, hA0, hV, rfl, _, _⟩ := hW
  have hA : DataW.TrodAll enc Tryd.prog W 0 (fun _ => true) true Tryd.f9.params.toList args.toList ds p := hA0
  obtain ⟨rfl, rfl⟩ := trodVars_none hV
  rw [MakeChecks.laidMetH_plain _ _ _ (by kernel_rfl)] at hL
  obtain ⟨o, ho, hTab⟩ := tab_of_laid hL
  have hpl : (Tryd.f9.params.toList.all fun t => plainT Tryd.prog 8 t) = true := by kernel_rfl
  obtain ⟨xs, hLR, hxl, hxa⟩ := read_args (d := 8) hA hval (fun t ht => List.all_eq_true.1 hpl t ht)
  obtain ⟨k, hk⟩ := heats_law xs hxl hxa
  have hrd : (Tryd.f9.params.toList.all fun t => Tryd.prog.readableRec t && decide (t < Tryd.prog.types.size)) = true := by kernel_rfl
  have hlen : ds.length = 2 := (trodAll_len hA).trans (by kernel_rfl)
  have hcall := law_call (progOK hTab) mixedP k 9 W args.toList xs hLR (fun p hp => by simp -implicitDefEqProofs only [List.mem_singleton] at hp; subst hp; exact ho) hk
  refine hcall.mono fun e W' ⟨he, hb⟩ => ⟨_, he, ?_⟩
  refine post_of_law laidOutP (fun t ht => by have := List.all_eq_true.1 hrd t ht; simp -implicitDefEqProofs only [Bool.and_eq_true, decide_eq_true_eq] at this; exact this) (tb := 4) (by kernel_rfl) Tryd.underlying4 rfl hW' ?_ hb
  match ds, hlen with
  | [d1, d2], _ => exact ⟨rfl, rfl, rfl⟩
theorem heats_holds : Rows.PlantHeatsSaid :=
  OpenClaim.holds_of_wide 9 Tryd.f9 rfl rfl rfl rfl rfl rfl rfl ⟨rfl, rfl, rfl, rfl, rfl⟩ rfl rfl rfl rfl rfl (by kernel_rfl) Tryd.func9 (by kernel_rfl)
    (of_decide_eq_true (by kernel_rfl)) (by unfold Func.isWrapper; first | (rw [if_pos (by decide +kernel)]; kernel_rfl) | (rw [if_neg (by decide +kernel)]; exact ⟨rfl, rfl⟩))
    (fun os started H enc _ => heats_lifted os started H enc)
theorem heats_card : Rows.PlantHeatsCardSaid :=
  Claim7.holds_tied_plain_at .later [] [.data, .data] true (true, "98e795a669b5da70fd090277ed8c58b8aa4305f620608e823b1754817605947f") false heats_holds (fun _ h => by cases h) (by kernel_rfl) (fun _ h => by cases h) plantHeats_row_tie rfl ⟨rfl, rfl⟩ (by kernel_rfl) rfl
    (fun f fn hf hfn => by
      obtain rfl : f = 9 := Option.some.inj ((show Tryd.prog.funcNamed "besom/besomlaw12.PlantHeats" = some 9 by kernel_rfl).symm.trans hf) |>.symm
      obtain rfl : fn = Tryd.f9 := (Option.some.inj (Tryd.func9.symm.trans hfn)).symm
      exact ⟨by kernel_rfl, fun j t ht => by
        have hall : (Tryd.f9.params.toList.all fun u => !Tryd.prog.wantsStandIn u) = true := by kernel_rfl
        have hm : t ∈ Tryd.f9.params.toList := by simpa using Array.mem_of_getElem? ht
        exact (show Tryd.prog.wantsStandIn t = false by simpa using List.all_eq_true.1 hall t hm)⟩)
    (by kernel_rfl)
end Go.Proofs.YtcebebhaahpoiaaDoor
end
#print axioms Go.Proofs.YtcebebhaahpoiaaDoor.heats_card
