import PyProof.Rows.All
import Wide.All
import OpenK.AllK
import Wide.FinOn
import HandS.ForMost
import HandS.ForExc
import HandS.More
import HandS.Flow
import HandS.Style
import HandS.SetFor
import HandS.ExcIs
import HandS.ExcValue
import HandS.CallSlots
import HandS.Defaults
import HandS.Conv
import HandS.Zip
import HandS.IsInst
import HandS.Head0
import HandS.Head1
import HandS.Head2
import HandS.HeadEnd
import HandS.HeadHook1
import HandS.HeadHook2
import HandS.HeadHook3
import HandS.HeadHook4
import HandS.Flt
import HandS.Walk
import HandS.TupAny
import HandS.Deep
import HandS.Codes
import KE.KDictZip
import HandS.Iter
import PySem.Challenge.RW_tuneroad_k40_whole_woken
set_option Elab.async false
set_option linter.all false
set_option maxRecDepth 100000
set_option maxHeartbeats 4000000
/-! TR: the ledger W (what is tracked at which address, no address twice; the tuples of H0 stand), readings that stop the walk, steps over them. -/
namespace TR
open PySem L2
abbrev Ent := Addr × HO
def isTup : HO → Bool
  | .tup _ => true
  | _ => false
structure W (H0 H : Hp) (L : List Ent) : Prop where
  nd : (L.map (·.1)).Nodup
  is_ : ∀ x ∈ L, H x.1 = some x.2
  tp : ∀ a xs, H0 a = some (.tup xs) → H a = some (.tup xs)
section
variable {H0 H H1 H' : Hp} {L L' R : List Ent} {p q : Addr} {o o' : HO} {i j : Nat}
theorem W.get (w : W H0 H L) (i : Nat) (h : L[i]? = some (p, o)) : H p = some o := w.is_ (p, o) (List.mem_of_getElem? h)
theorem W.now (w : W H0 H L) : W H H L := ⟨w.nd, w.is_, fun _ _ e => e⟩
theorem W.tr (w : W H0 H L) (v : W H H' L') : W H0 H' L' := ⟨v.nd, v.is_, fun a xs e => v.tp a xs (w.tp a xs e)⟩
theorem nd_get {α : Type} {l : List α} (hN : l.Nodup) {i j : Nat} {x : α} (a : l[i]? = some x) (b : l[j]? = some x) : i = j := by
  obtain ⟨h1, e1⟩ := List.getElem?_eq_some_iff.mp a
  obtain ⟨h2, e2⟩ := List.getElem?_eq_some_iff.mp b
  exact (List.getElem_inj hN).mp (e1.trans e2.symm)
theorem map_set_fst : ∀ (L : List Ent) (i : Nat) (p : Addr) (o o' : HO), L[i]? = some (p, o) → (L.set i (p, o')).map (·.1) = L.map (·.1)
  | [], _, _, _, _, h => by simp at h
  | x :: L, 0, p, o, o', h => by
    have e : x = (p, o) := Option.some.inj h
    subst e; rfl
  | x :: L, i + 1, p, o, o', h => by
    show x.1 :: (L.set i (p, o')).map (·.1) = x.1 :: L.map (·.1)
    rw [map_set_fst L i p o o' h]
theorem W.set (w : W H0 H L) (i : Nat) (o' : HO) (h : L[i]? = some (p, o)) (t : isTup o = false) : W H0 (upd H p o') (L.set i (p, o')) := by
  have hp := w.get i h
  refine ⟨by rw [map_set_fst L i p o o' h]; exact w.nd, fun x hx => ?_, fun a xs e => ?_⟩
  · obtain ⟨j, hj⟩ := List.getElem?_of_mem hx
    by_cases hij : i = j
    · subst hij
      obtain ⟨hl, _⟩ := List.getElem?_eq_some_iff.mp h
      rw [List.getElem?_set_self hl] at hj
      cases hj
      exact upd_same
    · rw [List.getElem?_set_ne hij] at hj
      have ne : x.1 ≠ p := fun e => hij (nd_get w.nd (x := p) (by rw [List.getElem?_map, h]; rfl) (by rw [List.getElem?_map, hj]; simp [e]))
      rw [upd_ne ne]
      exact w.is_ x (List.mem_of_getElem? hj)
  · have q := w.tp a xs e
    have ne : a ≠ p := fun z => by
      rw [z, hp] at q
      cases q
      cases t
    rw [upd_ne ne]
    exact q
theorem W.skip (w : W H0 H L) (hp : H p = none) : W H0 (upd H p o) L :=
  ⟨w.nd, fun x hx => by rw [upd_ne (ne_of_none (w.is_ x hx) hp)]; exact w.is_ x hx, fun a xs e => by rw [upd_ne (ne_of_none (w.tp a xs e) hp)]; exact w.tp a xs e⟩
theorem W.new (w : W H0 H L) (o : HO) (hp : H p = none) : W H0 (upd H p o) ((p, o) :: L) := by
  have w1 := w.skip (o := o) hp
  refine ⟨List.nodup_cons.mpr ⟨fun m => ?_, w.nd⟩, fun x hx => ?_, w1.tp⟩
  · obtain ⟨x, hx, e⟩ := List.mem_map.mp m
    have z := w.is_ x hx
    rw [show x.1 = p from e, hp] at z
    cases z
  · rcases List.mem_cons.mp hx with rfl | hx
    · exact upd_same
    · exact w1.is_ x hx
theorem W.sub (w : W H0 H L) (h : ∀ x ∈ L', x ∈ L) (hn : (L'.map (·.1)).Nodup) : W H0 H L' := ⟨hn, fun x hx => w.is_ x (h x hx), w.tp⟩
theorem W.perm (w : W H0 H L) (h : L.Perm L') : W H0 H L' := w.sub (fun x hx => h.mem_iff.mpr hx) ((h.map _).nodup_iff.mp w.nd)
theorem W.drop1 {x : Ent} (w : W H0 H (x :: L)) : W H0 H L := w.sub (fun y hy => List.mem_cons_of_mem _ hy) (List.nodup_cons.mp w.nd).2
theorem W.dropL (w : W H0 H (L ++ R)) : W H0 H R := w.sub (fun y hy => List.mem_append_right _ hy) (by have := w.nd; rw [List.map_append] at this; exact (List.nodup_append.mp this).2.1)
/-- of the first n entries these, in this turn; and the rest -/
theorem W.pick (w : W H0 H L) (n : Nat) (is : List Nat) (h : is.Nodup ∧ ∀ i ∈ is, i < n := by decide) : W H0 H (is.filterMap (fun i => L[i]?) ++ L.drop n) := by
  have inj : ∀ (i j : Nat) (x y : Ent), L[i]? = some x → L[j]? = some y → x.1 = y.1 → i = j := by
    intro i j x y hx hy e
    obtain ⟨hi, ex⟩ := List.getElem?_eq_some_iff.mp hx
    obtain ⟨hj, ey⟩ := List.getElem?_eq_some_iff.mp hy
    refine (List.getElem_inj (xs := L.map (·.1)) (h₀ := by rw [List.length_map]; exact hi) (h₁ := by rw [List.length_map]; exact hj) w.nd).mp ?_
    rw [List.getElem_map, List.getElem_map, ex, ey, e]
  refine w.sub ?_ ?_
  · intro x hx
    rcases List.mem_append.mp hx with q | q
    · obtain ⟨i, _, e⟩ := List.mem_filterMap.mp q
      exact List.mem_of_getElem? e
    · exact List.mem_of_mem_drop q
  · rw [List.map_append, List.nodup_append]
    refine ⟨?_, ?_, ?_⟩
    · show List.Pairwise (· ≠ ·) _
      rw [List.pairwise_map, List.pairwise_filterMap]
      exact List.Pairwise.imp (fun {i j} ne x hx y hy e => ne (inj i j x y hx hy e)) h.1
    · exact w.nd.sublist ((List.drop_sublist n L).map _)
    · intro a ha b hb e
      obtain ⟨x, hx, rfl⟩ := List.mem_map.mp ha
      obtain ⟨y, hy, rfl⟩ := List.mem_map.mp hb
      obtain ⟨i, hi, ei⟩ := List.mem_filterMap.mp hx
      obtain ⟨j, hj⟩ := List.getElem?_of_mem hy
      rw [List.getElem?_drop] at hj
      have := inj i (n + j) x y ei hj e
      have := h.2 i hi
      omega
/-- the segment [n, n + m) to the front -/
theorem W.rot (w : W H0 H L) (n m : Nat) : W H0 H ((L.drop n).take m ++ (L.take n ++ (L.drop n).drop m)) := by
  refine w.perm ?_
  have e : L = L.take n ++ ((L.drop n).take m ++ (L.drop n).drop m) := by rw [List.take_append_drop, List.take_append_drop]
  conv => lhs; rw [e]
  rw [← List.append_assoc, ← List.append_assoc]
  exact List.Perm.append_right _ List.perm_append_comm
/-- the first entry takes the place of the j-th one behind it -/
theorem W.repl {x : Ent} (w : W H0 H (x :: L)) (j : Nat) : W H0 H (L.set j x) := by
  have hx := (List.nodup_cons.mp w.nd)
  refine w.sub (fun y hy => ?_) ?_
  · rcases List.mem_or_eq_of_mem_set hy with h | h
    · exact List.mem_cons_of_mem _ h
    · rw [h]; exact List.mem_cons_self
  · rw [List.map_set]
    by_cases hj : j < (L.map (·.1)).length
    · rw [List.set_eq_take_append_cons_drop, if_pos hj]
      have e : L.map (·.1) = (L.map (·.1)).take j ++ (L.map (·.1)).drop j := (List.take_append_drop _ _).symm
      have n2 := hx.2
      rw [e] at n2
      obtain ⟨a1, a2, a3⟩ := List.nodup_append.mp n2
      have hm : ∀ z ∈ (L.map (·.1)).drop (j + 1), z ∈ (L.map (·.1)).drop j := fun z hz => by
        rw [← List.drop_drop] at hz
        exact List.mem_of_mem_drop hz
      refine List.nodup_append.mpr ⟨a1, List.nodup_cons.mpr ⟨fun z => hx.1 (List.mem_of_mem_drop z), ?_⟩, fun a ha b hb => ?_⟩
      · rw [← List.drop_drop]
        exact a2.sublist (List.drop_sublist _ _)
      · rcases List.mem_cons.mp hb with rfl | hb
        · exact fun z => hx.1 (by show x.1 ∈ _; rw [← z]; exact List.mem_of_mem_take ha)
        · exact a3 a ha b (hm b hb)
    · rw [List.set_eq_of_length_le (by omega)]
      exact hx.2
/-- the i-th entry to the front, and back -/
theorem perm_front {α : Type} : ∀ (L : List α) (i : Nat) (x : α), L[i]? = some x → L.Perm (x :: L.eraseIdx i)
  | [], _, _, h => by simp at h
  | y :: L, 0, x, h => by
    have e : y = x := Option.some.inj h
    subst e; exact List.Perm.refl _
  | y :: L, i + 1, x, h => by
    have ih := perm_front L i x h
    exact (ih.cons y).trans (List.Perm.swap x y _)
theorem perm_back {α : Type} : ∀ (L : List α) (i : Nat) (x x' : α), L[i]? = some x → (x' :: L.eraseIdx i).Perm (L.set i x')
  | [], _, _, _, h => by simp at h
  | y :: L, 0, x, x', h => List.Perm.refl _
  | y :: L, i + 1, x, x', h => by
    have ih := perm_back L i x x' h
    exact (List.Perm.swap y x' _).trans (ih.cons y)
theorem W.front {x : Ent} (w : W H0 H L) (i : Nat) (h : L[i]? = some x) : W H0 H (x :: L.eraseIdx i) := w.perm (perm_front L i x h)
theorem W.back {x x' : Ent} (w : W H0 H L) (i : Nat) (h : L[i]? = some x) (v : W H H' (x' :: L.eraseIdx i)) : W H0 H' (L.set i x') := (w.tr v).perm (perm_back L i x x' h)
theorem W.list {K : PySem.W.Frag} {xs : List V} (w : W H0 H L) (i : Nat) (h : L[i]? = some (p, .lst xs)) : SqL K H p xs := SqL.of (w.get i h)
end
theorem szL {n : Nat} (h : n ≤ 100000) : n < sizeLine := Nat.lt_of_le_of_lt h (by decide)
theorem szE {n : Nat} (h : n ≤ 100000) : n ≤ sizeLine := Nat.le_of_lt (szL h)

/-! ### readings that stop the walk -/
abbrev MRd := V → List V → Hp → VK → Prop
@[irreducible] def xApp : MRd := rAppend
@[irreducible] def xPop : MRd := rPop
@[irreducible] def xPopAt : MRd := rPopAt
@[irreducible] def xIns : MRd := fun x vs H Q => ∃ (l : Addr) (xs : List V) (i : Int) (y : V), x = .ref l ∧ vs = [.int i, y] ∧ H l = some (.lst xs) ∧ xs.length < sizeLine ∧ 0 ≤ i ∧ i < 2 ^ 63 ∧
    Q .non (upd H l (.lst (xs.take i.toNat ++ [y] ++ xs.drop i.toNat)))
@[irreducible] def xRem : MRd := rRemI
@[irreducible] def xExt : MRd := rExtend
@[irreducible] def xSetL : TSet := rSetL
/-- a new object -/
@[irreducible] def xNew (o : HO) (H : Hp) (Q : VK) : Prop := ∀ p, H p = none → Q (.ref p) (upd H p o)
@[irreducible] def xFldSt (K : PySem.W.Frag) (f : Str) (x y : V) (H : Hp) (Q : Hp → Prop) : Prop := ∃ a C dx fs, x = .ref a ∧ H a = some (.ins C dx fs) ∧ Cls K C ∧ NoAttr K C f ∧ fs.length < 1000 ∧ Q (upd H a (.ins C dx (putF f y fs)))
@[irreducible] def xDPut (x y v : V) (H : Hp) (Q : Hp → Prop) : Prop := ∃ a H', x = .ref a ∧ DPut H a y v H' ∧ Q H'
@[irreducible] def xMake (C : Addr) (sp : Sp) (E : XK) (vs : List V) (H : Hp) (Q : VK) : Prop := ∀ x dx, H x = none → H dx = none → dx ≠ x →
  sp (.ref x :: vs) (upd (upd H dx (.own x)) x (.ins C dx [])) (fun v H2 => v = .non ∧ Q (.ref x) H2) E
@[irreducible] def xCall (sp : Sp) (vs : List V) (H : Hp) (Q : VK) (E : XK) : Prop := sp vs H Q E
@[irreducible] def xFor (J : It) (g : TG) (tb : TS) (D : Ends) (σ : L2.St) (H : Hp) : Prop := ∃ W : Nat → Nat → L2.St → Hp → Prop, (∃ m, W 0 m σ H) ∧ ∀ i m σ H, W i m σ H →
  (J.stop i H ∧ D.nx σ H) ∨ (J.go i H ∧ ∃ N : L2.St → Hp → Prop, (∀ σ' H', N σ' H' → ∃ m', m' < m ∧ W (i + 1) m' σ' H') ∧ ∀ x H', J.yld i H x H' → g x σ H' fun σ2 H2 => tb { D with nx := N, ct := N, bk := D.nx } σ2 H2)
@[irreducible] def xWhile (c : TT) (tb : TS) (D : Ends) (σ : L2.St) (H : Hp) : Prop := tWhile c tb D σ H
@[irreducible] def xLc (J : It) (g : TG) (tt : TT) (te : TE) (vs : List Nat) (σ : L2.St) (H1 : Hp) (Q : VK) : Prop := ∀ D, H1 D = none → ∃ W : Nat → Nat → Hp → Prop, (∃ m, W 0 m (upd H1 D (.lst []))) ∧ ∀ i m H, W i m H →
  (J.stop i H ∧ Q (.ref D) H) ∨ (J.go i H ∧ ∃ Nx : Hp → Prop, (∀ H', Nx H' → ∃ m', m' < m ∧ W (i + 1) m' H') ∧ ∀ x H', J.yld i H x H' → g x (wipe σ vs) H' fun σ2 H2 => wipe σ2 vs = wipe σ vs ∧ tt σ2 H2 fun b H3 =>
    if b = true then te σ2 H3 fun y H4 => ∃ acc, H4 D = some (.lst acc) ∧ acc.length < sizeLine ∧ Nx (upd H4 D (.lst (acc ++ [y]))) else Nx H3)
/-- two ways; said behind it which one -/
@[irreducible] def xIf (b : Bool) (A B : Prop) : Prop := if b = true then A else B
theorem xIf_T {b : Bool} {A B : Prop} (hb : b = true) (h : A) : xIf b A B := by
  unfold xIf; rw [if_pos hb]; exact h
theorem xIf_F {b : Bool} {A B : Prop} (hb : b = false) (h : B) : xIf b A B := by
  unfold xIf; rw [hb, if_neg Bool.false_ne_true]; exact h
theorem xIf_2 {b : Bool} {A B : Prop} (h1 : b = true → A) (h2 : b = false → B) : xIf b A B := by
  cases b
  · exact xIf_F rfl (h2 rfl)
  · exact xIf_T rfl (h1 rfl)
theorem xIf_D {c : Prop} [Decidable c] {A B : Prop} (h1 : c → A) (h2 : ¬ c → B) : xIf (decide c) A B :=
  xIf_2 (fun h => h1 (of_decide_eq_true h)) (fun h => h2 (of_decide_eq_false h))
theorem xIf_N {c : Prop} [Decidable c] {A B : Prop} (h1 : ¬ c → A) (h2 : c → B) : xIf (!decide c) A B :=
  xIf_2 (fun h => h1 (by simpa using h)) (fun h => h2 (by simpa using h))
section
variable {X : Cx}
theorem my_append : MtM X "list.append" xApp := by unfold xApp; exact mt_append
theorem my_pop : MtM X "list.pop" xPop := by unfold xPop; exact mt_pop
theorem my_popAt : MtM X "list.pop" xPopAt := by unfold xPopAt; exact mt_popAt
theorem my_insert : MtR X "list.insert" xIns := by unfold xIns; exact mt_insert
theorem my_remove : MtM X "list.remove" xRem := by unfold xRem; exact mt_remove
theorem my_extend : MtM X "list.extend" xExt := by unfold xExt; exact mt_extend
theorem my_setL : PSet X xSetL := by unfold xSetL; exact set_list
theorem opr_le {f : Value → Value → Sem Value} {r r' : R2} (h : OpR X f r') (g : ∀ x y H Q, r x y H Q → r' x y H Q) : OpR X f r := fun pins s σ H x y v u Q I rx ry q => h pins s σ H x y v u Q I rx ry (g _ _ _ _ q)
theorem cr_le {f : Value} {r r' : List V → Hp → VK → Prop} (h : CallR X f r') (g : ∀ xs H Q, r xs H Q → r' xs H Q) : CallR X f r := fun pins s σ H xs us Q I rx q => h pins s σ H xs us Q I rx (g _ _ _ q)
theorem PE.le {e : Expr} {t t' : TE} (h : PE X e t') (g : ∀ σ H Q, t σ H Q → t' σ H Q) : PE X e t := ⟨fun pins s σ H Q I q => h.run pins s σ H Q I (g _ _ _ q)⟩
theorem PT.le {e : Expr} {t t' : TT} (h : PT X e t') (g : ∀ σ H Q, t σ H Q → t' σ H Q) : PT X e t := ⟨fun pins s σ H Q I q => h.run pins s σ H Q I (g _ _ _ q)⟩
theorem PS.le {e : Stmt} {t t' : TS} (h : PS X e t') (g : ∀ D σ H, t D σ H → t' D σ H) : PS X e t := ⟨fun pins s σ H D I q => h.run pins s σ H D I (g _ _ _ q)⟩
/-- lists, tuples displayed -/
def uLst (t : TA) : TE := fun σ H Q => t σ H fun xs H1 => xs.length ≤ sizeLine ∧ xNew (.lst xs) H1 Q
def uTup (t : TA) : TE := fun σ H Q => t σ H fun xs H1 => xs.length ≤ sizeLine ∧ xNew (.tup xs) H1 Q
theorem my_lst {es : List Expr} {t : TA} {pos : Pos} (h : PA X es t) : PE X (.List es pos) (uLst t) := by
  have e : uLst t = tLst t := by unfold uLst tLst xNew; rfl
  rw [e]; exact pe_lst h
theorem my_tup {es : List Expr} {t : TA} {pos : Pos} {x1} (h : PA X es t) : PE X (.Tuple es x1 pos) (uTup t) := by
  have e : uTup t = tTup t := by unfold uTup tTup xNew; rfl
  rw [e]; exact pe_tup h
def uDNew : TE := fun _ H Q => xNew (.dK []) H Q
theorem my_dnew {pos : Pos} : PE X (.Dict [] [] pos) uDNew := by
  have e : uDNew = tDNewK := by unfold uDNew tDNewK xNew; rfl
  rw [e]; exact pe_dnewK
def uCat : R2 := fun x y H Q => ∃ l b xs zs, x = .ref l ∧ y = .ref b ∧ H l = some (.lst xs) ∧ H b = some (.lst zs) ∧ xs.length + zs.length ≤ sizeLine ∧ xNew (.lst (xs ++ zs)) H Q
theorem my_cat : OpR X (binaryOp .Add) uCat := by
  have e : uCat = rCat := by unfold uCat rCat xNew; rfl
  rw [e]; exact op_cat
def uSlL (K : PySem.W.Frag) : V → Option Int → Option Int → Hp → VK → Prop := fun x lo hi H Q => ∃ a xs, x = .ref a ∧ SqL K H a xs ∧ xNew (.lst (cutV xs lo hi)) H Q
theorem my_sl : SlR X (uSlL X.K) := by
  have e : uSlL X.K = rSlL X.K := by unfold uSlL rSlL xNew; rfl
  rw [e]; exact sl_list
def uListOf (K : PySem.W.Frag) : List V → Hp → VK → Prop := fun xs H Q => ∃ p ys, xs = [.ref p] ∧ (SqL K H p ys ∨ SqT K H p ys) ∧ xNew (.lst ys) H Q
theorem my_listOf : CallR X (.type "list") (uListOf X.K) := by
  unfold uListOf xNew; exact call_list_of
def uFld (K : PySem.W.Frag) (ta tv : TE) (f : Str) : TS := fun D σ H => tv σ H fun y H1 => ta σ H1 fun x H2 => xFldSt K f x y H2 fun H3 => D.nx σ H3
theorem my_fld {o value : Expr} {ta tv : TE} {f : Str} {pos pos' : Pos} (ha : PE X o ta) (hv : PE X value tv) (hs : swapsWith value (some (.Attribute o f pos')) pos.line X.env = pure false := by rfl) : PS X (.Assign [.Attribute o f pos'] value pos) (uFld X.K ta tv f) := by
  have e : uFld X.K ta tv f = sFld X.K ta tv f := by unfold uFld sFld xFldSt; rfl
  rw [e]; exact ps_fld ha hv hs
def uDPut (td ty tv : TE) : TS := fun D σ H => tv σ H fun v H1 => td σ H1 fun x H2 => ty σ H2 fun y H3 => xDPut x y v H3 fun H4 => D.nx σ H4
theorem my_dput {o i value : Expr} {td ty tv : TE} {pos pos' : Pos} (hu : X.A.units + 1 < cLine) (ho : PE X o td) (hi : PE X i ty) (hv : PE X value tv) (hs : swapsWith value (some (.Subscript o i pos')) pos.line X.env = pure false := by rfl) :
    PS X (.Assign [.Subscript o i pos'] value pos) (uDPut td ty tv) := by
  have e : uDPut td ty tv = sDPut td ty tv := by unfold uDPut sDPut xDPut; rfl
  rw [e]; exact ps_dput hu ho hi hv hs
def uMake (C : Addr) (sp : Sp) (E : XK) (t : TA) : TE := fun σ H Q => t σ H fun vs H1 => xMake C sp E vs H1 Q
theorem uMake_eq (C : Addr) (sp : Sp) (E : XK) (t : TA) (σ : L2.St) (H : Hp) (Q : VK) : uMake C sp E t σ H Q = tMake C sp [] E t σ H Q := by
  unfold uMake tMake xMake; simp only [List.append_nil]
def uCall (sp : Sp) (E : XK) (t : TA) : TE := fun σ H Q => t σ H fun vs H1 => xCall sp vs H1 Q E
theorem uCall_eq (sp : Sp) (E : XK) (t : TA) (σ : L2.St) (H : Hp) (Q : VK) : uCall sp E t σ H Q = tCall sp [] E t σ H Q := by
  unfold uCall tCall xCall; simp only [List.append_nil]
def uMeth (C : Addr) (m : Str) (sp : Sp) (E : XK) (ta : TE) (t : TA) : TE := fun σ H Q => ta σ H fun x H1 => ∃ a dx fs, x = .ref a ∧ H1 a = some (.ins C dx fs) ∧ fs.lookup m = none ∧ t σ H1 fun vs H2 => xCall sp (x :: vs) H2 Q E
theorem uMeth_eq (C : Addr) (m : Str) (sp : Sp) (E : XK) (ta : TE) (t : TA) (σ : L2.St) (H : Hp) (Q : VK) : uMeth C m sp E ta t σ H Q = tMeth C m sp [] E ta t σ H Q := by
  unfold uMeth tMeth xCall; simp only [List.append_nil]
def uIfS (c : TT) (t u : TS) : TS := fun D σ H => c σ H fun b H1 => xIf b (t D σ H1) (u D σ H1)
theorem my_if {c : Expr} {a b : List Stmt} {tc : TT} {t u : TS} {pos : Pos} (hc : PT X c tc) (ha : PSs X a t) (hb : PSs X b u) : PS X (.If c a b pos) (uIfS tc t u) := by
  have e : uIfS tc t u = tIfS tc t u := by unfold uIfS tIfS xIf; rfl
  rw [e]; exact ps_if hc ha hb
def uIf (t : TT) (ta tb : TE) : TE := fun σ H Q => t σ H fun c H1 => xIf c (ta σ H1 Q) (tb σ H1 Q)
theorem my_ifExp {a b c : Expr} {tA : TT} {ta tb : TE} {pos : Pos} (hc : PT X c tA) (ha : PE X a ta) (hb : PE X b tb) : PE X (.IfExp c a b pos) (uIf tA ta tb) := by
  have e : uIf tA ta tb = tIf tA ta tb := by unfold uIf tIf xIf; rfl
  rw [e]; exact pe_ifExp hc ha hb
def uAnd (t u : TT) : TT := fun σ H Q => t σ H fun c H1 => xIf c (u σ H1 Q) (Q false H1)
def uOr (t u : TT) : TT := fun σ H Q => t σ H fun c H1 => xIf c (Q true H1) (u σ H1 Q)
theorem my_and {a b : Expr} {rest : List Expr} {tA tB' : TT} {pos : Pos} (ha : PT X a tA) (hb : PW X (.BoolOp .And (b :: rest) pos) tB') : PW X (.BoolOp .And (a :: b :: rest) pos) (uAnd tA tB') := by
  have e : uAnd tA tB' = tAnd tA tB' := by unfold uAnd tAnd xIf; rfl
  rw [e]; exact pw_and ha hb
theorem my_or {a b : Expr} {rest : List Expr} {tA tB' : TT} {pos : Pos} (ha : PT X a tA) (hb : PW X (.BoolOp .Or (b :: rest) pos) tB') : PW X (.BoolOp .Or (a :: b :: rest) pos) (uOr tA tB') := by
  have e : uOr tA tB' = tOr tA tB' := by unfold uOr tOr xIf; rfl
  rw [e]; exact pw_or ha hb
def uAndV (ta tb : TE) : TE := fun σ H Q => ta σ H fun x H1 => ∃ c, x = .bl c ∧ xIf c (tb σ H1 Q) (Q (.bl false) H1)
def uOrV (ta tb : TE) : TE := fun σ H Q => ta σ H fun x H1 => ∃ c, x = .bl c ∧ xIf c (Q (.bl true) H1) (tb σ H1 Q)
theorem my_andV {a b : Expr} {rest : List Expr} {ta tb : TE} {pos : Pos} (ha : PE X a ta) (hb : PE X (.BoolOp .And (b :: rest) pos) tb) : PE X (.BoolOp .And (a :: b :: rest) pos) (uAndV ta tb) := by
  have e : uAndV ta tb = tAndV ta tb := by unfold uAndV tAndV xIf; rfl
  rw [e]; exact pe_and ha hb
theorem my_orV {a b : Expr} {rest : List Expr} {ta tb : TE} {pos : Pos} (ha : PE X a ta) (hb : PE X (.BoolOp .Or (b :: rest) pos) tb) : PE X (.BoolOp .Or (a :: b :: rest) pos) (uOrV ta tb) := by
  have e : uOrV ta tb = tOrV ta tb := by unfold uOrV tOrV xIf; rfl
  rw [e]; exact pe_or ha hb
/-- a < b < c -/
def uChain (r r' : R2) (ta tb tc : TE) : TE := fun σ H Q => ta σ H fun x H1 => tb σ H1 fun y H2 => r x y H2 fun z H3 => ∃ k, z = .bl k ∧ xIf k (tc σ H3 fun u H4 => r' y u H4 Q) (Q (.bl false) H3)
def uFor (wi : TI) (g : TG) (tb : TS) : TS := fun D σ H => wi σ H fun J H1 => xFor J g tb D σ H1
theorem my_for {tg iter : Expr} {body : List Stmt} {wi : TI} {g : TG} {tb : TS} {pos : Pos} (hp : PassesOwn (model X.prog X.w) X.A X.env X.xe) (hc : X.calm = true) (hi : PI X tg iter wi) (hg : PG X tg g) (hb : PSs X body tb)
    (hs : ∀ x, foldedSetIterable iter X.env x = pure x := by intro _; rfl) : PS X (.For tg iter body [] pos) (uFor wi g tb) := by
  have e : uFor wi g tb = tFor wi g tb := by unfold uFor tFor xFor; rfl
  rw [e]; exact ps_for hp hc hi hg hb hs
def uWhile (c : TT) (tb : TS) : TS := fun D σ H => xWhile c tb D σ H
theorem my_while {c : Expr} {body : List Stmt} {tc : TT} {tb : TS} {pos : Pos} (hp : PassesOwn (model X.prog X.w) X.A X.env X.xe) (hc : PT X c tc) (hb : PSs X body tb) : PS X (.While c body [] pos) (uWhile tc tb) := by
  have e : uWhile tc tb = tWhile tc tb := by unfold uWhile xWhile; rfl
  rw [e]; exact ps_while hp hc hb
end
theorem permC {L L' : List Ent} (h : ∀ (_ : BEq Ent) (_ : LawfulBEq Ent) (a : Ent), L.count a = L'.count a) : L.Perm L' := by
  classical
  exact List.perm_iff_count.mpr fun a => h inferInstance inferInstance a
theorem W.subl {H0 H : Hp} {L L' : List Ent} (w : W H0 H L) (h : L'.Sublist L) : W H0 H L' := w.sub (fun x hx => h.subset hx) (w.nd.sublist (h.map _))
end TR
namespace TR
open PySem L2
section
variable {X : Cx} {CX : CXT} {k : Nat} {f C : Addr} {fd : FuncData} {ps : List Str} {sp : Sp} {E : XK} {x m : Str} {p pos apos : Pos} {e o : Expr} {es : List Expr} {ta : TE} {t : TA}
theorem my_call (F : FnOk X.prog X.w X.K X.mg X.base CX k f fd ps sp) (hr : Room k X.A) (hg : Gl X x) (hm : X.mg x = some (.ref f)) (hk : PySem.W.keepIn X.K (.ref f) = true) (hb : Binds X.K fd ps []) (hx : Passes CX X E)
    (ha : PA X (e :: es) t) (hdb : (x == ("__debug__" : Str)) = false := by decide) (he : starEach (e :: es) X.env = (false, eval e X.env) :: starEach es X.env := by rfl) (hpl : (backTo pos (starEach es X.env)).any (·.1) = false := by rfl) :
    PE X (.Call (.Name x p) (e :: es) [] pos) (uCall sp E t) := PE.le (pe_call F hr hg hm hk hb .nil hx ha hdb he hpl) fun σ H Q q => by rw [← uCall_eq]; exact q
theorem my_call0 (F : FnOk X.prog X.w X.K X.mg X.base CX k f fd ps sp) (hr : Room k X.A) (hg : Gl X x) (hm : X.mg x = some (.ref f)) (hk : PySem.W.keepIn X.K (.ref f) = true) (hb : Binds X.K fd ps []) (hx : Passes CX X E)
    (hdb : (x == ("__debug__" : Str)) = false := by decide) : PE X (.Call (.Name x p) [] [] pos) (uCall sp E tNil) := PE.le (pe_call0 F hr hg hm hk hb .nil hx hdb) fun σ H Q q => by rw [← uCall_eq]; exact q
theorem my_meth {pl : Sem Bool} (he : PE X o ta) (c : Cls X.K C) (hm : Meth X.K C m f) (F : FnOk X.prog X.w X.K X.mg X.base CX k f fd ps sp) (hr : Room k X.A) (hb : Binds X.K fd ps []) (hx : Passes CX X E) (ha : PA X (e :: es) t)
    (hst : starEach (e :: es) X.env = (false, eval e X.env) :: starEach es X.env := by rfl) (hpl : (backTo pos (starEach es X.env)).any (·.1) = false := by rfl)
    (ht : eval (.Call (.Attribute o m apos) (e :: es) [] pos) X.env = (do
      let ov ← eval o X.env
      standAt apos.atName
      let (f, first) ← holding [ov] (getMethod ov m pl)
      callWith pos f first (backTo pos (starEach (e :: es) X.env)) (backToKw pos (keywordEach [] X.env))) := by rfl) :
    PE X (.Call (.Attribute o m apos) (e :: es) [] pos) (uMeth C m sp E ta t) := PE.le (pe_meth he c hm F hr hb .nil hx ha hst hpl ht) fun σ H Q q => by rw [← uMeth_eq]; exact q
theorem my_meth0 {pl : Sem Bool} (he : PE X o ta) (c : Cls X.K C) (hm : Meth X.K C m f) (F : FnOk X.prog X.w X.K X.mg X.base CX k f fd ps sp) (hr : Room k X.A) (hb : Binds X.K fd ps []) (hx : Passes CX X E)
    (ht : eval (.Call (.Attribute o m apos) [] [] pos) X.env = (do
      let ov ← eval o X.env
      standAt apos.atName
      let (f, first) ← holding [ov] (getMethod ov m pl)
      callWith pos f first (backTo pos (starEach [] X.env)) (backToKw pos (keywordEach [] X.env))) := by rfl) :
    PE X (.Call (.Attribute o m apos) [] [] pos) (uMeth C m sp E ta tNil) := PE.le (pe_meth0 he c hm F hr hb .nil hx ht) fun σ H Q q => by rw [← uMeth_eq]; exact q
theorem my_make (M : Mk X.K C f) (F : FnOk X.prog X.w X.K X.mg X.base CX k f fd ps sp) (hr : Room (k + 1) X.A) (hg : Gl X x) (hm : X.mg x = some (.ref C)) (hb : Binds X.K fd ps []) (hx : Passes CX X E)
    (ha : PA X (e :: es) t) (hdb : (x == ("__debug__" : Str)) = false := by decide) (he : starEach (e :: es) X.env = (false, eval e X.env) :: starEach es X.env := by rfl) (hpl : (backTo pos (starEach es X.env)).any (·.1) = false := by rfl) :
    PE X (.Call (.Name x p) (e :: es) [] pos) (uMake C sp E t) := PE.le (pe_make M F hr hg hm hb .nil hx ha hdb he hpl) fun σ H Q q => by rw [← uMake_eq]; exact q
theorem my_make0 (M : Mk X.K C f) (F : FnOk X.prog X.w X.K X.mg X.base CX k f fd ps sp) (hr : Room (k + 1) X.A) (hg : Gl X x) (hm : X.mg x = some (.ref C)) (hb : Binds X.K fd ps []) (hx : Passes CX X E)
    (hdb : (x == ("__debug__" : Str)) = false := by decide) : PE X (.Call (.Name x p) [] [] pos) (uMake C sp E tNil) := PE.le (pe_make0 M F hr hg hm hb .nil hx hdb) fun σ H Q q => by rw [← uMake_eq]; exact q
end
section
variable {X : Cx} {a b c : Expr} {ta tb tc te : TE} {r r' : R2} {op op' : CmpOp} {pos : Pos}
theorem uChain_eq : uChain r r' ta tb tc = tChain r r' ta tb tc := by unfold uChain tChain xIf; rfl
theorem my_chain (ho : OpR X (compareOp op) r) (ho' : OpR X (compareOp op') r') (ha : PE X a ta) (hb : PE X b tb) (hc : PE X c tc)
    (hm : lastMarks [op, op'] [b, c] = false := by with_unfolding_all rfl) : PE X (.Compare a [op, op'] [b, c] pos) (uChain r r' ta tb tc) := by rw [uChain_eq]; exact pe_chain ho ho' ha hb hc hm
theorem my_chainT (ho : OpR X (compareOp op) r) (ho' : OpR X (compareOp op') r') (ha : PE X a ta) (hb : PE X b tb) (hc : PE X c tc)
    (hm : lastMarks [op, op'] [b, c] = false := by with_unfolding_all rfl) : PT X (.Compare a [op, op'] [b, c] pos) (tTest (uChain r r' ta tb tc)) := by rw [uChain_eq]; exact pt_chain ho ho' ha hb hc hm
/-- a part that has a value and leaves the heap as it is -/
def Still (t : TE) : Prop := ∀ σ H Q, t σ H Q → ∃ v, Q v H ∧ ∀ Q' : VK, Q' v H → t σ H Q'
theorem still_c {v : V} : Still (tC v) := fun _ _ _ q => ⟨v, q, fun _ q' => q'⟩
theorem still_v {i : Nat} : Still (tVar i) := fun _ _ _ ⟨v, e, q⟩ => ⟨v, q, fun _ q' => ⟨v, e, q'⟩⟩
theorem still_fld {K : PySem.W.Frag} {f : Str} (h : Still ta) : Still (tFld K ta f) := fun σ H Q q => by
  obtain ⟨v, ⟨a, C, dx, fs, u, e, e1, e2, e3, e4, q⟩, k⟩ := h σ H _ q
  exact ⟨u, q, fun Q' q' => k _ ⟨a, C, dx, fs, u, e, e1, e2, e3, e4, q'⟩⟩
def rLenQ (K : PySem.W.Frag) : List V → Hp → VK → Prop := fun xs H Q => ∃ p ys, xs = [.ref p] ∧ (SqL K H p ys ∨ SqT K H p ys) ∧ Q (.int ys.length) H
theorem my_lenQ : CallR X (.builtin "len") (rLenQ X.K) := call_len_seq
theorem still_len {K : PySem.W.Frag} (h : Still ta) : Still (tCB (rLenQ K) (tCons ta tNil)) := fun σ H Q q => by
  obtain ⟨v, ⟨p, ys, e, e1, q⟩, k⟩ := h σ H _ q
  exact ⟨_, q, fun Q' q' => k _ ⟨p, ys, e, e1, q'⟩⟩
def rLenSQ : List V → Hp → VK → Prop := fun xs H Q => ∃ z, xs = [.str z] ∧ z.length ≤ sizeLine ∧ Q (.int z.length) H
theorem my_lenSQ : CallR X (.builtin "len") rLenSQ := call_len_str
theorem still_lenS (h : Still ta) : Still (tCB rLenSQ (tCons ta tNil)) := fun σ H Q q => by
  obtain ⟨v, ⟨z, e, e1, q⟩, k⟩ := h σ H _ q
  exact ⟨_, q, fun Q' q' => k _ ⟨z, e, e1, q'⟩⟩
/-- a <= b <= c of ints, all three still -/
def uChI (f g : Int → Int → Bool) (ta tb tc : TE) : TE := fun σ H Q => ta σ H fun x _ => tb σ H fun y _ => tc σ H fun z _ => ∃ i j l, x = .int i ∧ y = .int j ∧ z = .int l ∧ Q (.bl (f i j && g j l)) H
theorem uChI_le {f g : Int → Int → Bool} (sa : Still ta) (sb : Still tb) (sc : Still tc) (σ : L2.St) (H : Hp) (Q : VK) (q : uChI f g ta tb tc σ H Q) :
    uChain (rI0 fun i j => .bl (f i j)) (rI0 fun i j => .bl (g i j)) ta tb tc σ H Q := by
  obtain ⟨x, q, ka⟩ := sa σ H _ q
  obtain ⟨y, q, kb⟩ := sb σ H _ q
  obtain ⟨z, ⟨i, j, l, rfl, rfl, rfl, q⟩, kc⟩ := sc σ H _ q
  refine ka _ (kb _ ⟨i, j, rfl, rfl, _, rfl, ?_⟩)
  refine xIf_2 (fun h => kc _ ⟨j, l, rfl, rfl, ?_⟩) (fun h => ?_)
  · rw [h, Bool.true_and] at q; exact q
  · rw [h, Bool.false_and] at q; exact q
theorem my_chI {f g : Int → Int → Bool} (ho : OpR X (compareOp op) (rI0 fun i j => .bl (f i j))) (ho' : OpR X (compareOp op') (rI0 fun i j => .bl (g i j))) (ha : PE X a ta) (hb : PE X b tb) (hc : PE X c tc) (sa : Still ta) (sb : Still tb) (sc : Still tc)
    (hm : lastMarks [op, op'] [b, c] = false := by with_unfolding_all rfl) : PE X (.Compare a [op, op'] [b, c] pos) (uChI f g ta tb tc) := PE.le (my_chain ho ho' ha hb hc hm) (uChI_le sa sb sc)
theorem my_chIT {f g : Int → Int → Bool} (ho : OpR X (compareOp op) (rI0 fun i j => .bl (f i j))) (ho' : OpR X (compareOp op') (rI0 fun i j => .bl (g i j))) (ha : PE X a ta) (hb : PE X b tb) (hc : PE X c tc) (sa : Still ta) (sb : Still tb) (sc : Still tc)
    (hm : lastMarks [op, op'] [b, c] = false := by with_unfolding_all rfl) : PT X (.Compare a [op, op'] [b, c] pos) (tTest (uChI f g ta tb tc)) :=
  PT.le (my_chainT ho ho' ha hb hc hm) fun σ H Q q => uChI_le sa sb sc σ H _ q
def uRevL (K : PySem.W.Frag) (te : TE) : TE := fun σ H Q => te σ H fun x H1 => ∃ a xs, x = .ref a ∧ SqL K H1 a xs ∧ xNew (.lst xs.reverse) H1 Q
theorem my_revL {e : Expr} {k : Nat} {p1 p2 p3 : Pos} (he : PE X e te) : PE X (.Subscript e (.Slice none none (some (.UnaryOp .USub (.Constant (.int 1) k p1) p2)) p3) pos) (uRevL X.K te) := by
  have e : uRevL X.K te = tRevL X.K te := by unfold uRevL tRevL xNew; rfl
  rw [e]; exact pe_revL he
def uLstRg (te : L2.St → Hp → (Int → Int → Hp → Prop) → Prop) : TE := fun σ H Q => te σ H fun a b H1 => RgOk a b ∧ xNew (.lst (rgV a b)) H1 Q
theorem my_listRg {e : Expr} {te : L2.St → Hp → (Int → Int → Hp → Prop) → Prop} {p : Pos} (hc : X.calm = true) (hg : Gl X "list") (hm : X.mg "list" = none) (he : PRg X e te) (na : starEach [e] X.env = (false, eval e X.env) :: starEach [] X.env := by rfl) : PE X (.Call (.Name "list" p) [e] [] pos) (uLstRg te) := by
  have e' : uLstRg te = tLstRg te := by unfold uLstRg tLstRg xNew; rfl
  rw [e']; exact pe_listRg hc hg hm he na
def uLc (wi : TI) (g : TG) (tt : TT) (te : TE) (vs : List Nat) : TE := fun σ H Q => wi σ H fun J H1 => xLc J g tt te vs σ H1 Q
theorem uLc_eq (wi : TI) (g : TG) (tt : TT) (te : TE) (vs : List Nat) : uLc wi g tt te vs = tLc wi g tt te vs := by unfold uLc tLc xLc; rfl
end
/-! ### what leaves a def -/
section
variable {P : Program} {w : World} {K : PySem.W.Frag} {mg : Str → Option Value} {base : Heap} {N : List Str} {qual : Str} {sc : Scope} {f : Addr} {cd : Value} {A : Around} {outer : List Env} {s : Shared} {H : Hp} {E : XK}
theorem passE : Passes (L2.CX P w) (cxOf (L2.CX P w) P w K mg base N qual sc f cd A outer s H E) E := passes_call (takes_of rfl rfl rfl rfl) fun _ _ _ _ h => h
theorem ownE : PassesOwn (model P w) (A.deeper (PyProof.Rows.envOfC qual sc s.heap.objs.size f cd)) (PyProof.Rows.envOfC qual sc s.heap.objs.size f cd) (cxOf (L2.CX P w) P w K mg base N qual sc f cd A outer s H E).xe := passes_of (X := cxOf (L2.CX P w) P w K mg base N qual sc f cd A outer s H E) rfl
theorem takesE : Takes (cxOf (L2.CX P w) P w K mg base N qual sc f cd A outer s H E) (fun cls d _ H => E cls d H) := takes_of rfl rfl rfl rfl
end
/-- a def of the text -/
theorem fun_of {K : PySem.W.Frag} {x qual : Str} {st : Stmt} {f : Addr} {fd : FuncData} (F : FunD K x qual (defArgs st) (defBody st) (defScope st) [] [] f fd) : Fun K x qual st f fd := by
  obtain ⟨⟨oc, od, dV, kV, doc, pm, an, cdv, ct, osl, e, lk, cd, dd, kk⟩, kp⟩ := F
  refine ⟨⟨oc, od, kV, doc, pm, an, cdv, ct, osl, ?_, lk, cd⟩, kp⟩
  rcases dd with ⟨_, rfl⟩ | ⟨h, _⟩
  · exact e
  · exact absurd rfl h
theorem ix_of {n : Nat} {z : Int} {j : Nat} (e : z = (j : Int)) (h : j < n) : ixN n z = some j := by
  unfold ixN
  rw [e, if_pos (by omega), if_pos (by omega)]
  simp
/-! ### steps -/
section
variable {H0 H : Hp} {L : List Ent} {l : Addr} {xs zs : List V} {y : V} {Q : VK} {QH : Hp → Prop} {o : HO}
theorem st_new (w : W H0 H L) (k : ∀ p H', W H0 H' ((p, o) :: L) → Q (.ref p) H') : xNew o H Q := by
  unfold xNew; exact fun p hp => k p _ (w.new o hp)
theorem st_tup (w : W H0 H L) (k : ∀ p H', H' p = some (.tup xs) → W H0 H' L → Q (.ref p) H') : xNew (.tup xs) H Q := by
  unfold xNew; exact fun p hp => k p _ upd_same (w.skip hp)
theorem st_app (w : W H0 H L) (i : Nat) (h : L[i]? = some (l, .lst xs)) (hz : xs.length < sizeLine) (k : ∀ H', W H0 H' (L.set i (l, .lst (xs ++ [y]))) → Q .non H') : xApp (.ref l) [y] H Q := by
  unfold xApp; exact ⟨l, xs, y, rfl, rfl, w.get i h, hz, k _ (w.set i _ h rfl)⟩
theorem st_pop (w : W H0 H L) (i : Nat) (h : L[i]? = some (l, .lst xs)) (hy : xs[xs.length - 1]? = some y) (k : ∀ H', W H0 H' (L.set i (l, .lst xs.dropLast)) → Q y H') : xPop (.ref l) [] H Q := by
  unfold xPop; exact ⟨l, xs, y, rfl, rfl, w.get i h, hy, k _ (w.set i _ h rfl)⟩
theorem st_pop0 (w : W H0 H L) (i : Nat) (h : L[i]? = some (l, .lst (y :: xs))) (k : ∀ H', W H0 H' (L.set i (l, .lst xs)) → Q y H') : xPopAt (.ref l) [.int 0] H Q := by
  unfold xPopAt
  refine ⟨l, y :: xs, 0, 0, y, rfl, rfl, w.get i h, by decide, by decide, ?_, rfl, k _ (w.set i _ h rfl)⟩
  show seqIndex? 0 (xs.length + 1) = some 0
  unfold seqIndex?
  simp
theorem st_ins (w : W H0 H L) (i : Nat) {n : Int} (h : L[i]? = some (l, .lst xs)) (hz : xs.length < sizeLine) (h0 : 0 ≤ n) (h1 : n < 2 ^ 63) (k : ∀ H', W H0 H' (L.set i (l, .lst (xs.take n.toNat ++ [y] ++ xs.drop n.toNat))) → Q .non H') : xIns (.ref l) [.int n, y] H Q := by
  unfold xIns; exact ⟨l, xs, n, y, rfl, rfl, w.get i h, hz, h0, h1, k _ (w.set i _ h rfl)⟩
theorem find_first {ns : List Int} {n : Int} (hm : n ∈ ns) : ∃ j, ns[j]? = some n ∧ (∀ m, m < j → ns[m]? ≠ some n) ∧ ns.eraseIdx j = ns.erase n := by
  induction ns with
  | nil => cases hm
  | cons a r ih =>
    by_cases e : a = n
    · subst e
      exact ⟨0, rfl, fun m hm => absurd hm (Nat.not_lt_zero m), by simp⟩
    · obtain ⟨j, h1, h2, h3⟩ := ih ((List.mem_cons.mp hm).resolve_left fun z => e z.symm)
      refine ⟨j + 1, h1, fun m hm => ?_, ?_⟩
      · cases m with
        | zero => exact fun z => e (Option.some.inj z)
        | succ m => exact h2 m (Nat.lt_of_succ_lt_succ hm)
      · rw [List.eraseIdx_cons_succ, h3, List.erase_cons_tail (by simpa using e)]
theorem st_rem (w : W H0 H L) (i : Nat) {ns : List Int} {n : Int} (h : L[i]? = some (l, .lst (ns.map V.int))) (hm : n ∈ ns) (k : ∀ H', W H0 H' (L.set i (l, .lst ((ns.erase n).map V.int))) → Q .non H') : xRem (.ref l) [.int n] H Q := by
  obtain ⟨j, h1, h2, h3⟩ := find_first hm
  unfold xRem
  refine ⟨l, ns, n, j, rfl, rfl, w.get i h, h1, h2, ?_⟩
  rw [h3]
  exact k _ (w.set i _ h rfl)
theorem st_setL (w : W H0 H L) (i : Nat) {n : Int} {j : Nat} (h : L[i]? = some (l, .lst xs)) (hj : ixN xs.length n = some j) (k : ∀ H', W H0 H' (L.set i (l, .lst (xs.set j y))) → QH H') : xSetL (.ref l) (.int n) y H QH := by
  unfold xSetL; exact ⟨l, xs, n, j, rfl, rfl, w.get i h, hj, k _ (w.set i _ h rfl)⟩
theorem st_fld {K : PySem.W.Frag} {C dx : Addr} {f : Str} {fs : List (Str × V)} (w : W H0 H L) (i : Nat) (h : L[i]? = some (l, .ins C dx fs)) (c : Cls K C) (n : NoAttr K C f) (hz : fs.length < 1000)
    (k : ∀ H', W H0 H' (L.set i (l, .ins C dx (putF f y fs))) → QH H') : xFldSt K f (.ref l) y H QH := by
  unfold xFldSt; exact ⟨l, C, dx, fs, rfl, w.get i h, c, n, hz, k _ (w.set i _ h rfl)⟩
theorem st_dput {key : Key} {kvs : List (Key × V)} {kv : V} (w : W H0 H L) (i : Nat) (h : L[i]? = some (l, .dK kvs)) (hk : kv = kV key) (hz : kvs.length < sizeLine) (k : ∀ H', W H0 H' (L.set i (l, .dK (putK kvs key y))) → QH H') : xDPut (.ref l) kv y H QH := by
  subst hk
  unfold xDPut; exact ⟨l, _, rfl, DPut.k (w.get i h) hz, k _ (w.set i _ h rfl)⟩
theorem st_make {C : Addr} {sp : Sp} {E : XK} {vs : List V} (w : W H0 H L) (k : ∀ x dx H', W H0 H' ((x, .ins C dx []) :: L) → sp (.ref x :: vs) H' (fun v H2 => v = .non ∧ Q (.ref x) H2) E) : xMake C sp E vs H Q := by
  unfold xMake; exact fun x dx hx hdx ne => k x dx _ ((w.skip hdx).new _ (by rw [upd_ne (Ne.symm ne)]; exact hx))
theorem st_call {sp : Sp} {E : XK} {vs : List V} (h : sp vs H Q E) : xCall sp vs H Q E := by unfold xCall; exact h
theorem st_forR {lo : Int} {n : Nat} {g : TG} {tb : TS} {D : Ends} {σ : L2.St} (Pv : Nat → L2.St → Hp → Prop) (h0 : Pv 0 σ H)
    (hs : ∀ i σ H, i < n → Pv i σ H → g (.int (lo + i)) σ H fun σ2 H2 => tb { D with nx := Pv (i + 1), ct := Pv (i + 1), bk := D.nx } σ2 H2) (hd : ∀ σ H, Pv n σ H → D.nx σ H) : xFor (Itr lo n) g tb D σ H := by
  unfold xFor; exact for_range Pv h0 hs hd
theorem st_forRC {lo c : Int} {n : Nat} {g : TG} {tb : TS} {D : Ends} {σ : L2.St} (Pv : Nat → L2.St → Hp → Prop) (h0 : Pv 0 σ H)
    (hs : ∀ i σ H, i < n → Pv i σ H → g (.int (lo + (i : Nat) * c)) σ H fun σ2 H2 => tb { D with nx := Pv (i + 1), ct := Pv (i + 1), bk := D.nx } σ2 H2) (hd : ∀ σ H, Pv n σ H → D.nx σ H) : xFor (Itc lo c n) g tb D σ H := by
  unfold xFor; exact for_rangeC Pv h0 hs hd
theorem st_forL {K : PySem.W.Frag} {a : Addr} {g : TG} {tb : TS} {D : Ends} {σ : L2.St} (Pv : Nat → L2.St → Hp → Prop) (h0 : Pv 0 σ H) (hl : ∀ i σ H, i ≤ xs.length → Pv i σ H → SqL K H a xs)
    (hs : ∀ i x σ H, xs[i]? = some x → Pv i σ H → g x σ H fun σ2 H2 => tb { D with nx := Pv (i + 1), ct := Pv (i + 1), bk := D.nx } σ2 H2) (hd : ∀ σ H, Pv xs.length σ H → D.nx σ H) : xFor (Itl K a) g tb D σ H := by
  unfold xFor; exact for_list Pv h0 hl hs hd
theorem st_forT {K : PySem.W.Frag} {a : Addr} {g : TG} {tb : TS} {D : Ends} {σ : L2.St} (Pv : Nat → L2.St → Hp → Prop) (h0 : Pv 0 σ H) (hl : ∀ i σ H, i ≤ xs.length → Pv i σ H → SqT K H a xs)
    (hs : ∀ i x σ H, xs[i]? = some x → Pv i σ H → g x σ H fun σ2 H2 => tb { D with nx := Pv (i + 1), ct := Pv (i + 1), bk := D.nx } σ2 H2) (hd : ∀ σ H, Pv xs.length σ H → D.nx σ H) : xFor (Itt K a) g tb D σ H := by
  unfold xFor; exact for_tup Pv h0 hl hs hd
/-- while: W, by a number that falls -/
theorem st_while {c : TT} {tb : TS} {D : Ends} {σ : L2.St} (Wv : Nat → L2.St → Hp → Prop) (m0 : Nat) (h0 : Wv m0 σ H)
    (hs : ∀ m σ H, Wv m σ H → c σ H fun b H1 => xIf b (tb { D with nx := fun σ' H' => ∃ m', m' < m ∧ Wv m' σ' H', ct := fun σ' H' => ∃ m', m' < m ∧ Wv m' σ' H', bk := D.nx } σ H1) (D.nx σ H1))
    (mono : ∀ σ H Q Q', (∀ b H1, Q b H1 → Q' b H1) → c σ H Q → c σ H Q') : xWhile c tb D σ H := by
  unfold xWhile
  refine ⟨Wv, ⟨m0, h0⟩, fun m σ H hw => mono σ H _ _ (fun b H1 q => ?_) (hs m σ H hw)⟩
  unfold xIf at q
  cases b with
  | true => exact ⟨_, fun _ _ z => z, q⟩
  | false => exact q
end
end TR
namespace TR
open PySem L2
section
variable {X : Cx} {x : Str} {pos : Pos}
theorem my_globI {i : Int} (h : ∃ t, X.mg x = some (.int i t)) (hg : Gl X x) (hd : (x == ("__debug__" : Str)) = false := by decide) : PE X (.Name x pos) (tC (.int i)) := by
  obtain ⟨t, h⟩ := h
  exact pe_glob hg h ⟨t, rfl⟩ hd
theorem my_globS {z : Str} (h : ∃ t, X.mg x = some (.str z t)) (hg : Gl X x) (hd : (x == ("__debug__" : Str)) = false := by decide) : PE X (.Name x pos) (tC (.str z)) := by
  obtain ⟨t, h⟩ := h
  exact pe_glob hg h ⟨t, rfl⟩ hd
theorem my_globR {a : Addr} (h : X.mg x = some (.ref a)) (hg : Gl X x) (hd : (x == ("__debug__" : Str)) = false := by decide) : PE X (.Name x pos) (tC (.ref a)) := pe_glob hg h rfl hd
end
theorem nb_t {a b : Prop} [Decidable a] [Decidable b] (h : (!(decide a && decide b)) = true) : ¬ (a ∧ b) := fun ⟨x, y⟩ => by
  rw [decide_eq_true x, decide_eq_true y] at h; cases h
theorem nb_f {a b : Prop} [Decidable a] [Decidable b] (h : (!(decide a && decide b)) = false) : a ∧ b := by
  by_cases x : a
  · by_cases y : b
    · exact ⟨x, y⟩
    · rw [decide_eq_true x, decide_eq_false y] at h; cases h
  · rw [decide_eq_false x] at h; cases h
theorem de_t {i j : Int} (h : decide (V.int i = V.int j) = true) : i = j := V.int.inj (of_decide_eq_true h)
theorem de_f {i j : Int} (h : decide (V.int i = V.int j) = false) : i ≠ j := fun z => of_decide_eq_false h (by rw [z])
/-- where the script stands: an entry of the ledger, or the written part -/
def Scr (K : PySem.W.Frag) (a : Addr) (ns : List Int) (R : List Ent) : Prop := ∀ H0 H, W H0 H R → SqL K H a (ns.map V.int)
theorem Scr.cons {K : PySem.W.Frag} {a : Addr} {ns : List Int} {R : List Ent} {x : Ent} (s : Scr K a ns R) : Scr K a ns (x :: R) := fun _ _ w => s _ _ w.drop1
theorem Scr.app {K : PySem.W.Frag} {a : Addr} {ns : List Int} {R L : List Ent} (s : Scr K a ns R) : Scr K a ns (L ++ R) := fun _ _ w => s _ _ w.dropL
@[irreducible] def sp_law (K : PySem.W.Frag) : Sp := fun vs H Q _ => ∃ (a : Addr) (ns : List Int) (R : List Ent), vs = [.ref a] ∧ Scr K a ns R ∧ W H H R ∧ ns.length ≤ 63 ∧ ∀ H', Q (.bl true) H'
theorem of_law {K : PySem.W.Frag} {vs : List V} {H : Hp} {Q : VK} {E : XK} (h :  ∃ (a : Addr) (ns : List Int) (R : List Ent), vs = [.ref a] ∧ Scr K a ns R ∧ W H H R ∧ ns.length ≤ 63 ∧ ∀ H', Q (.bl true) H') : sp_law K vs H Q E := by unfold sp_law; exact h
theorem law_pre {K : PySem.W.Frag} {H : Hp} {a : Addr} {ns : List Int} (hl : ns.length ≤ 63) (hO : Only H) (hS : SqL K H a (ns.map V.int)) : sp_law K [.ref a] H (fun v _ => v = .bl true) fun _ _ _ => False := by
  unfold sp_law
  rcases hS with (h | ⟨o, h⟩) | h
  · exact ⟨a, ns, [(a, .lst (ns.map V.int))], rfl, fun H0 H' w => SqL.of (w.get 0 rfl), ⟨by simp, fun x hx => by rw [List.mem_singleton.mp hx]; exact h, fun _ _ e => e⟩, hl, fun _ => rfl⟩
  · exact ⟨a, ns, [(a, .frz o (.lst (ns.map V.int)))], rfl, fun H0 H' w => .inl (.inr ⟨o, w.get 0 rfl⟩), ⟨by simp, fun x hx => by rw [List.mem_singleton.mp hx]; exact h, fun _ _ e => e⟩, hl, fun _ => rfl⟩
  · exact ⟨a, ns, [], rfl, fun H0 H' w => .inr h, ⟨by simp, fun x hx => (nomatch hx), fun _ _ e => e⟩, hl, fun _ => rfl⟩
theorem binds1 {K : PySem.W.Frag} {x qual : Str} {st : Stmt} {f : Addr} {fd : FuncData} {p : Str} (F : Fun K x qual st f fd)
    (h : ∀ (kV doc pm : Value) (an : Option Addr) (cdv ct : Value) (us : List Value), us.length = [p].length → bindArgs (PySem.W.fnOf x qual (defArgs st) (defBody st) (defScope st) .none kV doc pm an cdv ct) ⟨us, []⟩ = pure ([p].zip us)) (s : Shared) (v : Value) : BindsTo s fd ⟨[v], []⟩ [(p, v)] := by
  obtain ⟨oc, od, kV, doc, pm, an, cdv, ct, osl, rfl, lk, hcd⟩ := F.ex
  exact .of_eq (h kV doc pm an cdv ct [v] rfl)
open PySem.Spec PyProof.Rows in
theorem law_end {l : PySem.W.OpenLaw} {n k : Nat} {q : Program} {loose : List Str} {XP : (Str → Option Value) → Heap → Prop} {YP : World → Heap → Prop} {d : DefRec} {x : Str}
    (hn : l.most = some n) (hn2 : n ≤ sizeLine) (hdf : d.params.defaults = []) (hr : Room k callerA)
    (F : ∀ (w : World) (mg : Str → Option Value) (fa : Addr) (h : Heap), YP w h → h.Ns mainGlobals mg → mg d.name = some (.ref fa) →
      ∃ (K : PySem.W.Frag) (fd : FuncData) (sp : Sp), K.In h ∧ (∀ (s : Shared) (u : Value), BindsTo s fd ⟨[u], []⟩ [(x, u)]) ∧
        (∀ (H : Hp) (a : Addr) (ns : List Int), ns.length ≤ n → Only H → SqL K H a (ns.map V.int) → sp [.ref a] H (fun v _ => v = .bl true) fun _ _ _ => False) ∧
        ∀ base : Heap, K.In base → base.Ns mainGlobals mg → FnOk l.prog w K mg base (L2.CX l.prog w) k fa fd [x] sp) :
    PySem.W.WalkO q loose XP YP l.row.toRowW d [] (fun f vs => PySem.call f vs) := by
  refine Att.attach_call hn hdf fun w s₀ s₁ mg mb fa o pm cd doc a vs ns G Y ho hd hcd hmg hobj hints hlen hg => ?_
  obtain ⟨K, fd, sp, KX, hb, hsp, hF⟩ := F w mg fa _ Y G.T.g hmg
  refine law_call KX G.T.g G.T.b G.T.builtins G.T.nolimit hg hobj hints (Nat.le_trans hlen hn2) hr hF hb (fun H hO hS => hsp H a ns hlen hO hS) fun H e s' h => ?_
  obtain ⟨_, _, _, _, _, _, _, _, _, _, _, _, z⟩ := h
  exact z.elim
end TR
namespace TR
open PySem PySem.Spec PyProof.Rows L2
/-! ### an exception that was caught and is held by a name behind the suite -/
def ExH (cls : Value) (d : Option Addr) (a : Addr) : HO :=
  .ext fun h => ∃ (oe : Obj) (vs : Array Value), h.get? a = some oe ∧ Zc cls d oe ∧ oe.data = .fields vs
section
variable {X : Cx} {pins : List (Addr × Obj)} {σ : L2.St} {H : Hp} {s : Shared}
/-- an untracked exception of ours comes to be tracked -/
theorem inv_track {a : Addr} {oe : Obj} {vs : Array Value} {cls : Value} {d : Option Addr} (I : Inv X pins σ H s)
    (ha : s.heap.get? a = some oe) (z : Zc cls d oe) (hv : oe.data = .fields vs) (na : H a = none)
    (nL : X.env.locals ≠ a) (n0 : ∀ o, X.s_0.heap.get? a = some o → a ∈ X.ex) (np : ∀ p ∈ X.pn ++ pins, p.1 ≠ a) :
    Inv X pins σ (upd H a (ExH cls d a)) s := by
  have keepN : ∀ b, H b = none → b ≠ a → upd H a (ExH cls d a) b = none := fun b hb ne => by
    rw [upd_ne ne]
    exact hb
  have keepS : ∀ b o, H b = some o → upd H a (ExH cls d a) b = some o := fun b o hb => by
    rw [upd_ne (ne_of_none hb na)]
    exact hb
  have obj : ObjOk X.prog X.w (upd H a (ExH cls d a)) s.heap a (ExH cls d a) :=
    ⟨⟨oe, vs, ha, z, hv⟩, ⟨oe, ha⟩, fun _ _ ⟨o, v, q, r⟩ k => ⟨o, v, k o q, r⟩⟩
  constructor
  · exact I.ok
  · exact I.os
  · exact I.bare
  · constructor
    · exact I.base.keep
    · exact I.base.slot
    · intro b o e n hx
      refine keepN b (I.base.free b o e n hx) fun q => ?_
      subst q
      exact hx (n0 o e)
    · exact I.base.there
    · exact fun b xs e => keepS b _ (I.base.tups b xs e)
    · exact fun b o u e => keepS b _ (I.base.frzs b o u e)
    · intro b ps e
      obtain ⟨m, q⟩ := I.base.tbls b ps e
      exact ⟨m, keepS b _ q⟩
  · exact I.loc
  · exact I.cell
  · exact keepN _ I.free nL
  · intro x c e
    refine keepN c (I.freeC x c e) fun q => ?_
    obtain ⟨v, o, ho, hd⟩ := I.cell x c e
    rw [q, ha] at ho
    cases ho
    rw [hv] at hd
    cases hd
  · intro p hp
    obtain ⟨h1, h2, h3⟩ := I.pin p hp
    exact ⟨h1, keepN p.1 h2 (np p hp), h3⟩
  · exact HOk.laidN I.hok (fun _ _ q => q) na obj
  · exact I.len
end
/-- what is wished of an exception of the body: it is of the clause's class; behind the suite it is held in slot j -/
def wHeld (K : PySem.W.Frag) (c : Value) (i j : Nat) (D : Ends) : WX := fun cls d σ H =>
  PySem.W.exmOne K cls c = some true ∧ ∀ a, H a = none → D.nx (((σ.set i (some (.ref a))).set j (some (.ref a))).set i none) (upd H a (ExH cls d a))
section
variable {X : Cx} {x n m : Str} {c : Value} {i j : Nat} {body : List Stmt} {np pos pos' hp ep ap : Pos} {tb : WX → TS}
/-- try: body / except x as n: m = n -/
theorem my_tryHeld (hs : X.stack = X.env :: X.outer) (hf : X.env.frame = some X.env.locals) (hN : X.N.Nodup)
    (hi : X.N[i]? = some n) (hln : X.env.kindOf n = some .local) (hj : X.N[j]? = some m) (hlm : X.env.kindOf m = some .local) (hij : i ≠ j)
    (hc : Names X x c) (hdb : (n == ("__debug__" : Str)) = false) (hcd : (n == ("__classdict__" : Str)) = false)
    (hsw : ∀ (a : Addr) (pn : List (Addr × Obj)), swapsWith (.Name n ep) (some (.Name m hp)) ap.line (X.suite a pn).env = pure false)
    (hb : ∀ (W : WX) (pn : List (Addr × Obj)) (xe : Value → Shared → Prop), Takes (X.tr pn xe) W →
      PassesOwn (model X.prog X.w) X.A X.env xe → PSs (X.tr pn xe) body (tb W)) :
    PS X (.Try body [.ExceptHandler (some (.Name x np)) (some n) [.Assign [.Name m hp] (.Name n ep) ap] pos'] [] [] pos)
      (fun D σ H => tb (wHeld X.K c i j D) D σ H) := by
  constructor
  intro pins s σ H D I h
  have ok := I.ok
  have frm : X.A.frames = some (X.env :: X.outer) := by
    rw [ok.frames, hs]
  apply wpAny_Try_except
  have key : ∀ xe : Value → Shared → Prop, Takes (X.tr (X.pn ++ pins) xe) (wHeld X.K c i j D) → PassesOwn (model X.prog X.w) X.A X.env xe →
      wpAny (model X.prog X.w) X.A (execs body X.env) (fun f s₁ => match f with
        | .next => wpAny (model X.prog X.w) X.A (execs [] X.env) (SP X pins D) X.xe s₁
        | f => SP X pins D f s₁) xe s := by
    intro xe tk po
    apply wpAny_mono ((hb _ _ xe tk po).run [] s σ H D (I.toTry _) h)
    · intro f s1 sp
      cases f with
      | next =>
        obtain ⟨σ1, H1, J1, q1⟩ := sp
        exact wpAny_execs_nil ⟨σ1, H1, J1.ofTry ok, q1⟩
      | brk =>
        obtain ⟨σ1, H1, J1, q1⟩ := sp
        exact ⟨σ1, H1, J1.ofTry ok, q1⟩
      | cont =>
        obtain ⟨σ1, H1, J1, q1⟩ := sp
        exact ⟨σ1, H1, J1.ofTry ok, q1⟩
      | ret u =>
        obtain ⟨v, σ1, H1, J1, r1, q1⟩ := sp
        exact ⟨v, σ1, H1, J1.ofTry ok, r1, q1⟩
    · exact fun _ _ z => z
  refine key _ (fun u s' xx => ?_) PassesOwn.looking
  · obtain ⟨a, B, sI, pins1, σ1, H1, cls, d, rfl, J1, nb, up, sky, na, os, ag, hm, wish⟩ := xx
    have J : Inv X pins σ1 H1 sI := J1.ofTry ok
    rw [hs] at sky nb
    refine Sky.land Zc.steady frm hf sky fun h3 fl up3 => ?_
    have newB : B.get? a = none := fl.2.1
    obtain ⟨o3, v3, g3, z3, d3⟩ := fl.there
    have nfr : a ∉ frs (X.env :: X.outer) := by
      intro q
      obtain ⟨_, o, e, no⟩ := fl.2.2.1.mem q
      rw [g3] at e
      cases e
      exact no _ d3
    have nL : a ≠ X.env.locals := by
      intro q
      refine nfr (List.mem_filterMap.mpr ⟨X.env, List.mem_cons_self, ?_⟩)
      rw [hf, q]
    have nF : a ∉ X.fs := by
      intro q
      obtain ⟨e, he, z⟩ := List.mem_filterMap.mp q
      exact nfr (List.mem_filterMap.mpr ⟨e, List.mem_cons_of_mem _ he, z⟩)
    have notI : ∀ o, sI.heap.get? a ≠ some o := by
      intro o e
      have := nb a o e nfr
      rw [newB] at this
      cases this
    have J3 : Inv X pins σ1 H1 { s' with heap := h3 } := by
      rw [← hs] at nb
      exact J.landed nb fl.1 (up.trans up3) os ag
    have S3 := J3.suite g3 d3 na nL nF
    apply wpAny_handleBy_cons (codeAny_handlers_test ?_) (by intro q; cases q)
    have LT : PySem.W.Looks (model X.prog X.w) h3 (typeOf (.ref a)) cls := by
      intro A Q E s k q
      apply wpAny_typeOf_ref (k _ _ g3)
      rw [z3.1]
      exact q
    have LM := PySem.W.exm_one (M := model X.prog X.w) J3.kIn LT hm
    have look : ∀ {Q : Value → Shared → Prop} {E : Value → Shared → Prop}, Q c { s' with heap := h3 } →
        wpAny (model X.prog X.w) (X.A.mark (some (.ref a))) (eval (.Name x np) X.env) Q E { s' with heap := h3 } := by
      intro Q E q
      obtain ⟨hg, hd1, h1 | ⟨h1, h2, h4⟩⟩ := hc
      · exact ld_glob S3 hg h1 q hd1
      · exact ld_blt S3 hg h1 h2 q h4 hd1
    apply look
    apply LM.here
    apply codeAny_handlers_suite_as
    apply HandSPX.lands_againZ fl
    intro h4 fl4 up4
    have J4 : Inv X pins σ1 H1 { s' with heap := h4 } := by
      rw [← hs] at nb
      exact J.landed nb fl4.1 ((up.trans up3).trans up4) os ag
    obtain ⟨o4, v4, g4, z4, d4⟩ := fl4.there
    have S4 := J4.suite g4 d4 na nL nF
    refine store_ok (X := X.suite a _) (v := .ref a) S4 hN hi (.inl hln) rfl (fun s5 S5 => ?_) (.inr hln)
    -- the suite: m = n
    have su : PSs (X.suite a ((a, o4) :: (X.pn ++ pins))) [.Assign [.Name m hp] (.Name n ep) ap] (tAsg (tVar i) (gName j)) :=
      pss_one (ps_set hN hj (.inl hlm) (pe_var hi (.inl hln) hdb hcd) (hsw a _) (.inr hlm))
    have slot : ((σ1.set i (some (V.ref a))) : L2.St)[i]? = some (some (V.ref a)) := by
      have : i < σ1.length := by
        rw [J.len]
        exact (List.getElem?_eq_some_iff.mp hi).1
      rw [List.getElem?_set_self this]
    have red : tAsg (tVar i) (gName j) { nx := fun σ6 H6 => σ6 = (σ1.set i (some (.ref a))).set j (some (.ref a)) ∧ H6 = H1, rt := fun _ _ => False } (σ1.set i (some (.ref a))) H1 :=
      ⟨_, slot, rfl, rfl⟩
    apply wpAny_mono (su.run [] s5 _ H1 _ S5 red)
    · intro f s6 sp
      cases f with
      | next =>
        obtain ⟨σ6, H6, S6, rfl, rfl⟩ := sp
        refine gone_ok (X := X.suite a _) S6 hN hi hln fun s7 S7 => ?_
        obtain ⟨g7, _, _, _, _⟩ := S7.pin (a, o4) (List.mem_append_left _ List.mem_cons_self)
        have J7 : Inv X pins _ H6 s7 := S7.unsuite ok
        refine ⟨_, _, inv_track J7 g7 z4 d4 na (Ne.symm nL) ?_ ?_, wish a na⟩
        · intro o e
          apply Classical.byContradiction
          intro nx
          obtain ⟨o', q⟩ := J.base.there a o e nx
          exact notI o' q
        · intro p hp q
          obtain ⟨e, _⟩ := J.pin p hp
          rw [q] at e
          exact notI _ e
      | brk =>
        obtain ⟨_, _, _, z⟩ := sp
        exact z.elim
      | cont =>
        obtain ⟨_, _, _, z⟩ := sp
        exact z.elim
      | ret u =>
        obtain ⟨_, _, _, _, _, z⟩ := sp
        exact z.elim
    · exact fun _ _ z => z.elim
end
section
variable {X : Cx}
/-- isinstance(e, c), e a held exception -/
def rIsH (K : PySem.W.Frag) : List V → Hp → VK → Prop := fun xs H Q =>
  ∃ (a D : Addr) (c : V) (cv : Value) (b : Bool), xs = [.ref a, c] ∧ H a = some (ExH (.ref D) none a) ∧ ExcC K D ∧ (∀ u, RelV c u → u = cv) ∧ PySem.W.kitOne K (.ref D) cv = some b ∧ Q (.bl b) H
theorem my_isi : CallR X (.builtin "isinstance") (rIsH X.K) := by
  intro pins s σ H xs us Q I r h
  obtain ⟨a, D, c, cv, b, rfl, ha, C, hcv, e, q⟩ := h
  obtain ⟨u, v, rfl, ru, rv⟩ := r.two
  cases ru
  cases hcv _ rv
  obtain ⟨⟨oe, vs, g, hz, hv⟩, _, _⟩ := I.hok a _ ha
  have J : PySem.W.InstAt s.heap a oe D none := by
    obtain ⟨oc, od, dt, sl⟩ := oe
    obtain ⟨h1, h2⟩ := hz
    simp only at h1 h2 hv
    subst h1 h2 hv
    exact ⟨g, rfl, rfl, trivial⟩
  have kit := PySem.W.handS_kitx_exc (x := a) (ox := oe) C.hg C.hk C.hs C.hd C.ha C.hn C.ht C.hm
  apply PySem.W.kia_one kit I.kIn J e (fun z => nomatch z)
  intro tk
  exact ⟨.bl b, H, I.kept (t' := tk) fun _ _ z => z, rfl, q⟩
/-- xs.count(y), flat things -/
def rCntV (K : PySem.W.Frag) : V → List V → Hp → VK → Prop := fun x xs H Q =>
  ∃ (p : Addr) (ys : List V) (y : V), x = .ref p ∧ xs = [y] ∧ SqL K H p ys ∧ flatV y = true ∧ ys.all flatV = true ∧ Q (.int (ys.countP fun z => eqV z y : Nat)) H
theorem cnt_eqU {y : V} : ∀ {xs : List V} {us : List Value}, Vals xs us → xs.all flatV = true → us.countP (eqU y) = xs.countP fun z => eqV z y
  | _, _, .nil, _ => rfl
  | x :: xs, u :: us, .cons r t, f => by
    obtain ⟨f1, f2⟩ := Bool.and_eq_true_iff.mp (show (flatV x && xs.all flatV) = true from f)
    rw [List.countP_cons, List.countP_cons, cnt_eqU t f2, eqU_of r f1]
theorem my_count : MtR X "list.count" (rCntV X.K) := by
  intro pins s σ H x xs v us Q I rx rxs h
  obtain ⟨p, ys, y, rfl, rfl, hs, fy, fys, q⟩ := h
  cases rx
  obtain ⟨u, rfl, ry⟩ := rxs.one
  obtain ⟨its, rv, ⟨ob, n, ho, hc, hdn, hd⟩, hlen⟩ := I.list hs
  obtain ⟨cls, dd, data, sl⟩ := ob
  simp only at hc hd
  subst hc hd
  refine call_meets PySem.F.slot_list_count ⟨_, ho, rfl⟩ PySem.F.entry_list_count (PySem.F.args_list_count_2 _ _) (SeqAt.list_countAt p its.toArray n dd sl u (eqU y)) ⟨ho, ?_, ?_⟩
  · intro z hz
    exact mem_eqAt ry fy rv fys z (by simpa using hz)
  · have e : its.toArray.toList.countP (eqU y) = ys.countP fun z => eqV z y := by
      simpa using cnt_eqU (y := y) rv fys
    refine ⟨.int _, H, I.tok _, ⟨s.toks, ?_⟩, q⟩
    show Value.int (its.toArray.toList.countP (eqU y) : Nat) s.toks = _
    rw [e]
end
end TR
namespace TR
open PySem PySem.Spec PyProof.Rows L2
/-! ### calls in a try's body: what is raised is wished for at the slots -/
section
variable {X : Cx} {CX : CXT} {k : Nat} {f C : Addr} {fd : FuncData} {ps : List Str} {sp : Sp} {W : WX} {x m : Str} {p pos apos : Pos} {e o : Expr} {es : List Expr} {ta : TE} {t : TA}
def uCallS (sp : Sp) (W : WX) (t : TA) : TE := fun σ H Q => t σ H fun vs H1 => xCall sp vs H1 Q (WE W σ)
def uMethS (C : Addr) (m : Str) (sp : Sp) (W : WX) (ta : TE) (t : TA) : TE := fun σ H Q => ta σ H fun x H1 => ∃ a dx fs, x = .ref a ∧ H1 a = some (.ins C dx fs) ∧ fs.lookup m = none ∧ t σ H1 fun vs H2 => xCall sp (x :: vs) H2 Q (WE W σ)
def uMakeS (C : Addr) (sp : Sp) (W : WX) (t : TA) : TE := fun σ H Q => t σ H fun vs H1 => xMake C sp (WE W σ) vs H1 Q
theorem my_callS (F : FnOk X.prog X.w X.K X.mg X.base (L2.CX X.prog X.w) k f fd ps sp) (hr : Room k X.A) (hg : Gl X x) (hm : X.mg x = some (.ref f))
    (hk : PySem.W.keepIn X.K (.ref f) = true) (hb : Binds X.K fd ps []) (tk : Takes X W) (ha : PA X (e :: es) t)
    (hdb : (x == ("__debug__" : Str)) = false := by decide) (he : starEach (e :: es) X.env = (false, eval e X.env) :: starEach es X.env := by rfl)
    (hpl : (backTo pos (starEach es X.env)).any (·.1) = false := by rfl) : PE X (.Call (.Name x p) (e :: es) [] pos) (uCallS sp W t) := by
  refine PE.le (pe_callS (E := WE W) F hr hg hm hk hb (fun σ => passAt tk σ) ha hdb he hpl) ?_
  intro σ H Q q
  unfold uCallS xCall at q
  exact q
theorem my_methS {pl : Sem Bool} (he : PE X o ta) (c : Cls X.K C) (hm : Meth X.K C m f) (F : FnOk X.prog X.w X.K X.mg X.base (L2.CX X.prog X.w) k f fd ps sp)
    (hr : Room k X.A) (hb : Binds X.K fd ps []) (tk : Takes X W) (ha : PA X (e :: es) t)
    (hst : starEach (e :: es) X.env = (false, eval e X.env) :: starEach es X.env := by rfl) (hpl : (backTo pos (starEach es X.env)).any (·.1) = false := by rfl)
    (ht : eval (.Call (.Attribute o m apos) (e :: es) [] pos) X.env = (do
      let ov ← eval o X.env
      standAt apos.atName
      let (f, first) ← holding [ov] (getMethod ov m pl)
      callWith pos f first (backTo pos (starEach (e :: es) X.env)) (backToKw pos (keywordEach [] X.env))) := by rfl) :
    PE X (.Call (.Attribute o m apos) (e :: es) [] pos) (uMethS C m sp W ta t) := by
  constructor
  intro pins s σ H Q I h
  apply PySem.W.methodCall_KW (pl := pl) _ ht
  apply thn (he.run pins s σ H _ I h)
  rintro u s1 ⟨y, H1, I1, ry, a, dx, fs, rfl, ea, lk, q⟩
  cases ry
  apply getmeth_ok I1 ea c hm lk
  apply PySem.W.callWith_K (first := [.ref a]) (h₀ := X.base) I.ok.mod.kin hm.kp _ hst hpl
  apply thn (ha.run pos pins s1 σ H1 _ I1 q)
  rintro us s2 ⟨vs, H2, I2, r, q2⟩
  refine ⟨I2.kIn, ?_⟩
  unfold xCall at q2
  exact run_fnS (E := WE W) (us := .ref a :: us) (vs := .ref a :: vs) F hr hb (passAt tk σ) I2 (.cons rfl r) q2
theorem my_meth0S {pl : Sem Bool} (he : PE X o ta) (c : Cls X.K C) (hm : Meth X.K C m f) (F : FnOk X.prog X.w X.K X.mg X.base (L2.CX X.prog X.w) k f fd ps sp)
    (hr : Room k X.A) (hb : Binds X.K fd ps []) (tk : Takes X W)
    (ht : eval (.Call (.Attribute o m apos) [] [] pos) X.env = (do
      let ov ← eval o X.env
      standAt apos.atName
      let (f, first) ← holding [ov] (getMethod ov m pl)
      callWith pos f first (backTo pos (starEach [] X.env)) (backToKw pos (keywordEach [] X.env))) := by rfl) :
    PE X (.Call (.Attribute o m apos) [] [] pos) (uMethS C m sp W ta tNil) := by
  constructor
  intro pins s σ H Q I h
  apply PySem.W.methodCall_KW (pl := pl) _ ht
  apply thn (he.run pins s σ H _ I h)
  rintro u s1 ⟨y, H1, I1, ry, a, dx, fs, rfl, ea, lk, q⟩
  cases ry
  apply getmeth_ok I1 ea c hm lk
  have q2 : xCall sp [.ref a] H1 Q (WE W σ) := q
  unfold xCall at q2
  exact PySem.W.callWith_K0 (first := [.ref a]) I1.kIn hm.kp (run_fnS (E := WE W) (us := [.ref a]) (vs := [.ref a]) F hr hb (passAt tk σ) I1 (.cons rfl .nil) q2)
theorem my_makeS (M : Mk X.K C f) (F : FnOk X.prog X.w X.K X.mg X.base (L2.CX X.prog X.w) k f fd ps sp) (hr : Room (k + 1) X.A) (hg : Gl X x) (hm : X.mg x = some (.ref C))
    (hb : Binds X.K fd ps []) (tk : Takes X W) (ha : PA X (e :: es) t)
    (hdb : (x == ("__debug__" : Str)) = false := by decide) (he : starEach (e :: es) X.env = (false, eval e X.env) :: starEach es X.env := by rfl)
    (hpl : (backTo pos (starEach es X.env)).any (·.1) = false := by rfl) : PE X (.Call (.Name x p) (e :: es) [] pos) (uMakeS C sp W t) := by
  constructor
  intro pins s σ H Q I h
  apply wpAny_Call_Name_kw
  apply ld_glob I hg hm _ hdb
  apply PySem.W.callWith_K (h₀ := X.base) I.ok.mod.kin M.kp _ he hpl
  apply thn (ha.run pos pins s σ H _ I h)
  rintro us s1 ⟨vs, H1, I1, r, q⟩
  refine ⟨I1.kIn, ?_⟩
  unfold xMake at q
  have fr := I1.hok.fresh (Nat.le_refl s1.heap.objs.size)
  have fr1 := I1.hok.fresh (Nat.le_succ s1.heap.objs.size)
  have J := Inv.made (C := C) I1
  have q1 := q (s1.heap.objs.size + 1) s1.heap.objs.size fr1 fr (Nat.ne_of_lt (Nat.lt_succ_self _))
  have rs : Vals (V.ref (s1.heap.objs.size + 1) :: vs) (Value.ref (s1.heap.objs.size + 1) :: us) := .cons rfl r
  have ln : (Value.ref (s1.heap.objs.size + 1) :: us).length = ps.length := rs.length.symm.trans (F.len _ _ _ _ q1)
  have bd := hb _ (Value.ref (s1.heap.objs.size + 1) :: us) J.kIn (by rw [List.append_nil]; exact ln)
  rw [List.append_nil] at bd
  have go := F.run _ X.stack _ _ ⟨Value.ref (s1.heap.objs.size + 1) :: us, []⟩ _ _ _ _ (hr.make C us []) (J.env0.make C us []) bd rs q1
  apply wpAny_call
  apply make_map (f := f) I1.kIn M.makes M.init (beq_iff_eq.mp M.fn)
  apply codeAny_mono go
  intro rt s' hq
  cases rt with
  | error e => exact passAt tk σ pins _ _ e s' J hq
  | ok fl =>
    cases fl with
    | ret u =>
      obtain ⟨v, H2, I2, rv, rfl, q2⟩ := J.after hq
      exact ⟨rv, ⟨V.ref (s1.heap.objs.size + 1), H2, I2, rfl, q2⟩⟩
    | next => exact hq.elim
    | brk => exact hq.elim
    | cont => exact hq.elim
end
/-! ### index -/
@[irreducible] def xIndex (K : PySem.W.Frag) : MRd := rIndex K
theorem my_index {X : Cx} : MtR X "list.index" (xIndex X.K) := by unfold xIndex; exact mt_index
theorem st_idx {K : PySem.W.Frag} {H : Hp} {a : Addr} {ys : List V} {y : V} {Q : VK} (j : Nat) (z : V) (hs : SqL K H a ys) (fy : flatV y = true) (fs : ys.all flatV = true) (hz : ys[j]? = some z) (he : eqV z y = true)
    (hno : ∀ m u, m < j → ys[m]? = some u → eqV u y = false) (k : Q (.int j) H) : xIndex K (.ref a) [y] H Q := by
  unfold xIndex; exact ⟨a, ys, y, j, z, rfl, rfl, hs, fy, fs, hz, he, hno, k⟩
theorem flat_ints (ns : List Int) : (ns.map V.int).all flatV = true := by
  rw [List.all_map]; exact List.all_eq_true.mpr fun _ _ => rfl
theorem st_idxI {K : PySem.W.Frag} {H : Hp} {a : Addr} {ns : List Int} {n : Int} {Q : VK} (hs : SqL K H a (ns.map V.int)) (hm : n ∈ ns) (k : Q (.int (ns.idxOf n)) H) : xIndex K (.ref a) [.int n] H Q := by
  have hl := List.idxOf_lt_length_iff.mpr hm
  refine st_idx (ns.idxOf n) (.int n) hs rfl (flat_ints ns) ?_ (by show (n == n) = true; exact beq_self_eq_true n) ?_ k
  · rw [List.getElem?_map, List.getElem?_eq_getElem hl, List.getElem_idxOf hl]; rfl
  · intro m u hm' hu
    rw [List.getElem?_map] at hu
    cases e : ns[m]? with
    | none => rw [e] at hu; cases hu
    | some x =>
      rw [e] at hu
      cases hu
      show (x == n) = false
      obtain ⟨hml, ex⟩ := List.getElem?_eq_some_iff.mp e
      rw [← ex]
      exact List.not_of_lt_findIdx hm'
theorem st_idxV {K : PySem.W.Frag} {H : Hp} {a : Addr} {ns : List Int} {n : Int} {y : V} {Q : VK} (hs : SqL K H a (ns.map V.int)) (hv : y = .int n) (hm : n ∈ ns) (k : Q (.int (ns.idxOf n)) H) : xIndex K (.ref a) [y] H Q := by subst hv; exact st_idxI hs hm k
theorem inV_ints (ns : List Int) (n : Int) : inV (.int n) (ns.map V.int) = decide (n ∈ ns) := by
  unfold inV
  rw [List.any_map]
  by_cases h : n ∈ ns
  · rw [decide_eq_true h]
    exact List.any_eq_true.mpr ⟨n, h, by show (n == n) = true; exact beq_self_eq_true n⟩
  · rw [decide_eq_false h]
    refine Bool.eq_false_iff.mpr fun z => h ?_
    obtain ⟨x, hx, e⟩ := List.any_eq_true.mp z
    have e2 : (x == n) = true := e
    rw [← eq_of_beq e2]
    exact hx
theorem inV_non (ns : List Int) : inV .non (ns.map V.int) = false := by
  unfold inV
  rw [List.any_map]
  exact Bool.eq_false_iff.mpr fun z => by
    obtain ⟨x, _, e⟩ := List.any_eq_true.mp z
    cases e
end TR
namespace TR
open PySem L2
/-! ### data at any depth -/
structure Sh (k : Nat) (d : PyData) : Prop where
  lay : d.canLay0 = true
  dep : d.depth ≤ k
theorem Sh.shaped {k : Nat} {d : PyData} (h : Sh k d) (hk : k ≤ 64) : SeqAt.shaped d = true := by
  unfold SeqAt.shaped
  rw [h.lay, decide_eq_true (Nat.le_trans h.dep hk)]
  rfl
theorem Sh.mono {j k : Nat} {d : PyData} (h : Sh j d) (hk : j ≤ k) : Sh k d := ⟨h.lay, Nat.le_trans h.dep hk⟩
theorem sh_non {k : Nat} : Sh k .none := ⟨by simp only [PyData.canLay0], by simp only [PyData.depth]; exact Nat.zero_le _⟩
theorem sh_bl {k : Nat} (b : Bool) : Sh k (.bool b) := ⟨by simp only [PyData.canLay0], by simp only [PyData.depth]; exact Nat.zero_le _⟩
theorem sh_int {k : Nat} (i : Int) : Sh k (.int i) := ⟨by simp only [PyData.canLay0], by simp only [PyData.depth]; exact Nat.zero_le _⟩
theorem sh_str {k : Nat} {x : Str} (h : PyData.strOk x = true) : Sh k (.str x) := ⟨by simp only [PyData.canLay0]; exact h, by simp only [PyData.depth]; exact Nat.zero_le _⟩
theorem sh_all {k : Nat} : ∀ {ds : List PyData}, (∀ d ∈ ds, Sh k d) → PyData.canLayAll0 ds = true ∧ PyData.depthAll ds ≤ k
  | [], _ => ⟨by simp only [PyData.canLayAll0], by simp only [PyData.depthAll]; exact Nat.zero_le _⟩
  | d :: ds, h => by
    have h1 := h d List.mem_cons_self
    have h2 := sh_all fun e he => h e (List.mem_cons_of_mem _ he)
    refine ⟨?_, ?_⟩
    · simp only [PyData.canLayAll0]
      rw [h1.lay, h2.1]
      rfl
    · simp only [PyData.depthAll]
      exact Nat.max_le.mpr ⟨h1.dep, h2.2⟩
theorem sh_list {k : Nat} {ds : List PyData} (h : ∀ d ∈ ds, Sh k d) : Sh (k + 1) (.list ds) := by
  obtain ⟨h1, h2⟩ := sh_all h
  exact ⟨by simp only [PyData.canLay0]; exact h1, by simp only [PyData.depth]; omega⟩
theorem sh_tup {k : Nat} {ds : List PyData} (h : ∀ d ∈ ds, Sh k d) : Sh (k + 1) (.tuple ds) := by
  obtain ⟨h1, h2⟩ := sh_all h
  exact ⟨by simp only [PyData.canLay0]; exact h1, by simp only [PyData.depth]; omega⟩
theorem sh_nil {k : Nat} : ∀ d ∈ ([] : List PyData), Sh k d := fun _ h => nomatch h
theorem sh_cons {k : Nat} {d : PyData} {ds : List PyData} (h : Sh k d) (h2 : ∀ d ∈ ds, Sh k d) : ∀ e ∈ d :: ds, Sh k e := fun e he => by
  rcases List.mem_cons.mp he with rfl | he
  · exact h
  · exact h2 e he
theorem sh_ints {k : Nat} (ns : List Int) : ∀ d ∈ ns.map PyData.int, Sh k d := fun d hd => by
  obtain ⟨i, _, rfl⟩ := List.mem_map.mp hd
  exact sh_int i
theorem dpAll_ints {K : PySem.W.Frag} {H : Hp} : ∀ ns : List Int, DpAll K H (ns.map V.int) (ns.map PyData.int)
  | [] => .nil
  | n :: ns => .cons (.int n) (dpAll_ints ns)
theorem dp_ints {K : PySem.W.Frag} {H : Hp} {a : Addr} {ns : List Int} (h : SqL K H a (ns.map V.int)) : Dp K H (.ref a) (.list (ns.map PyData.int)) := .lst h (dpAll_ints ns)
@[irreducible] def xEqD (K : PySem.W.Frag) : R2 := rEqD K
@[irreducible] def xNeD (K : PySem.W.Frag) : R2 := rNeD K
section
variable {X : Cx}
theorem my_eqD (hu : X.A.units + 64 < cLine) : OpR X (compareOp .Eq) (xEqD X.K) := by unfold xEqD; exact op_eqD hu
theorem my_neD (hu : X.A.units + 64 < cLine) : OpR X (compareOp .NotEq) (xNeD X.K) := by unfold xNeD; exact op_neD hu
end
section
variable {K : PySem.W.Frag} {H : Hp} {x y : V} {d e : PyData} {Q : VK} {k : Nat}
theorem st_eqD (hx : Dp K H x d) (hy : Dp K H y e) (s : Sh 64 d) (s2 : Sh 64 e) (h : Q (.bl (PyData.eqv d e)) H) : xEqD K x y H Q := by
  unfold xEqD; exact ⟨d, e, hx, hy, s.shaped (Nat.le_refl _), s2.shaped (Nat.le_refl _), h⟩
theorem st_neD (hx : Dp K H x d) (hy : Dp K H y e) (s : Sh 64 d) (s2 : Sh 64 e) (h : Q (.bl (!PyData.eqv d e)) H) : xNeD K x y H Q := by
  unfold xNeD; exact ⟨d, e, hx, hy, s.shaped (Nat.le_refl _), s2.shaped (Nat.le_refl _), h⟩
theorem st_eqS (hx : Dp K H x d) (hy : Dp K H y d) (s : Sh 64 d) (h : Q (.bl true) H) : xEqD K x y H Q := st_eqD hx hy s s (by rw [SeqAt.eqv_refl d s.lay]; exact h)
theorem st_neS (hx : Dp K H x d) (hy : Dp K H y d) (s : Sh 64 d) (h : Q (.bl false) H) : xNeD K x y H Q := st_neD hx hy s s (by rw [SeqAt.eqv_refl d s.lay]; exact h)
end
theorem sorted_same {a b : List Int} (hp : a.Perm b) (ha : a.Pairwise (· ≤ ·)) (hb : b.Pairwise (· ≤ ·)) : a = b :=
  hp.eq_of_pairwise (fun _ _ _ _ h1 h2 => Int.le_antisymm h1 h2) ha hb
/-- the ints a .. b - 1 -/
def rgI (a b : Int) : List Int := (List.range (b - a).toNat).map fun (i : Nat) => a + (i : Int)
theorem rgV_eq (a b : Int) : rgV a b = (rgI a b).map V.int := by unfold rgV rgI; rw [List.map_map]; rfl
theorem rgI_len (a b : Int) : (rgI a b).length = (b - a).toNat := by unfold rgI; rw [List.length_map, List.length_range]
theorem rgI_sorted (a b : Int) : (rgI a b).Pairwise (· ≤ ·) := by
  unfold rgI
  rw [List.pairwise_map]
  exact List.pairwise_lt_range.imp fun h => by omega
/-! ### sorted, repeated lists, comprehensions -/
@[irreducible] def xSorted (K : PySem.W.Frag) : List V → Hp → VK → Prop := rSorted K
@[irreducible] def xRep : R2 := rRep
section
variable {X : Cx}
theorem my_sorted : CallR X (.builtin "sorted") (xSorted X.K) := by unfold xSorted; exact cr_sorted
theorem my_rep : OpR X (binaryOp .Mult) xRep := by unfold xRep; exact op_rep
theorem my_lc {elt tg iter : Expr} {ifs : List Expr} {scope : Scope} {own : List (Str × Nat)} {pos : Pos} {wi : TI} {g : TG} {tt : TT} {te : TE} (hc : X.calm = true) (hN : X.N.Nodup) (hi : PI X tg iter wi) (ok : BlkOk X.N X.env.scope scope own)
    (hg : ∀ (s : Shared) (H : Hp) (C : Addr) (cl : List (Str × Addr)) (fp : List Addr), PG (X.blk s H scope (compEnvC scope cl C X.env) fp) tg g)
    (ht : ∀ (s : Shared) (H : Hp) (C : Addr) (cl : List (Str × Addr)) (fp : List Addr), PTs (X.blk s H scope (compEnvC scope cl C X.env) fp) ifs tt)
    (he : ∀ (s : Shared) (H : Hp) (C : Addr) (cl : List (Str × Addr)) (fp : List Addr), PE (X.blk s H scope (compEnvC scope cl C X.env) fp) elt te) (hs : ∀ x, foldedSetIterable iter X.env x = pure x := by intro _; rfl) :
    PE X (.ListComp elt [⟨tg, iter, ifs, 0⟩] scope pos) (uLc wi g tt te (own.map (·.2))) := by rw [uLc_eq]; exact pe_lc hc hN hi ok hg ht he hs
theorem my_setLc {i : Nat} {y : Str} {py : Pos} {elt tg iter : Expr} {ifs : List Expr} {scope : Scope} {own : List (Str × Nat)} {pos spos : Pos} {wi : TI} {g : TG} {tt : TT} {te : TE} (hc : X.calm = true) (hN : X.N.Nodup) (hy : X.N[i]? = some y) (hyl : X.env.scope.names.lookup y = some .local)
    (hsw : swapsWith (.ListComp elt [⟨tg, iter, ifs, 0⟩] scope pos) (some (.Name y py)) spos.line X.env = pure true) (hi : PI X tg iter wi) (ok : BlkOk X.N X.env.scope scope own)
    (hg : ∀ (s : Shared) (H : Hp) (C : Addr) (cl : List (Str × Addr)) (fp : List Addr), PG (X.blk s H scope (compEnvC scope cl C X.env) fp) tg g)
    (ht : ∀ (s : Shared) (H : Hp) (C : Addr) (cl : List (Str × Addr)) (fp : List Addr), PTs (X.blk s H scope (compEnvC scope cl C X.env) fp) ifs tt)
    (he : ∀ (s : Shared) (H : Hp) (C : Addr) (cl : List (Str × Addr)) (fp : List Addr), PE (X.blk s H scope (compEnvC scope cl C X.env) fp) elt te) (hs : ∀ x, foldedSetIterable iter X.env x = pure x := by intro _; rfl) :
    PS X (.Assign [.Name y py] (.ListComp elt [⟨tg, iter, ifs, 0⟩] scope pos) spos) (tAsg (uLc wi g tt te (own.map (·.2))) (gName i)) := by rw [uLc_eq]; exact ps_setLc hc hN hy hyl hsw hi ok hg ht he hs
end
section
variable {X : Cx} {sB : Shared} {HB : Hp} {scB : Scope} {envB : Env} {fpB : List Addr}
theorem ix_listB : IxR (X.blk sB HB scB envB fpB) (rIxL X.K) := ix_list
theorem op_in_seqB : OpR (X.blk sB HB scB envB fpB) (compareOp .In) (rIn X.K false) := op_in_seq
theorem op_notIn_seqB : OpR (X.blk sB HB scB envB fpB) (compareOp .NotIn) (rIn X.K true) := op_notIn_seq
theorem pg_tupB {es : List Expr} {t : TGs} {k n : Nat} {pos : Pos} (hc : (X.blk sB HB scB envB fpB).calm = true) (h : PGs (X.blk sB HB scB envB fpB) es t)
    (hn : (assignEach es (X.blk sB HB scB envB fpB).env).length = n := by rfl) (hst : (assignEach es (X.blk sB HB scB envB fpB).env).findIdx? (·.1) = none := by rfl) : PG (X.blk sB HB scB envB fpB) (.Tuple es k pos) (gTup X.K n t) := pg_tup hc h hn hst
theorem pe_fldB {o : Expr} {ta : TE} {f : Str} {pos : Pos} (ha : PE (X.blk sB HB scB envB fpB) o ta) (hb : attributeBase o f (X.blk sB HB scB envB fpB).env (eval o (X.blk sB HB scB envB fpB).env) = eval o (X.blk sB HB scB envB fpB).env := by rfl) : PE (X.blk sB HB scB envB fpB) (.Attribute o f pos) (tFld X.K ta f) := pe_fld ha hb
theorem my_lenQB : CallR (X.blk sB HB scB envB fpB) (.builtin "len") (rLenQ X.K) := my_lenQ
end
section
variable {K : PySem.W.Frag} {H0 H : Hp} {L : List Ent} {a : Addr} {xs : List V} {g : TG} {tt : TT} {te : TE} {vs : List Nat} {σ : L2.St} {Q : VK}
theorem st_sorted {ns : List Int} (w : W H0 H L) (hs : SqL K H a (ns.map V.int)) (hl : ns.length < 64) (k : ∀ (ns' : List Int) p H', ns'.Perm ns → ns'.Pairwise (· ≤ ·) → W H0 H' ((p, .lst (ns'.map V.int)) :: L) → Q (.ref p) H') : xSorted K [.ref a] H Q := by
  unfold xSorted; exact ⟨a, ns, rfl, hs, hl, fun ns' p h1 h2 hp => k ns' p _ h1 h2 (w.new _ hp)⟩
theorem st_rep {n : Int} (w : W H0 H L) (i : Nat) (h : L[i]? = some (a, .lst xs)) (h0 : 0 ≤ n) (h1 : n ≤ 1000) (hz : xs.length * n.toNat ≤ 10000) (k : ∀ p H', W H0 H' ((p, .lst (List.replicate n.toNat xs).flatten) :: L) → Q (.ref p) H') : xRep (.ref a) (.int n) H Q := by
  unfold xRep; exact ⟨a, n, xs, rfl, rfl, w.get i h, by omega, by omega, szE (by omega), fun p hp => k p _ (w.new _ hp)⟩
/-- a comprehension's turn has an item -/
@[irreducible] def xAcc (D : Addr) (P : Hp → Prop) (y : V) (H : Hp) : Prop := ∃ acc, H D = some (.lst acc) ∧ acc.length < sizeLine ∧ P (upd H D (.lst (acc ++ [y])))
theorem st_acc {D : Addr} {acc : List V} {y : V} {P : Hp → Prop} (w : W H0 H L) (i : Nat) (h : L[i]? = some (D, .lst acc)) (hz : acc.length < sizeLine) (k : ∀ H', W H0 H' (L.set i (D, .lst (acc ++ [y]))) → P H') : xAcc D P y H := by
  unfold xAcc; exact ⟨acc, w.get i h, hz, k _ (w.set i _ h rfl)⟩
/-- one turn -/
abbrev LcTurn (g : TG) (tt : TT) (te : TE) (vs : List Nat) (σ : L2.St) (D : Addr) (P : Hp → Prop) (x : V) (H : Hp) : Prop :=
  g x (wipe σ vs) H fun σ2 H2 => wipe σ2 vs = wipe σ vs ∧ tt σ2 H2 fun b H3 => xIf b (te σ2 H3 fun y H4 => xAcc D P y H4) (P H3)
theorem st_lcL (Pv : Addr → Nat → Hp → Prop) (w : W H0 H L) (h0 : ∀ D H', W H0 H' ((D, .lst []) :: L) → Pv D 0 H') (hl : ∀ D i H, i ≤ xs.length → Pv D i H → SqL K H a xs)
    (hs : ∀ D i x H, xs[i]? = some x → Pv D i H → LcTurn g tt te vs σ D (Pv D (i + 1)) x H) (hd : ∀ D H, Pv D xs.length H → Q (.ref D) H) : xLc (Itl K a) g tt te vs σ H Q := by
  unfold LcTurn xIf xAcc at hs
  unfold xLc; exact fun D hD => lc_list (Pv D) (h0 D _ (w.new _ hD)) (hl D) (hs D) (hd D)
theorem st_lcR {lo : Int} {n : Nat} (Pv : Addr → Nat → Hp → Prop) (w : W H0 H L) (h0 : ∀ D H', W H0 H' ((D, .lst []) :: L) → Pv D 0 H')
    (hs : ∀ D i H, i < n → Pv D i H → LcTurn g tt te vs σ D (Pv D (i + 1)) (.int (lo + (i : Int))) H) (hd : ∀ D H, Pv D n H → Q (.ref D) H) : xLc (Itr lo n) g tt te vs σ H Q := by
  unfold LcTurn xIf xAcc at hs
  unfold xLc; exact fun D hD => lc_range (Pv D) (h0 D _ (w.new _ hD)) (hs D) (hd D)
theorem st_lcT (Pv : Addr → Nat → Hp → Prop) (w : W H0 H L) (h0 : ∀ D H', W H0 H' ((D, .lst []) :: L) → Pv D 0 H') (hl : ∀ D i H, i ≤ xs.length → Pv D i H → SqT K H a xs)
    (hs : ∀ D i x H, xs[i]? = some x → Pv D i H → LcTurn g tt te vs σ D (Pv D (i + 1)) x H) (hd : ∀ D H, Pv D xs.length H → Q (.ref D) H) : xLc (Itt K a) g tt te vs σ H Q := by
  unfold LcTurn xIf xAcc at hs
  unfold xLc; exact fun D hD => lc_tup (Pv D) (h0 D _ (w.new _ hD)) (hl D) (hs D) (hd D)
end
end TR
namespace TR
open PySem PySem.Spec PyProof.Rows L2
/-! ### texts: sorted keys, joined signs, comprehensions over a text -/
@[irreducible] def xSortD : V → Hp → VK → Prop := fun x H Q => ∃ (a : Addr) (kvs : List (Key × V)) (ks : List Str), x = .ref a ∧ H a = some (.dK kvs) ∧ kvs.map (·.1) = ks.map Sum.inr ∧ ks.length < 64 ∧
  ∀ ys p, ys.Perm ks → sortedS ys = true → H p = none → Q (.ref p) (upd H p (.lst (ys.map V.str)))
def uSortD (td : TE) : TE := fun σ H Q => td σ H fun x H1 => xSortD x H1 Q
@[irreducible] def xJoin (K : PySem.W.Frag) : V → List V → Hp → VK → Prop := fun x xs H Q => ∃ a p, ∃ ys : List Str, x = .str a ∧ xs = [.ref p] ∧ (SqL K H p (ys.map V.str) ∨ SqT K H p (ys.map V.str)) ∧
  (ys.map (·.length)).sum + ys.length * a.length ≤ 16777216 ∧ Q (.str (Txt.join a ys)) H
@[irreducible] def xIxS : R2 := rIxS
section
variable {X : Cx}
theorem my_ixS : IxR X xIxS := by unfold xIxS; exact ix_str
theorem my_join {o e : Expr} {to te : TE} {apos pos : Pos} (ho : PE X o to) (he : PE X e te) (hs : starEach [e] X.env = [(false, eval e X.env)] := by rfl) (hbase : attributeBase o "join" X.env (eval o X.env) = eval o X.env := by rfl) (hline : (apos.endLine == pos.line) = true := by rfl) :
    PE X (.Call (.Attribute o "join" apos) [e] [] pos) (tM1 (xJoin X.K) to te) := by
  unfold xJoin; exact pe_join ho he hs hbase hline
theorem my_dget2 {o e f : Expr} {td ty tx : TE} {apos cpos : Pos} (hu : X.A.units + 1 < cLine) (ho : PE X o td) (he : PE X e ty) (hf : PE X f tx)
    (base : attributeBase o "get" X.env (eval o X.env) = eval o X.env := by rfl)
    (few : ((backTo cpos (starEach [e, f] X.env)).all (fun x => !x.1) && (backToKw cpos (keywordEach [] X.env)).all (fun x => x.1.isSome)
      && decide (([e, f] : List Expr).length + ([] : List Keyword).length + (if ([] : List Keyword).isEmpty then 0 else 1) < 30)) = true := by rfl)
    (line : (apos.endLine == cpos.line) = true := by rfl)
    (trees : backTo cpos (starEach [e, f] X.env) = [(false, eval e X.env), (false, eval f X.env)] := by rfl) : PE X (.Call (.Attribute o "get" apos) [e, f] [] cpos) (tDGet2 td ty tx) :=
  pe_dget2 hu ho he hf ⟨base, few, line, trees⟩
theorem my_sortedKeys {o : Expr} {td : TE} {p pos apos cpos : Pos} (hcalm : X.calm = true) (hg : Gl X "sorted") (hm : X.mg "sorted" = none) (ho : PE X o td)
    (hbase : attributeBase o "keys" X.env (eval o X.env) = eval o X.env := by rfl) (hline : (apos.endLine == cpos.line) = true := by rfl)
    (he : starEach [.Call (.Attribute o "keys" apos) [] [] cpos] X.env = (false, eval (.Call (.Attribute o "keys" apos) [] [] cpos) X.env) :: starEach [] X.env := by rfl) :
    PE X (.Call (.Name "sorted" p) [.Call (.Attribute o "keys" apos) [] [] cpos] [] pos) (uSortD td) := by
  refine ⟨fun pins s σ H Q I h => ?_⟩
  refine wpAny_Call_Name_kw (ld_blt I hg hm (u := .builtin "sorted") (by decide +kernel) ?_ (by decide) (by decide))
  refine PyProof.Rows.callWith_builtin1 ?_ he rfl
  rw [he]
  refine Calls.spliced_cons ?_
  refine wpAny_Call_method (T := "dict") (id := "dict.keys") hbase rfl hline F.plainAttrs_dict F.slot_dict_keys F.type_dict_keys (thn (ho.run pins s σ H _ I h) fun u s1 ⟨x, H1, I1, rx, q⟩ => ?_)
  unfold xSortD at q
  obtain ⟨a, kvs, ks, ex, hd, hks, h64, q⟩ := q
  subst ex
  obtain rfl : u = Value.ref a := rx
  obtain ⟨z, lo, vs, rel, dd⟩ := dk_of I1.hok hd
  refine ⟨dd.typeIs, dd.mapOf.noDict, ?_⟩
  obtain ⟨ep, hat⟩ := dd.dictAt
  have I2 : Inv X pins σ H1 { s1 with heap := s1.heap.push { cls := .type "dict_keys", data := .fields #[.ref a] } } := I1.kept (t' := s1.toks) fun b ob q => Heap.get?_push_of_some _ q
  refine method_meetsIn F.slot_dict_keys F.entry_dict_keys rfl (PySem.evalArgs_none ⟨rfl, dd.typeIs, F.args_dict_keys_1 _, _, PySem.W.kdl_meets_keys (mixKind X.prog X.w) a lo, ⟨vs, dd⟩, ?_⟩)
  refine Calls.spliced_nil ?_
  have hkeys : vs.map (·.1) = ks.map Sum.inr := rel.keys.symm.trans hks
  have hl : vs.length = ks.length := by
    have e := congrArg List.length hkeys
    rw [List.length_map, List.length_map] at e
    exact e
  have h16 : vs.length ≤ sizeLine := by rw [hl, sizeLine_eq]; omega
  have hat2 := hat.push { cls := .type "dict_keys", data := .fields #[.ref a] }
  refine Calls.call_function_entry PyProof.Rows.kind_sorted PyProof.Rows.plain_sorted PyProof.Rows.entry_sorted (PyProof.Rows.args_sorted1 _) ?_
  unfold Builtin.«sorted»
  refine wpAny_bind (m := checkCount "sorted" 1 1 _) (wpAny_pure ?_)
  refine wpAny_bind (PySem.W.kdu_collect (A := X.A.in1) (PySem.W.kdl_keys (knd := mixKind X.prog X.w) (kvs := vs) (ep := ep)) (I2.ok.hd hcalm) ⟨⟨_, Heap.get?_push_size _ rfl, rfl, rfl⟩, hat2⟩ h16 fun h' tk acc hk hacc => ?_)
  have hal : acc.toList.length = ks.length := by rw [Array.length_toList, hacc.1, hl]
  have hS : StrsAre acc.toList ks := strs_at hal fun j v e => by
    obtain ⟨k, x, e1, e2⟩ := hacc.2 j v (by rw [← Array.getElem?_toList]; exact e)
    have e3 : (vs.map (·.1))[j]? = some k := by rw [List.getElem?_map, e1]; all_goals rfl
    rw [hkeys, List.getElem?_map] at e3
    cases e4 : ks[j]? with
    | none => rw [e4] at e3; cases e3
    | some y =>
      rw [e4] at e3
      have e5 : Sum.inr y = k := Option.some.inj e3
      subst e5
      obtain ⟨t, ev⟩ := Value.isStrOf_shape (x := y) (v := v) e2
      exact ⟨y, t, rfl, ev⟩
  have I3 : Inv X pins σ H1 { s1 with heap := h', toks := tk } := I2.kept (t' := tk) hk
  refine wpAny_bind (wpAny_newList ?_ (by rw [hal, sizeLine_eq]; omega))
  have hoL : (h'.push (seqObj "list" acc.toList.toArray 0)).get? h'.objs.size = some (seqObj "list" acc.toList.toArray 0) := Heap.get?_push_size _ rfl
  show wpAny _ _ _ _ _ { s1 with heap := h'.push (seqObj "list" acc.toList.toArray 0), toks := tk }
  refine wpAny_bind (wpAny_holding (wpAny_call_entry PyProof.Rows.slot_list_sort ⟨_, hoL, rfl⟩ PyProof.Rows.entry_list_sort
    (list_sort_treeK strKind_oneLt (s := { s1 with heap := h'.push (seqObj "list" acc.toList.toArray 0), toks := tk }) hoL hS.keysOf (fun v₁ v₂ rest e => keyKind_strs (by rw [← e]; exact hS)) (by rw [hal]; exact h64) fun st' hp hs => ⟨_, rfl, ?_⟩)
    (PyProof.Rows.args_list_sort _)))
  obtain ⟨ys, g1, g2, g3⟩ := sorted_out_str hS hp hs
  obtain ⟨e', he'⟩ := PyProof.Rows.sortedHeap_at (vs := acc.toList) (out := (arrOf st').map (·.2)) hoL
  have hlen : (ys.map V.str).length ≤ sizeLine := by
    rw [List.length_map, g2.length_eq]
    exact Nat.le_trans (Nat.le_of_lt h64) (by decide)
  refine wpAny_pure ⟨_, rfl, .ref h'.objs.size, upd H1 h'.objs.size (.lst (ys.map V.str)), I3.laid (t' := tk) (fun b u e => ?_) (Nat.le_refl _)
    (show ObjOk X.prog X.w _ _ _ (.lst (ys.map V.str)) from ⟨hlen, ((arrOf st').map (·.2)).toList, e', vals_of_strs g1, by rw [Array.toArray_toList]; exact he'⟩), rfl, q ys _ g2 g3 (I3.hok.fresh (Nat.le_refl _))⟩
  have hb : b < h'.objs.size := Heap.lt_size e
  rw [PyProof.Rows.sortedHeap_old (Nat.ne_of_lt hb) (by rw [size_push']; exact Nat.lt_succ_of_lt hb)]
  exact Heap.get?_push_of_some _ e
end
section
variable {K : PySem.W.Frag} {H0 H : Hp} {L : List Ent} {a : Addr} {g : TG} {tt : TT} {te : TE} {vs : List Nat} {σ : L2.St} {Q : VK}
theorem st_sortD {kvs : List (Key × V)} {ks : List Str} (w : W H0 H L) (i : Nat) (h : L[i]? = some (a, .dK kvs)) (hk : kvs.map (·.1) = ks.map Sum.inr) (hl : ks.length < 64)
    (k : ∀ ys p H', ys.Perm ks → sortedS ys = true → W H0 H' ((p, .lst (ys.map V.str)) :: L) → Q (.ref p) H') : xSortD (.ref a) H Q := by
  unfold xSortD; exact ⟨a, kvs, ks, rfl, w.get i h, hk, hl, fun ys p h1 h2 hp => k ys p _ h1 h2 (w.new _ hp)⟩
theorem st_join {x : Str} {ys : List Str} (hs : SqL K H a (ys.map V.str)) (hl : (ys.map (·.length)).sum + ys.length * x.length ≤ 16777216) (k : Q (.str (Txt.join x ys)) H) : xJoin K (.str x) [.ref a] H Q := by
  unfold xJoin; exact ⟨x, a, ys, rfl, rfl, .inl hs, hl, k⟩
theorem st_ixS {z : Str} {i : Int} {j c : Nat} (hz : z.length ≤ sizeLine) (e : i = (j : Int)) (h : z.cps.toList[j]? = some c) (k : Q (.str ⟨#[c]⟩) H) : xIxS (.str z) (.int i) H Q := by
  unfold xIxS
  refine ⟨z, i, c, rfl, rfl, hz, ?_, k⟩
  unfold atI
  rw [ix_of e (List.getElem?_eq_some_iff.mp h).1]
  exact h
theorem st_lcS {x : Str} (Pv : Addr → Nat → Hp → Prop) (w : W H0 H L) (h0 : ∀ D H', W H0 H' ((D, .lst []) :: L) → Pv D 0 H')
    (hs : ∀ D i c H, x.cps.toList[i]? = some c → Pv D i H → LcTurn g tt te vs σ D (Pv D (i + 1)) (.str ⟨#[c]⟩) H) (hd : ∀ D H, Pv D x.cps.toList.length H → Q (.ref D) H) : xLc (Its x) g tt te vs σ H Q := by
  unfold LcTurn xIf xAcc at hs
  unfold xLc
  refine fun D hD => ⟨fun i m H => m = x.cps.toList.length - i ∧ i ≤ x.cps.toList.length ∧ Pv D i H, ⟨x.cps.toList.length, by simp, Nat.zero_le _, h0 D _ (w.new _ hD)⟩, ?_⟩
  rintro i m H ⟨rfl, hi, p⟩
  have es : x.cps.size = x.cps.toList.length := by simp
  by_cases hlt : i < x.cps.toList.length
  · refine .inr ⟨(by show i < x.cps.size; omega), Pv D (i + 1), fun H' p' => ⟨x.cps.toList.length - (i + 1), by omega, rfl, hlt, p'⟩, fun y H' yy => ?_⟩
    obtain ⟨e, c, hc, rfl⟩ := yy
    subst e
    exact hs D i c _ (by rw [Array.getElem?_toList]; exact hc) p
  · have e : i = x.cps.toList.length := by omega
    subst e
    exact .inl ⟨(by show x.cps.size ≤ _; omega), hd D H p⟩
end
/-- two rows in the order that hold the same texts are the same -/
theorem risingS_iff : ∀ (p : Str) (l : List Str), risingS p l = true → (p :: l).Pairwise (fun a b => ltCps b.cps.toList a.cps.toList = false)
  | p, [], _ => List.pairwise_singleton _ _
  | p, x :: r, h => by
    unfold risingS at h
    obtain ⟨h1, h2⟩ := Bool.and_eq_true_iff.mp h
    have h3 := risingS_iff x r h2
    refine List.pairwise_cons.mpr ⟨fun y hy => ?_, h3⟩
    have h1' : ltCps x.cps.toList p.cps.toList = false := by simpa using h1
    rcases List.mem_cons.mp hy with rfl | hy
    · exact h1'
    · have h4 := List.rel_of_pairwise_cons h3 hy
      rw [ltCps_eq] at h1' h4 ⊢
      have a1 := of_decide_eq_false h1'
      have a2 := of_decide_eq_false h4
      exact decide_eq_false (List.not_lt.mpr (List.le_trans (List.not_lt.mp a1) (List.not_lt.mp a2)))
theorem sortedS_iff : ∀ {l : List Str}, sortedS l = true → l.Pairwise (fun a b => ltCps b.cps.toList a.cps.toList = false)
  | [], _ => .nil
  | x :: r, h => risingS_iff x r h
theorem sortedS_same {a b : List Str} (hp : a.Perm b) (ha : sortedS a = true) (hb : sortedS b = true) : a = b :=
  hp.eq_of_pairwise (fun x y _ _ h1 h2 => by
    rw [ltCps_eq] at h1 h2
    have a1 := of_decide_eq_false h1
    have a2 := of_decide_eq_false h2
    have e := List.le_antisymm (List.not_lt.mp a2) (List.not_lt.mp a1)
    cases x with | mk cx => cases y with | mk cy => exact congrArg Str.mk (Array.toList_inj.mp e.symm)) (sortedS_iff ha) (sortedS_iff hb)
theorem dpAll_strs {K : PySem.W.Frag} {H : Hp} : ∀ ns : List Str, DpAll K H (ns.map V.str) (ns.map PyData.str)
  | [] => .nil
  | n :: ns => .cons (.str n) (dpAll_strs ns)
theorem dp_strs {K : PySem.W.Frag} {H : Hp} {a : Addr} {ns : List Str} (h : SqL K H a (ns.map V.str)) : Dp K H (.ref a) (.list (ns.map PyData.str)) := .lst h (dpAll_strs ns)
theorem sh_strs {k : Nat} {ns : List Str} (h : ∀ x ∈ ns, PyData.strOk x = true) : ∀ d ∈ ns.map PyData.str, Sh k d := fun d hd => by
  obtain ⟨i, hi, rfl⟩ := List.mem_map.mp hd
  exact sh_str (h i hi)
theorem inV_strs (ns : List Str) (n : Str) : inV (.str n) (ns.map V.str) = decide (n ∈ ns) := by
  unfold inV
  rw [List.any_map]
  by_cases h : n ∈ ns
  · rw [decide_eq_true h]
    exact List.any_eq_true.mpr ⟨n, h, by show (n == n) = true; exact beq_self_eq_true n⟩
  · rw [decide_eq_false h]
    refine Bool.eq_false_iff.mpr fun z => h ?_
    obtain ⟨x, hx, e⟩ := List.any_eq_true.mp z
    have e2 : (x == n) = true := e
    rw [← eq_of_beq e2]
    exact hx
end TR
namespace TR
open PySem L2
/-! ### dicts displayed -/
@[irreducible] def xDisp (p : Addr) (ps : List (V × V)) (H : Hp) (Q : VK) : Prop := H p = some (.dK []) ∧ ∃ kvs : List (Key × V), ps = kvs.map (fun kv => (kV kv.1, kv.2)) ∧ kvs.length ≤ 15 ∧ Q (.ref p) (upd H p (.dK (mergeK [] kvs)))
def uDisp (trs : List (TE × TE)) : TE := fun σ H Q => xNew (.dK []) H fun v H1 => ∃ p, v = .ref p ∧ tPairs trs σ H1 fun ps H2 => xDisp p ps H2 Q
theorem tPairs_imp : ∀ {trs : List (TE × TE)} {σ : L2.St} {H : Hp} {Q Q' : List (V × V) → Hp → Prop}, Q = Q' → tPairs trs σ H Q → tPairs trs σ H Q' := fun e h => e ▸ h
theorem my_disp {X : Cx} {pos : Pos} {keys : List (Option Expr)} {values : List Expr} {trs : List (TE × TE)} (h : PPs X pos keys values trs) (hall : keys.all (·.isSome) = true) (hl : keys.length = values.length) (h0 : keys ≠ [])
    (h15 : keys.length ≤ 15) : PE X (.Dict keys values pos) (uDisp trs) := by
  refine PE.le (pe_disp h hall hl h0 h15) fun σ H Q q => ?_
  unfold uDisp xNew at q
  intro p hp
  obtain ⟨p', e, q2⟩ := q p hp
  cases e
  unfold xDisp at q2
  exact q2
theorem st_disp {H0 H : Hp} {L : List Ent} {p : Addr} {ps : List (V × V)} {Q : VK} (w : W H0 H L) (i : Nat) (h : L[i]? = some (p, .dK [])) (kvs : List (Key × V)) (e : ps = kvs.map (fun kv => (kV kv.1, kv.2))) (hl : kvs.length ≤ 15)
    (k : ∀ H', W H0 H' (L.set i (p, .dK (mergeK [] kvs))) → Q (.ref p) H') : xDisp p ps H Q := by
  unfold xDisp
  exact ⟨w.get i h, kvs, e, hl, k _ (w.set i _ h rfl)⟩
section
variable {K : PySem.W.Frag} {H : Hp} {a b : Addr} {ns : List Int} {Q : VK}
theorem st_eqN (hx : SqL K H a (ns.map V.int)) (hy : SqL K H b []) (k : Q (.bl (decide (ns = []))) H) : xEqD K (.ref a) (.ref b) H Q :=
  st_eqD (dp_ints hx) (dp_ints (ns := []) hy) (sh_list (sh_ints _)) (sh_list (sh_ints [])) (by rw [show PyData.eqv (.list (ns.map PyData.int)) (.list (List.map PyData.int [])) = decide (ns = []) from by cases ns <;> rfl]; exact k)
theorem st_neN (hx : SqL K H a (ns.map V.int)) (hy : SqL K H b []) (k : Q (.bl (!decide (ns = []))) H) : xNeD K (.ref a) (.ref b) H Q :=
  st_neD (dp_ints hx) (dp_ints (ns := []) hy) (sh_list (sh_ints _)) (sh_list (sh_ints [])) (by rw [show PyData.eqv (.list (ns.map PyData.int)) (.list (List.map PyData.int [])) = decide (ns = []) from by cases ns <;> rfl]; exact k)
end
end TR
namespace TR
open PySem PySem.Spec PyProof.Rows L2
/-! ### d.copy(), d.update(e), min of three, slices of tuples, walks over keys -/
def mn2 (i j : Int) : Int := if j < i then j else i
theorem mergeK_len : ∀ (more kvs : List (Key × V)), (mergeK kvs more).length ≤ kvs.length + more.length
  | [], kvs => Nat.le_refl _
  | p :: more, kvs => by
    have h := mergeK_len more (putK kvs p.1 p.2)
    have h2 := length_putK kvs p.1 p.2
    show (mergeK (putK kvs p.1 p.2) more).length ≤ _
    rw [List.length_cons]
    omega
section
variable {X : Cx}
def rDCopy : V → List V → Hp → VK → Prop := fun x vs H Q => ∃ (a : Addr) (kvs : List (Key × V)), x = .ref a ∧ vs = [] ∧ H a = some (.dK kvs) ∧ ∀ p, H p = none → Q (.ref p) (upd H p (.dK kvs))
theorem mt_dcopy : MtR X "dict.copy" rDCopy := by
  intro pins s σ H x vs v us Q I rx rv h
  obtain ⟨a, kvs, ex, ev, e, q⟩ := h
  subst ex
  subst ev
  obtain rfl : v = Value.ref a := rx
  have hus := rv.zero
  subst hus
  obtain ⟨z, hd, ws, rel, dd⟩ := dk_of I.hok e
  have hm : (s.heap.objs.size == sysModules) = false := beq_eq_false_iff_ne.mpr (Nat.ne_of_gt I.big)
  refine call_meetsIn PySem.F.slot_dict_copy dd.typeIs PySem.F.entry_dict_copy (PySem.F.args_dict_copy_1 _) (meets_dict_copy (mixKind X.prog X.w) a hd) ⟨ws, dd, by rw [← rel.length]; exact z, fun h' d1 d2 hs => ?_⟩
  exact ⟨.ref s.heap.objs.size, upd H s.heap.objs.size (.dK kvs), I.laid (t' := s.toks) hs (Nat.le_refl _) (show ObjOk X.prog X.w _ _ _ (.dK kvs) from ⟨z, hm, ws, rel, d1⟩), rfl, q _ (I.hok.fresh (Nat.le_refl _))⟩
def rDUpd : V → List V → Hp → VK → Prop := fun x vs H Q => ∃ (a b : Addr) (kvs more : List (Key × V)), x = .ref a ∧ vs = [.ref b] ∧ a ≠ b ∧ H a = some (.dK kvs) ∧ H b = some (.dK more) ∧ kvs.length + more.length ≤ 1000 ∧ Q .non (upd H a (.dK (mergeK kvs more)))
theorem mt_dupd : MtR X "dict.update" rDUpd := by
  intro pins s σ H x vs v us Q I rx rv h
  obtain ⟨a, b, kvs, more, ex, ev, ne, ea, eb, hl, q⟩ := h
  subst ex
  subst ev
  obtain rfl : v = Value.ref a := rx
  obtain ⟨u, eu, ru⟩ := vals1 rv
  subst eu
  obtain rfl : u = Value.ref b := ru
  obtain ⟨z, hd, ws, rel, dd⟩ := dk_of I.hok ea
  obtain ⟨z2, hd2, ws2, rel2, dd2⟩ := dk_of I.hok eb
  have hz : kvs.length + more.length ≤ sizeLine := szE (by omega)
  refine call_meetsIn PySem.F.slot_dict_update dd.typeIs PySem.F.entry_dict_update (PySem.F.args_dict_update_2 _ _) (meets_dict_update (mixKind X.prog X.w) a b ne hd2) ⟨ws, ws2, dd, dd2, by rw [← rel.length, ← rel2.length]; exact hz, fun h' d1 d2 hs => ?_⟩
  have he : ∃ q, h'.get? a = some q := let ⟨q, _, _, hq, _⟩ := d1; ⟨q, hq⟩
  refine ⟨.non, _, d_write (t' := s.toks) I (by rw [ea]; exact True.intro) hs he (dk_new (Nat.le_trans (mergeK_len more kvs) hz) hd (KV.merge rel2 rel) d1), rfl, q⟩
@[irreducible] def xDCopy : MRd := rDCopy
@[irreducible] def xDUpd : MRd := rDUpd
theorem my_dcopy {o : Expr} {td : TE} {apos cpos : Pos} (ho : PE X o td) (hbase : attributeBase o "copy" X.env (eval o X.env) = eval o X.env := by rfl) (hline : (apos.endLine == cpos.line) = true := by rfl) :
    PE X (.Call (.Attribute o "copy" apos) [] [] cpos) (tBM0 X.K "dict" xDCopy td) := by
  unfold xDCopy; exact pe_bm0 PySem.F.plainAttrs_dict PySem.F.slot_dict_copy PySem.F.type_dict_copy mt_dcopy ho hbase hline
theorem my_dupdate {o e : Expr} {td te : TE} {apos cpos : Pos} (ho : PE X o td) (he : PE X e te) (hbase : attributeBase o "update" X.env (eval o X.env) = eval o X.env := by rfl)
    (hfew : ((backTo cpos (starEach [e] X.env)).all (fun x => !x.1) && (backToKw cpos (keywordEach [] X.env)).all (fun x => x.1.isSome)
      && decide (([e] : List Expr).length + ([] : List Keyword).length + (if ([] : List Keyword).isEmpty then 0 else 1) < 30)) = true := by rfl)
    (hline : (apos.endLine == cpos.line) = true := by rfl) (hs : starEach [e] X.env = (false, eval e X.env) :: starEach [] X.env := by rfl) (hplain : (backTo cpos (starEach [] X.env)).any (·.1) = false := by rfl) :
    PE X (.Call (.Attribute o "update" apos) [e] [] cpos) (tBM X.K "dict" xDUpd td (tCons te tNil)) := by
  unfold xDUpd; exact pe_bm PySem.F.plainAttrs_dict PySem.F.slot_dict_update PySem.F.type_dict_update mt_dupd ho (pa_cons he pa_nil hs) hbase hfew hline hs hplain
theorem my_min3 (hc : X.calm = true) : CallR X (.builtin "min") (fun xs H Q => ∃ i j k : Int, xs = [.int i, .int j, .int k] ∧ Q (.int (mn2 (mn2 i j) k)) H) := by
  refine cr_le (call_min3Nu hc) fun xs H Q q => ?_
  obtain ⟨i, j, k, rfl, q⟩ := q
  refine ⟨.int i, .int j, .int k, .int (mn2 (mn2 i j) k), rfl, ?_, q⟩
  have e2 : ∀ a b : Int, nuMin2 (.int a) (.int b) = some (.int (mn2 a b)) := by
    intro a b
    show some (if decide (b < a) = true then V.int b else V.int a) = _
    unfold mn2
    by_cases h : b < a
    · rw [if_pos h, decide_eq_true h, if_pos rfl]
    · rw [if_neg h, decide_eq_false h, if_neg Bool.false_ne_true]
  show (nuMin2 (.int i) (.int j)).bind (fun m => nuMin2 m (.int k)) = _
  rw [e2]
  exact e2 _ _
def uSlT (K : PySem.W.Frag) : V → Option Int → Option Int → Hp → VK → Prop := fun x lo hi H Q => ∃ a xs, x = .ref a ∧ SqT K H a xs ∧ ¬ (HT.sIx xs.length 0 lo = 0 ∧ HT.sIx xs.length xs.length hi = xs.length) ∧ xNew (.tup (cutV xs lo hi)) H Q
theorem my_slT : SlR X (uSlT X.K) := by
  have e : uSlT X.K = rSlT X.K := by unfold uSlT rSlT xNew; rfl
  rw [e]; exact sl_tup
/-! a walk over a dict's keys -/
@[irreducible] def xForK (i : Nat) (g : TG) (tb : TS) (D : Ends) (σ : L2.St) (H : Hp) : Prop := tLock (tFor (iKeysM (tVar i)) g tb) D σ H
def uForK (i : Nat) (g : TG) (tb : TS) : TS := fun D σ H => xForK i g tb D σ H
theorem my_forK {tg e : Expr} {body : List Stmt} {i : Nat} {g : TG} {tb : TS} {pos apos cpos : Pos} (hp : PassesOwn (model X.prog X.w) X.A X.env X.xe) (hc : X.calm = true) (hi : PI X tg (.Call (.Attribute e "keys" apos) [] [] cpos) (iKeysM (tVar i))) (hg : PG X tg g) (hb : PSs X body tb)
    (hs : ∀ x, foldedSetIterable (.Call (.Attribute e "keys" apos) [] [] cpos) X.env x = pure x := by intro _; rfl) : PS X (.For tg (.Call (.Attribute e "keys" apos) [] [] cpos) body [] pos) (uForK i g tb) := by
  have e1 : uForK i g tb = tLock (tFor (iKeysM (tVar i)) g tb) := by unfold uForK xForK; rfl
  rw [e1]; exact ps_lock (ps_for hp hc hi hg hb hs)
end
section
variable {H0 H : Hp} {L : List Ent} {l : Addr} {Q : VK} {QH : Hp → Prop}
theorem st_dcopy {kvs : List (Key × V)} (w : W H0 H L) (i : Nat) (h : L[i]? = some (l, .dK kvs)) (k : ∀ p H', W H0 H' ((p, .dK kvs) :: L) → Q (.ref p) H') : xDCopy (.ref l) [] H Q := by
  unfold xDCopy; exact ⟨l, kvs, rfl, rfl, w.get i h, fun p hp => k p _ (w.new _ hp)⟩
theorem st_dupd {kvs more : List (Key × V)} {b : Addr} (w : W H0 H L) (i j : Nat) (h : L[i]? = some (l, .dK kvs)) (hb : L[j]? = some (b, .dK more)) (hij : i ≠ j) (hz : kvs.length + more.length ≤ 1000) (k : ∀ H', W H0 H' (L.set i (l, .dK (mergeK kvs more))) → Q .non H') : xDUpd (.ref l) [.ref b] H Q := by
  unfold xDUpd
  refine ⟨l, b, kvs, more, rfl, rfl, fun z => hij ?_, w.get i h, w.get j hb, hz, k _ (w.set i _ h rfl)⟩
  subst z
  exact nd_get w.nd (x := l) (by rw [List.getElem?_map, h]; rfl) (by rw [List.getElem?_map, hb]; rfl)
theorem st_forK {kvs : List (Key × V)} {i j : Nat} {g : TG} {tb : TS} {D : Ends} {σ : L2.St} (Pv : Obj → Nat → L2.St → Hp → Prop) (w : W H0 H L) (hj : L[j]? = some (l, .dK kvs)) (hσ : σ[i]? = some (some (.ref l)))
    (h0 : ∀ od H', W H0 H' (L.set j (l, .frz od (.dK kvs))) → Pv od 0 σ H') (hl : ∀ od n σ H, Pv od n σ H → H l = some (.frz od (.dK kvs)))
    (hs : ∀ od n k v σ H rt bk, kvs[n]? = some (k, v) → Pv od n σ H → g (kV k) σ H fun σ2 H2 => tb ⟨Pv od (n + 1), rt, bk, Pv od (n + 1)⟩ σ2 H2)
    (hd : ∀ od σ H, Pv od kvs.length σ H → D.nx σ (upd H l (.dK kvs))) : xForK i g tb D σ H := by
  unfold xForK
  refine ⟨l, .dK kvs, w.get j hj, True.intro, fun od => ?_⟩
  refine ⟨.ref l, hσ, l, od, kvs, rfl, upd_same, ?_⟩
  refine for_it (walk_keys (kvs := kvs)) (Pv od) (h0 od _ (w.set j _ hj rfl)) (fun n σ H _ p => hl od n σ H p) ?_ ?_
  · rintro n x σ2 H2 H3 hn p ⟨rfl, k, v, e, rfl⟩
    exact hs od n k v σ2 _ _ _ e p
  · intro σ2 H2 p
    exact ⟨hl od _ σ2 H2 p, hd od σ2 H2 p⟩
end
end TR
namespace TR
open PySem PySem.Spec PyProof.Rows L2
/-! ### the head's facts: what the module's names reach, level by level -/
def grow1 (g : Addr → Option Obj) (as : List Addr) : List Addr := as.flatMap fun a => match g a with
  | some o => He.refsD o
  | none => []
/-- forced, so that it is reckoned once -/
def frL {α : Type} (l : List Addr) (k : List Addr → α) : α := match l with
  | [] => k []
  | a :: r => HandSHeadRun.frNat a fun a => frL r fun r => k (a :: r)
theorem frL_eq {α : Type} : ∀ (l : List Addr) (k : List Addr → α), frL l k = k l
  | [], _ => rfl
  | a :: r, k => by
    show HandSHeadRun.frNat a (fun a => frL r fun r => k (a :: r)) = k (a :: r)
    rw [HandSHeadRun.frNat_eq, frL_eq r]
def asM (g : Addr → Option Obj) : List Addr := frL (grow1 g [mainGlobals]) fun l1 => frL (grow1 g l1).eraseDups fun l2 => frL (grow1 g l2).eraseDups fun l3 => frL (grow1 g l3).eraseDups fun l4 => mainGlobals :: (l1 ++ (l2 ++ (l3 ++ l4)))
abbrev AlM : Type := He.AlD × Bool
def obsK (fa : List He.Fa) (fn : List He.DefD) (ex : PySem.W.Frag → Bool) (K : PySem.W.Frag) : AlM := (He.obsD fa fn K, ex K)
def obsM (fa : List He.Fa) (fn : List He.DefD) (ex : PySem.W.Frag → Bool) (g : Addr → Option Obj) : AlM := frL (asM g) fun as => obsK fa fn ex (He.frG g as)
structure SaysM (fa : List He.Fa) (fn : List He.DefD) (ex : PySem.W.Frag → Bool) (K : PySem.W.Frag) : Prop where
  d : He.SaysD fa fn K
  more : ex K = true
theorem saysM_of {fa : List He.Fa} {fn : List He.DefD} {ex : PySem.W.Frag → Bool} {h : Heap} (e : obsM fa fn ex h.get? = (He.valD fn, true)) : ∃ K : PySem.W.Frag, K.In h ∧ SaysM fa fn ex K := by
  unfold obsM at e
  rw [frL_eq] at e
  exact ⟨_, He.frG_in, congrArg (fun z : AlM => z.1) e, congrArg (fun z : AlM => z.2) e⟩
def hookM (fa : List He.Fa) (fn : List He.DefD) (ex : PySem.W.Frag → Bool) : PySem.W.Hook where
  α := AlM
  obs := fun s => obsM fa fn ex s.heap.get?
  val := fun _ => (He.valD fn, true)
  says := fun _ h => ∃ K : PySem.W.Frag, K.In h ∧ SaysM fa fn ex K
  of := fun _ _ e => saysM_of e
  keeps := fun _ _ _ ⟨K, hK, c⟩ k => ⟨K, PySem.W.Frag.In.keeps hK k, c⟩
theorem obsM_eq {fa : List He.Fa} {fn : List He.DefD} {ex : PySem.W.Frag → Bool} {g : Addr → Option Obj} {s : Shared} (h : ∀ a, g a = s.heap.get? a) : obsM fa fn ex g = (hookM fa fn ex).obs s := by
  have e : g = s.heap.get? := funext h
  rw [e] <;> rfl
/-- two looks at one run -/
theorem map2 {α β γ : Type} {o : Option α} {f : α → β} {g : α → γ} {b : β} {c : γ} (h1 : o.map f = some b) (h2 : o.map g = some c) : o.map (fun s => (f s, g s)) = some (b, c) := by
  cases o with
  | none => cases h1
  | some s =>
    cases h1
    cases h2
    rfl
theorem run_split {r : PySem.W.OpenRow} {q : Program} {H : PySem.W.Hook} {ob : PySem.W.SharedT → H.α} {M : Nat} {loose : List PySem.Str} {w : World}
    (h1 : ∀ os : OsState, (HandSHeadRun.endF (HandSHeadRun.stepQ (HandSHeadRun.denQ HandSHeadRun.tabQ) r.prog w) M r.prog w os).map (fun s => (HandSHeadRun.looksF r.prog (PySem.W.boot_heap w.params) s.abs, HandSHeadRun.seenQ q loose (PySem.importedModules r.prog.main.body) (fun s => PySem.W.xlAt q [] s && PySem.W.recOk r.toRowW.records s) s.abs)) = some (true, PySem.W.openGood q loose))
    (h2 : ∀ os : OsState, (HandSHeadRun.endF (HandSHeadRun.stepQ (HandSHeadRun.denQ HandSHeadRun.tabQ) r.prog w) M r.prog w os).map ob = some (H.val w)) : HandSHeadRun.RunEq r q H ob M loose w := by
  intro os
  have e := map2 (h1 os) (h2 os)
  cases o : HandSHeadRun.endF (HandSHeadRun.stepQ (HandSHeadRun.denQ HandSHeadRun.tabQ) r.prog w) M r.prog w os with
  | none => rw [o] at e; cases e
  | some s =>
    rw [o] at e
    have e1 := Option.some.inj e
    obtain ⟨e2, e3⟩ := Prod.mk.inj e1
    obtain ⟨e4, e5⟩ := Prod.mk.inj e2
    exact congrArg some (Prod.ext e4 (Prod.ext e5 e3))
end TR
namespace TR
open PySem L2
def top (i : Nat) : Stmt := PySem.Challenge.pw_tuneroad_k40_whole_woken.main.body.getD i (.Pass ⟨0, 0, 0, 0⟩)
abbrev s_Dice_init__ : Stmt := inClass (top 11) 0
abbrev N_Dice_init__ : List Str := ["self", "seed"]
abbrev P_Dice_init__ : List Str := ["self", "seed"]
theorem sc_Dice_init__ : FnScope N_Dice_init__ P_Dice_init__ (defScope s_Dice_init__) := ⟨rfl, rfl, rfl, by decide +kernel, rfl, by decide +kernel, by decide +kernel⟩
abbrev s_Dice_below : Stmt := inClass (top 11) 1
abbrev N_Dice_below : List Str := ["self", "many"]
abbrev P_Dice_below : List Str := ["self", "many"]
theorem sc_Dice_below : FnScope N_Dice_below P_Dice_below (defScope s_Dice_below) := ⟨rfl, rfl, rfl, by decide +kernel, rfl, by decide +kernel, by decide +kernel⟩
abbrev s_Dice_twin : Stmt := inClass (top 11) 2
abbrev N_Dice_twin : List Str := ["self"]
abbrev P_Dice_twin : List Str := ["self"]
theorem sc_Dice_twin : FnScope N_Dice_twin P_Dice_twin (defScope s_Dice_twin) := ⟨rfl, rfl, rfl, by decide +kernel, rfl, by decide +kernel, by decide +kernel⟩
abbrev s_mixed : Stmt := top 12
abbrev N_mixed : List Str := ["dice", "some", "found", "k", "other"]
abbrev P_mixed : List Str := ["dice", "some"]
theorem sc_mixed : FnScope N_mixed P_mixed (defScope s_mixed) := ⟨rfl, rfl, rfl, by decide +kernel, rfl, by decide +kernel, by decide +kernel⟩
abbrev s_Queue_init__ : Stmt := inClass (top 15) 0
abbrev N_Queue_init__ : List Str := ["self"]
abbrev P_Queue_init__ : List Str := ["self"]
theorem sc_Queue_init__ : FnScope N_Queue_init__ P_Queue_init__ (defScope s_Queue_init__) := ⟨rfl, rfl, rfl, by decide +kernel, rfl, by decide +kernel, by decide +kernel⟩
abbrev s_Queue_entries : Stmt := inClass (top 15) 1
abbrev N_Queue_entries : List Str := ["self"]
abbrev P_Queue_entries : List Str := ["self"]
theorem sc_Queue_entries : FnScope N_Queue_entries P_Queue_entries (defScope s_Queue_entries) := ⟨rfl, rfl, rfl, by decide +kernel, rfl, by decide +kernel, by decide +kernel⟩
abbrev s_Queue_need : Stmt := inClass (top 15) 2
abbrev N_Queue_need : List Str := ["self", "entry"]
abbrev P_Queue_need : List Str := ["self", "entry"]
theorem sc_Queue_need : FnScope N_Queue_need P_Queue_need (defScope s_Queue_need) := ⟨rfl, rfl, rfl, by decide +kernel, rfl, by decide +kernel, by decide +kernel⟩
abbrev s_Queue_tune : Stmt := inClass (top 15) 3
abbrev N_Queue_tune : List Str := ["self", "entry"]
abbrev P_Queue_tune : List Str := ["self", "entry"]
theorem sc_Queue_tune : FnScope N_Queue_tune P_Queue_tune (defScope s_Queue_tune) := ⟨rfl, rfl, rfl, by decide +kernel, rfl, by decide +kernel, by decide +kernel⟩
abbrev s_Queue_put : Stmt := inClass (top 15) 4
abbrev N_Queue_put : List Str := ["self", "name", "place"]
abbrev P_Queue_put : List Str := ["self", "name", "place"]
theorem sc_Queue_put : FnScope N_Queue_put P_Queue_put (defScope s_Queue_put) := ⟨rfl, rfl, rfl, by decide +kernel, rfl, by decide +kernel, by decide +kernel⟩
abbrev s_Queue_remove : Stmt := inClass (top 15) 5
abbrev N_Queue_remove : List Str := ["self", "entry"]
abbrev P_Queue_remove : List Str := ["self", "entry"]
theorem sc_Queue_remove : FnScope N_Queue_remove P_Queue_remove (defScope s_Queue_remove) := ⟨rfl, rfl, rfl, by decide +kernel, rfl, by decide +kernel, by decide +kernel⟩
abbrev s_Queue_move : Stmt := inClass (top 15) 6
abbrev N_Queue_move : List Str := ["self", "entry", "place"]
abbrev P_Queue_move : List Str := ["self", "entry", "place"]
theorem sc_Queue_move : FnScope N_Queue_move P_Queue_move (defScope s_Queue_move) := ⟨rfl, rfl, rfl, by decide +kernel, rfl, by decide +kernel, by decide +kernel⟩
abbrev s_Queue_place : Stmt := inClass (top 15) 7
abbrev N_Queue_place : List Str := ["self", "entry"]
abbrev P_Queue_place : List Str := ["self", "entry"]
theorem sc_Queue_place : FnScope N_Queue_place P_Queue_place (defScope s_Queue_place) := ⟨rfl, rfl, rfl, by decide +kernel, rfl, by decide +kernel, by decide +kernel⟩
abbrev s_Queue_twin : Stmt := inClass (top 15) 8
abbrev N_Queue_twin : List Str := ["self", "found"]
abbrev P_Queue_twin : List Str := ["self"]
theorem sc_Queue_twin : FnScope N_Queue_twin P_Queue_twin (defScope s_Queue_twin) := ⟨rfl, rfl, rfl, by decide +kernel, rfl, by decide +kernel, by decide +kernel⟩
abbrev s_Order_init__ : Stmt := inClass (top 18) 0
abbrev N_Order_init__ : List Str := ["self", "seed"]
abbrev P_Order_init__ : List Str := ["self", "seed"]
theorem sc_Order_init__ : FnScope N_Order_init__ P_Order_init__ (defScope s_Order_init__) := ⟨rfl, rfl, rfl, by decide +kernel, rfl, by decide +kernel, by decide +kernel⟩
abbrev s_Order_set_again : Stmt := inClass (top 18) 1
abbrev N_Order_set_again : List Str := ["self", "word"]
abbrev P_Order_set_again : List Str := ["self", "word"]
theorem sc_Order_set_again : FnScope N_Order_set_again P_Order_set_again (defScope s_Order_set_again) := ⟨rfl, rfl, rfl, by decide +kernel, rfl, by decide +kernel, by decide +kernel⟩
abbrev s_Order_set_mixed : Stmt := inClass (top 18) 2
abbrev N_Order_set_mixed : List Str := ["self", "is_mixed", "entry", "one"]
abbrev P_Order_set_mixed : List Str := ["self", "is_mixed", "entry"]
theorem sc_Order_set_mixed : FnScope N_Order_set_mixed P_Order_set_mixed (defScope s_Order_set_mixed) := ⟨rfl, rfl, rfl, by decide +kernel, rfl, by decide +kernel, by decide +kernel⟩
abbrev s_Order_put : Stmt := inClass (top 18) 3
abbrev N_Order_put : List Str := ["self", "name", "place", "found"]
abbrev P_Order_put : List Str := ["self", "name", "place"]
theorem sc_Order_put : FnScope N_Order_put P_Order_put (defScope s_Order_put) := ⟨rfl, rfl, rfl, by decide +kernel, rfl, by decide +kernel, by decide +kernel⟩
abbrev s_Order_remove : Stmt := inClass (top 18) 4
abbrev N_Order_remove : List Str := ["self", "entry", "now", "later"]
abbrev P_Order_remove : List Str := ["self", "entry", "now"]
theorem sc_Order_remove : FnScope N_Order_remove P_Order_remove (defScope s_Order_remove) := ⟨rfl, rfl, rfl, by decide +kernel, rfl, by decide +kernel, by decide +kernel⟩
abbrev s_Order_next_plain : Stmt := inClass (top 18) 5
abbrev N_Order_next_plain : List Str := ["self", "entry", "every", "place"]
abbrev P_Order_next_plain : List Str := ["self", "entry"]
theorem sc_Order_next_plain : FnScope N_Order_next_plain P_Order_next_plain (defScope s_Order_next_plain) := ⟨rfl, rfl, rfl, by decide +kernel, rfl, by decide +kernel, by decide +kernel⟩
abbrev s_Order_next_mixed : Stmt := inClass (top 18) 6
abbrev N_Order_next_mixed : List Str := ["self", "entry"]
abbrev P_Order_next_mixed : List Str := ["self", "entry"]
theorem sc_Order_next_mixed : FnScope N_Order_next_mixed P_Order_next_mixed (defScope s_Order_next_mixed) := ⟨rfl, rfl, rfl, by decide +kernel, rfl, by decide +kernel, by decide +kernel⟩
abbrev s_Order_after : Stmt := inClass (top 18) 7
abbrev N_Order_after : List Str := ["self", "entry"]
abbrev P_Order_after : List Str := ["self", "entry"]
theorem sc_Order_after : FnScope N_Order_after P_Order_after (defScope s_Order_after) := ⟨rfl, rfl, rfl, by decide +kernel, rfl, by decide +kernel, by decide +kernel⟩
abbrev s_Order_skip : Stmt := inClass (top 18) 8
abbrev N_Order_skip : List Str := ["self", "entry"]
abbrev P_Order_skip : List Str := ["self", "entry"]
theorem sc_Order_skip : FnScope N_Order_skip P_Order_skip (defScope s_Order_skip) := ⟨rfl, rfl, rfl, by decide +kernel, rfl, by decide +kernel, by decide +kernel⟩
abbrev s_Order_first : Stmt := inClass (top 18) 9
abbrev N_Order_first : List Str := ["self"]
abbrev P_Order_first : List Str := ["self"]
theorem sc_Order_first : FnScope N_Order_first P_Order_first (defScope s_Order_first) := ⟨rfl, rfl, rfl, by decide +kernel, rfl, by decide +kernel, by decide +kernel⟩
abbrev s_Order_began : Stmt := inClass (top 18) 10
abbrev N_Order_began : List Str := ["self", "entry"]
abbrev P_Order_began : List Str := ["self", "entry"]
theorem sc_Order_began : FnScope N_Order_began P_Order_began (defScope s_Order_began) := ⟨rfl, rfl, rfl, by decide +kernel, rfl, by decide +kernel, by decide +kernel⟩
abbrev s_Order_twin : Stmt := inClass (top 18) 11
abbrev N_Order_twin : List Str := ["self", "found"]
abbrev P_Order_twin : List Str := ["self"]
theorem sc_Order_twin : FnScope N_Order_twin P_Order_twin (defScope s_Order_twin) := ⟨rfl, rfl, rfl, by decide +kernel, rfl, by decide +kernel, by decide +kernel⟩
abbrev s_Player_init__ : Stmt := inClass (top 25) 0
abbrev N_Player_init__ : List Str := ["self", "shelf", "overlap", "seed"]
abbrev P_Player_init__ : List Str := ["self", "shelf", "overlap", "seed"]
theorem sc_Player_init__ : FnScope N_Player_init__ P_Player_init__ (defScope s_Player_init__) := ⟨rfl, rfl, rfl, by decide +kernel, rfl, by decide +kernel, by decide +kernel⟩
abbrev s_Player_long : Stmt := inClass (top 25) 1
abbrev N_Player_long : List Str := ["self", "entry"]
abbrev P_Player_long : List Str := ["self", "entry"]
theorem sc_Player_long : FnScope N_Player_long P_Player_long (defScope s_Player_long) := ⟨rfl, rfl, rfl, by decide +kernel, rfl, by decide +kernel, by decide +kernel⟩
abbrev s_Player_add : Stmt := inClass (top 25) 2
abbrev N_Player_add : List Str := ["self", "name", "place"]
abbrev P_Player_add : List Str := ["self", "name", "place"]
theorem sc_Player_add : FnScope N_Player_add P_Player_add (defScope s_Player_add) := ⟨rfl, rfl, rfl, by decide +kernel, rfl, by decide +kernel, by decide +kernel⟩
abbrev s_Player_remove : Stmt := inClass (top 25) 3
abbrev N_Player_remove : List Str := ["self", "entry", "one"]
abbrev P_Player_remove : List Str := ["self", "entry"]
theorem sc_Player_remove : FnScope N_Player_remove P_Player_remove (defScope s_Player_remove) := ⟨rfl, rfl, rfl, by decide +kernel, rfl, by decide +kernel, by decide +kernel⟩
abbrev s_Player_move : Stmt := inClass (top 25) 4
abbrev N_Player_move : List Str := ["self", "entry", "place"]
abbrev P_Player_move : List Str := ["self", "entry", "place"]
theorem sc_Player_move : FnScope N_Player_move P_Player_move (defScope s_Player_move) := ⟨rfl, rfl, rfl, by decide +kernel, rfl, by decide +kernel, by decide +kernel⟩
abbrev s_Player_play_soon : Stmt := inClass (top 25) 5
abbrev N_Player_play_soon : List Str := ["self", "entry"]
abbrev P_Player_play_soon : List Str := ["self", "entry"]
theorem sc_Player_play_soon : FnScope N_Player_play_soon P_Player_play_soon (defScope s_Player_play_soon) := ⟨rfl, rfl, rfl, by decide +kernel, rfl, by decide +kernel, by decide +kernel⟩
abbrev s_Player_entries : Stmt := inClass (top 25) 6
abbrev N_Player_entries : List Str := ["self"]
abbrev P_Player_entries : List Str := ["self"]
theorem sc_Player_entries : FnScope N_Player_entries P_Player_entries (defScope s_Player_entries) := ⟨rfl, rfl, rfl, by decide +kernel, rfl, by decide +kernel, by decide +kernel⟩
abbrev s_Player_tune : Stmt := inClass (top 25) 7
abbrev N_Player_tune : List Str := ["self", "entry"]
abbrev P_Player_tune : List Str := ["self", "entry"]
theorem sc_Player_tune : FnScope N_Player_tune P_Player_tune (defScope s_Player_tune) := ⟨rfl, rfl, rfl, by decide +kernel, rfl, by decide +kernel, by decide +kernel⟩
abbrev s_Player_set_again : Stmt := inClass (top 25) 8
abbrev N_Player_set_again : List Str := ["self", "word"]
abbrev P_Player_set_again : List Str := ["self", "word"]
theorem sc_Player_set_again : FnScope N_Player_set_again P_Player_set_again (defScope s_Player_set_again) := ⟨rfl, rfl, rfl, by decide +kernel, rfl, by decide +kernel, by decide +kernel⟩
abbrev s_Player_set_mixed : Stmt := inClass (top 25) 9
abbrev N_Player_set_mixed : List Str := ["self", "is_mixed"]
abbrev P_Player_set_mixed : List Str := ["self", "is_mixed"]
theorem sc_Player_set_mixed : FnScope N_Player_set_mixed P_Player_set_mixed (defScope s_Player_set_mixed) := ⟨rfl, rfl, rfl, by decide +kernel, rfl, by decide +kernel, by decide +kernel⟩
abbrev s_Player_begin : Stmt := inClass (top 25) 10
abbrev N_Player_begin : List Str := ["self", "entry", "is_joined"]
abbrev P_Player_begin : List Str := ["self", "entry", "is_joined"]
theorem sc_Player_begin : FnScope N_Player_begin P_Player_begin (defScope s_Player_begin) := ⟨rfl, rfl, rfl, by decide +kernel, rfl, by decide +kernel, by decide +kernel⟩
abbrev s_Player_play : Stmt := inClass (top 25) 11
abbrev N_Player_play : List Str := ["self", "entry"]
abbrev P_Player_play : List Str := ["self", "entry"]
theorem sc_Player_play : FnScope N_Player_play P_Player_play (defScope s_Player_play) := ⟨rfl, rfl, rfl, by decide +kernel, rfl, by decide +kernel, by decide +kernel⟩
abbrev s_Player_resume : Stmt := inClass (top 25) 12
abbrev N_Player_resume : List Str := ["self", "found"]
abbrev P_Player_resume : List Str := ["self"]
theorem sc_Player_resume : FnScope N_Player_resume P_Player_resume (defScope s_Player_resume) := ⟨rfl, rfl, rfl, by decide +kernel, rfl, by decide +kernel, by decide +kernel⟩
abbrev s_Player_pause : Stmt := inClass (top 25) 13
abbrev N_Player_pause : List Str := ["self"]
abbrev P_Player_pause : List Str := ["self"]
theorem sc_Player_pause : FnScope N_Player_pause P_Player_pause (defScope s_Player_pause) := ⟨rfl, rfl, rfl, by decide +kernel, rfl, by decide +kernel, by decide +kernel⟩
abbrev s_Player_next_entry : Stmt := inClass (top 25) 14
abbrev N_Player_next_entry : List Str := ["self", "is_left"]
abbrev P_Player_next_entry : List Str := ["self", "is_left"]
theorem sc_Player_next_entry : FnScope N_Player_next_entry P_Player_next_entry (defScope s_Player_next_entry) := ⟨rfl, rfl, rfl, by decide +kernel, rfl, by decide +kernel, by decide +kernel⟩
abbrev s_Player_skip : Stmt := inClass (top 25) 15
abbrev N_Player_skip : List Str := ["self", "found"]
abbrev P_Player_skip : List Str := ["self"]
theorem sc_Player_skip : FnScope N_Player_skip P_Player_skip (defScope s_Player_skip) := ⟨rfl, rfl, rfl, by decide +kernel, rfl, by decide +kernel, by decide +kernel⟩
abbrev s_Player_back : Stmt := inClass (top 25) 16
abbrev N_Player_back : List Str := ["self"]
abbrev P_Player_back : List Str := ["self"]
theorem sc_Player_back : FnScope N_Player_back P_Player_back (defScope s_Player_back) := ⟨rfl, rfl, rfl, by decide +kernel, rfl, by decide +kernel, by decide +kernel⟩
abbrev s_Player_seek : Stmt := inClass (top 25) 17
abbrev N_Player_seek : List Str := ["self", "spot"]
abbrev P_Player_seek : List Str := ["self", "spot"]
theorem sc_Player_seek : FnScope N_Player_seek P_Player_seek (defScope s_Player_seek) := ⟨rfl, rfl, rfl, by decide +kernel, rfl, by decide +kernel, by decide +kernel⟩
abbrev s_Player_stop_behind : Stmt := inClass (top 25) 18
abbrev N_Player_stop_behind : List Str := ["self", "is_so"]
abbrev P_Player_stop_behind : List Str := ["self", "is_so"]
theorem sc_Player_stop_behind : FnScope N_Player_stop_behind P_Player_stop_behind (defScope s_Player_stop_behind) := ⟨rfl, rfl, rfl, by decide +kernel, rfl, by decide +kernel, by decide +kernel⟩
abbrev s_Player_sleep : Stmt := inClass (top 25) 19
abbrev N_Player_sleep : List Str := ["self", "many"]
abbrev P_Player_sleep : List Str := ["self", "many"]
theorem sc_Player_sleep : FnScope N_Player_sleep P_Player_sleep (defScope s_Player_sleep) := ⟨rfl, rfl, rfl, by decide +kernel, rfl, by decide +kernel, by decide +kernel⟩
abbrev s_Player_join_long : Stmt := inClass (top 25) 20
abbrev N_Player_join_long : List Str := ["self", "entry"]
abbrev P_Player_join_long : List Str := ["self", "entry"]
theorem sc_Player_join_long : FnScope N_Player_join_long P_Player_join_long (defScope s_Player_join_long) := ⟨rfl, rfl, rfl, by decide +kernel, rfl, by decide +kernel, by decide +kernel⟩
abbrev s_Player_step : Stmt := inClass (top 25) 21
abbrev N_Player_step : List Str := ["self", "entry", "spot", "left"]
abbrev P_Player_step : List Str := ["self"]
theorem sc_Player_step : FnScope N_Player_step P_Player_step (defScope s_Player_step) := ⟨rfl, rfl, rfl, by decide +kernel, rfl, by decide +kernel, by decide +kernel⟩
abbrev s_Player_turn_over : Stmt := inClass (top 25) 22
abbrev N_Player_turn_over : List Str := ["self", "long", "found"]
abbrev P_Player_turn_over : List Str := ["self"]
theorem sc_Player_turn_over : FnScope N_Player_turn_over P_Player_turn_over (defScope s_Player_turn_over) := ⟨rfl, rfl, rfl, by decide +kernel, rfl, by decide +kernel, by decide +kernel⟩
abbrev s_Player_tick : Stmt := inClass (top 25) 23
abbrev N_Player_tick : List Str := ["self", "many", "k"]
abbrev P_Player_tick : List Str := ["self", "many"]
theorem sc_Player_tick : FnScope N_Player_tick P_Player_tick (defScope s_Player_tick) := ⟨rfl, rfl, rfl, by decide +kernel, rfl, by decide +kernel, by decide +kernel⟩
abbrev s_Player_state : Stmt := inClass (top 25) 24
abbrev N_Player_state : List Str := ["self"]
abbrev P_Player_state : List Str := ["self"]
theorem sc_Player_state : FnScope N_Player_state P_Player_state (defScope s_Player_state) := ⟨rfl, rfl, rfl, by decide +kernel, rfl, by decide +kernel, by decide +kernel⟩
abbrev s_Player_sounds : Stmt := inClass (top 25) 25
abbrev N_Player_sounds : List Str := ["self", "entry", "spot", "whole", "left"]
abbrev P_Player_sounds : List Str := ["self"]
theorem sc_Player_sounds : FnScope N_Player_sounds P_Player_sounds (defScope s_Player_sounds) := ⟨rfl, rfl, rfl, by decide +kernel, rfl, by decide +kernel, by decide +kernel⟩
abbrev s_Player_log : Stmt := inClass (top 25) 26
abbrev N_Player_log : List Str := ["self"]
abbrev P_Player_log : List Str := ["self"]
theorem sc_Player_log : FnScope N_Player_log P_Player_log (defScope s_Player_log) := ⟨rfl, rfl, rfl, by decide +kernel, rfl, by decide +kernel, by decide +kernel⟩
abbrev s_Player_ticks : Stmt := inClass (top 25) 27
abbrev N_Player_ticks : List Str := ["self"]
abbrev P_Player_ticks : List Str := ["self"]
theorem sc_Player_ticks : FnScope N_Player_ticks P_Player_ticks (defScope s_Player_ticks) := ⟨rfl, rfl, rfl, by decide +kernel, rfl, by decide +kernel, by decide +kernel⟩
abbrev s_Player_ahead : Stmt := inClass (top 25) 28
abbrev N_Player_ahead : List Str := ["self", "many", "twin", "time", "entry"]
abbrev P_Player_ahead : List Str := ["self", "many"]
theorem sc_Player_ahead : FnScope N_Player_ahead P_Player_ahead (defScope s_Player_ahead) := ⟨rfl, rfl, rfl, by decide +kernel, rfl, by decide +kernel, by decide +kernel⟩
abbrev s_Player_twin : Stmt := inClass (top 25) 29
abbrev N_Player_twin : List Str := ["self", "found"]
abbrev P_Player_twin : List Str := ["self"]
theorem sc_Player_twin : FnScope N_Player_twin P_Player_twin (defScope s_Player_twin) := ⟨rfl, rfl, rfl, by decide +kernel, rfl, by decide +kernel, by decide +kernel⟩
abbrev s_told_as : Stmt := top 27
abbrev N_told_as : List Str := ["number"]
abbrev P_told_as : List Str := ["number"]
theorem sc_told_as : FnScope N_told_as P_told_as (defScope s_told_as) := ⟨rfl, rfl, rfl, by decide +kernel, rfl, by decide +kernel, by decide +kernel⟩
abbrev s_number_in : Stmt := top 28
abbrev N_number_in : List Str := ["word"]
abbrev P_number_in : List Str := ["word"]
theorem sc_number_in : FnScope N_number_in P_number_in (defScope s_number_in) := ⟨rfl, rfl, rfl, by decide +kernel, rfl, by decide +kernel, by decide +kernel⟩
abbrev s_row_of : Stmt := top 29
abbrev N_row_of : List Str := ["some", "one"]
abbrev P_row_of : List Str := ["some"]
theorem sc_row_of : FnScope N_row_of P_row_of (defScope s_row_of) := ⟨rfl, rfl, rfl, by decide +kernel, rfl, by decide +kernel, by decide +kernel⟩
abbrev s_numbers_in : Stmt := top 30
abbrev N_numbers_in : List Str := ["row", "word"]
abbrev P_numbers_in : List Str := ["row"]
theorem sc_numbers_in : FnScope N_numbers_in P_numbers_in (defScope s_numbers_in) := ⟨rfl, rfl, rfl, by decide +kernel, rfl, by decide +kernel, by decide +kernel⟩
abbrev s_written : Stmt := top 31
abbrev N_written : List Str := ["player", "order", "rows", "entry", "time"]
abbrev P_written : List Str := ["player"]
theorem sc_written : FnScope N_written P_written (defScope s_written) := ⟨rfl, rfl, rfl, by decide +kernel, rfl, by decide +kernel, by decide +kernel⟩
abbrev s_woken_order : Stmt := top 32
abbrev N_woken_order : List Str := ["rows", "found", "names", "one", "k"]
abbrev P_woken_order : List Str := ["rows"]
theorem sc_woken_order : FnScope N_woken_order P_woken_order (defScope s_woken_order) := ⟨rfl, rfl, rfl, by decide +kernel, rfl, by decide +kernel, by decide +kernel⟩
abbrev s_woken : Stmt := top 33
abbrev N_woken : List Str := ["shelf", "text", "rows", "overlap", "time", "now", "spot", "sleep_left", "found", "one"]
abbrev P_woken : List Str := ["shelf", "text"]
theorem sc_woken : FnScope N_woken P_woken (defScope s_woken) := ⟨rfl, rfl, rfl, by decide +kernel, rfl, by decide +kernel, by decide +kernel⟩
abbrev s_look_name : Stmt := top 39
abbrev N_look_name : List Str := ["name", "sign"]
abbrev P_look_name : List Str := ["name"]
theorem sc_look_name : FnScope N_look_name P_look_name (defScope s_look_name) := ⟨rfl, rfl, rfl, by decide +kernel, rfl, by decide +kernel, by decide +kernel⟩
abbrev s_Shelf_init__ : Stmt := inClass (top 40) 0
abbrev N_Shelf_init__ : List Str := ["self"]
abbrev P_Shelf_init__ : List Str := ["self"]
theorem sc_Shelf_init__ : FnScope N_Shelf_init__ P_Shelf_init__ (defScope s_Shelf_init__) := ⟨rfl, rfl, rfl, by decide +kernel, rfl, by decide +kernel, by decide +kernel⟩
abbrev s_Shelf_add : Stmt := inClass (top 40) 1
abbrev N_Shelf_add : List Str := ["self", "name", "long"]
abbrev P_Shelf_add : List Str := ["self", "name", "long"]
theorem sc_Shelf_add : FnScope N_Shelf_add P_Shelf_add (defScope s_Shelf_add) := ⟨rfl, rfl, rfl, by decide +kernel, rfl, by decide +kernel, by decide +kernel⟩
abbrev s_Shelf_need : Stmt := inClass (top 40) 2
abbrev N_Shelf_need : List Str := ["self", "name"]
abbrev P_Shelf_need : List Str := ["self", "name"]
theorem sc_Shelf_need : FnScope N_Shelf_need P_Shelf_need (defScope s_Shelf_need) := ⟨rfl, rfl, rfl, by decide +kernel, rfl, by decide +kernel, by decide +kernel⟩
abbrev s_Shelf_long : Stmt := inClass (top 40) 3
abbrev N_Shelf_long : List Str := ["self", "name"]
abbrev P_Shelf_long : List Str := ["self", "name"]
theorem sc_Shelf_long : FnScope N_Shelf_long P_Shelf_long (defScope s_Shelf_long) := ⟨rfl, rfl, rfl, by decide +kernel, rfl, by decide +kernel, by decide +kernel⟩
abbrev s_Shelf_names : Stmt := inClass (top 40) 4
abbrev N_Shelf_names : List Str := ["self"]
abbrev P_Shelf_names : List Str := ["self"]
theorem sc_Shelf_names : FnScope N_Shelf_names P_Shelf_names (defScope s_Shelf_names) := ⟨rfl, rfl, rfl, by decide +kernel, rfl, by decide +kernel, by decide +kernel⟩
abbrev s_law_cell : Stmt := top 42
abbrev N_law_cell : List Str := ["script", "k"]
abbrev P_law_cell : List Str := ["script", "k"]
theorem sc_law_cell : FnScope N_law_cell P_law_cell (defScope s_law_cell) := ⟨rfl, rfl, rfl, by decide +kernel, rfl, by decide +kernel, by decide +kernel⟩
abbrev s_law_mix : Stmt := top 43
abbrev N_law_mix : List Str := ["script", "k", "number"]
abbrev P_law_mix : List Str := ["script", "k"]
theorem sc_law_mix : FnScope N_law_mix P_law_mix (defScope s_law_mix) := ⟨rfl, rfl, rfl, by decide +kernel, rfl, by decide +kernel, by decide +kernel⟩
abbrev s_law_draw : Stmt := top 44
abbrev N_law_draw : List Str := ["script", "town", "many"]
abbrev P_law_draw : List Str := ["script", "town", "many"]
theorem sc_law_draw : FnScope N_law_draw P_law_draw (defScope s_law_draw) := ⟨rfl, rfl, rfl, by decide +kernel, rfl, by decide +kernel, by decide +kernel⟩
abbrev s_law_pick : Stmt := top 45
abbrev N_law_pick : List Str := ["script", "town", "some"]
abbrev P_law_pick : List Str := ["script", "town", "some"]
theorem sc_law_pick : FnScope N_law_pick P_law_pick (defScope s_law_pick) := ⟨rfl, rfl, rfl, by decide +kernel, rfl, by decide +kernel, by decide +kernel⟩
abbrev s_law_refusal : Stmt := top 46
abbrev N_law_refusal : List Str := ["caught", "kinds"]
abbrev P_law_refusal : List Str := ["caught"]
theorem sc_law_refusal : FnScope N_law_refusal P_law_refusal (defScope s_law_refusal) := ⟨rfl, rfl, rfl, by decide +kernel, rfl, by decide +kernel, by decide +kernel⟩
abbrev s_law_one : Stmt := top 47
abbrev N_law_one : List Str := ["player", "some", "word", "one", "two"]
abbrev P_law_one : List Str := ["player", "some"]
theorem sc_law_one : FnScope N_law_one P_law_one (defScope s_law_one) := ⟨rfl, rfl, rfl, by decide +kernel, rfl, by decide +kernel, by decide +kernel⟩
abbrev s_law_told : Stmt := top 48
abbrev N_law_told : List Str := ["player", "some", "caught", "found", "e"]
abbrev P_law_told : List Str := ["player", "some"]
theorem sc_law_told : FnScope N_law_told P_law_told (defScope s_law_told) := ⟨rfl, rfl, rfl, by decide +kernel, rfl, by decide +kernel, by decide +kernel⟩
abbrev s_law_call : Stmt := top 49
abbrev N_law_call : List Str := ["script", "town", "player", "some", "kind", "entry", "name"]
abbrev P_law_call : List Str := ["script", "town", "player"]
theorem sc_law_call : FnScope N_law_call P_law_call (defScope s_law_call) := ⟨rfl, rfl, rfl, by decide +kernel, rfl, by decide +kernel, by decide +kernel⟩
abbrev s_law_all : Stmt := top 50
abbrev N_law_all : List Str := ["player", "many", "tunes", "shown", "entry"]
abbrev P_law_all : List Str := ["player", "many"]
theorem sc_law_all : FnScope N_law_all P_law_all (defScope s_law_all) := ⟨rfl, rfl, rfl, by decide +kernel, rfl, by decide +kernel, by decide +kernel⟩
abbrev s_law_tune : Stmt := top 51
abbrev N_law_tune : List Str := ["player", "entry", "caught", "found", "e"]
abbrev P_law_tune : List Str := ["player", "entry"]
theorem sc_law_tune : FnScope N_law_tune P_law_tune (defScope s_law_tune) := ⟨rfl, rfl, rfl, by decide +kernel, rfl, by decide +kernel, by decide +kernel⟩
abbrev s_law_led : Stmt := top 52
abbrev N_law_led : List Str := ["script", "town", "player", "k", "kind"]
abbrev P_law_led : List Str := ["script", "town", "player"]
theorem sc_law_led : FnScope N_law_led P_law_led (defScope s_law_led) := ⟨rfl, rfl, rfl, by decide +kernel, rfl, by decide +kernel, by decide +kernel⟩
abbrev s_law_shelf : Stmt := top 53
abbrev N_law_shelf : List Str := ["longs", "found", "name"]
abbrev P_law_shelf : List Str := ["longs"]
theorem sc_law_shelf : FnScope N_law_shelf P_law_shelf (defScope s_law_shelf) := ⟨rfl, rfl, rfl, by decide +kernel, rfl, by decide +kernel, by decide +kernel⟩
abbrev s_law_begun : Stmt := top 54
abbrev N_law_begun : List Str := ["script", "town", "longs", "found", "k"]
abbrev P_law_begun : List Str := ["script", "town", "longs"]
theorem sc_law_begun : FnScope N_law_begun P_law_begun (defScope s_law_begun) := ⟨rfl, rfl, rfl, by decide +kernel, rfl, by decide +kernel, by decide +kernel⟩
abbrev s_law_is_text : Stmt := top 55
abbrev N_law_is_text : List Str := ["text", "sign"]
abbrev P_law_is_text : List Str := ["text"]
theorem sc_law_is_text : FnScope N_law_is_text P_law_is_text (defScope s_law_is_text) := ⟨rfl, rfl, rfl, by decide +kernel, rfl, by decide +kernel, by decide +kernel⟩
abbrev s_law_same : Stmt := top 56
abbrev N_law_same : List Str := ["script", "town", "one", "other", "k", "call", "kept", "told"]
abbrev P_law_same : List Str := ["script", "town", "one", "other"]
theorem sc_law_same : FnScope N_law_same P_law_same (defScope s_law_same) := ⟨rfl, rfl, rfl, by decide +kernel, rfl, by decide +kernel, by decide +kernel⟩
abbrev s_law : Stmt := top 57
abbrev N_law : List Str := ["script", "town", "longs", "name", "one", "turn", "kept", "text", "shelf", "other", "last"]
abbrev P_law : List Str := ["script"]
theorem sc_law : FnScope N_law P_law (defScope s_law) := ⟨rfl, rfl, rfl, by decide +kernel, rfl, by decide +kernel, by decide +kernel⟩
end TR
namespace TR
open PySem L2
structure Ads where
  c_RoadError : Addr
  c_BadTune : Addr
  c_BadNumber : Addr
  c_BadEntry : Addr
  c_BadWord : Addr
  c_Dice : Addr
  c_Queue : Addr
  c_Order : Addr
  c_Player : Addr
  c_Shelf : Addr
  f_Dice_init__ : Addr
  f_Dice_below : Addr
  f_Dice_twin : Addr
  f_mixed : Addr
  f_Queue_init__ : Addr
  f_Queue_entries : Addr
  f_Queue_need : Addr
  f_Queue_tune : Addr
  f_Queue_put : Addr
  f_Queue_remove : Addr
  f_Queue_move : Addr
  f_Queue_place : Addr
  f_Queue_twin : Addr
  f_Order_init__ : Addr
  f_Order_set_again : Addr
  f_Order_set_mixed : Addr
  f_Order_put : Addr
  f_Order_remove : Addr
  f_Order_next_plain : Addr
  f_Order_next_mixed : Addr
  f_Order_after : Addr
  f_Order_skip : Addr
  f_Order_first : Addr
  f_Order_began : Addr
  f_Order_twin : Addr
  f_Player_init__ : Addr
  f_Player_long : Addr
  f_Player_add : Addr
  f_Player_remove : Addr
  f_Player_move : Addr
  f_Player_play_soon : Addr
  f_Player_entries : Addr
  f_Player_tune : Addr
  f_Player_set_again : Addr
  f_Player_set_mixed : Addr
  f_Player_begin : Addr
  f_Player_play : Addr
  f_Player_resume : Addr
  f_Player_pause : Addr
  f_Player_next_entry : Addr
  f_Player_skip : Addr
  f_Player_back : Addr
  f_Player_seek : Addr
  f_Player_stop_behind : Addr
  f_Player_sleep : Addr
  f_Player_join_long : Addr
  f_Player_step : Addr
  f_Player_turn_over : Addr
  f_Player_tick : Addr
  f_Player_state : Addr
  f_Player_sounds : Addr
  f_Player_log : Addr
  f_Player_ticks : Addr
  f_Player_ahead : Addr
  f_Player_twin : Addr
  f_told_as : Addr
  f_number_in : Addr
  f_row_of : Addr
  f_numbers_in : Addr
  f_written : Addr
  f_woken_order : Addr
  f_woken : Addr
  f_look_name : Addr
  f_Shelf_init__ : Addr
  f_Shelf_add : Addr
  f_Shelf_need : Addr
  f_Shelf_long : Addr
  f_Shelf_names : Addr
  f_law_cell : Addr
  f_law_mix : Addr
  f_law_draw : Addr
  f_law_pick : Addr
  f_law_refusal : Addr
  f_law_one : Addr
  f_law_told : Addr
  f_law_call : Addr
  f_law_all : Addr
  f_law_tune : Addr
  f_law_led : Addr
  f_law_shelf : Addr
  f_law_begun : Addr
  f_law_is_text : Addr
  f_law_same : Addr
  f_law : Addr
  o_REPEATS : Addr
  d_Dice_init__ : FuncData
  d_Dice_below : FuncData
  d_Dice_twin : FuncData
  d_mixed : FuncData
  d_Queue_init__ : FuncData
  d_Queue_entries : FuncData
  d_Queue_need : FuncData
  d_Queue_tune : FuncData
  d_Queue_put : FuncData
  d_Queue_remove : FuncData
  d_Queue_move : FuncData
  d_Queue_place : FuncData
  d_Queue_twin : FuncData
  d_Order_init__ : FuncData
  d_Order_set_again : FuncData
  d_Order_set_mixed : FuncData
  d_Order_put : FuncData
  d_Order_remove : FuncData
  d_Order_next_plain : FuncData
  d_Order_next_mixed : FuncData
  d_Order_after : FuncData
  d_Order_skip : FuncData
  d_Order_first : FuncData
  d_Order_began : FuncData
  d_Order_twin : FuncData
  d_Player_init__ : FuncData
  d_Player_long : FuncData
  d_Player_add : FuncData
  d_Player_remove : FuncData
  d_Player_move : FuncData
  d_Player_play_soon : FuncData
  d_Player_entries : FuncData
  d_Player_tune : FuncData
  d_Player_set_again : FuncData
  d_Player_set_mixed : FuncData
  d_Player_begin : FuncData
  d_Player_play : FuncData
  d_Player_resume : FuncData
  d_Player_pause : FuncData
  d_Player_next_entry : FuncData
  d_Player_skip : FuncData
  d_Player_back : FuncData
  d_Player_seek : FuncData
  d_Player_stop_behind : FuncData
  d_Player_sleep : FuncData
  d_Player_join_long : FuncData
  d_Player_step : FuncData
  d_Player_turn_over : FuncData
  d_Player_tick : FuncData
  d_Player_state : FuncData
  d_Player_sounds : FuncData
  d_Player_log : FuncData
  d_Player_ticks : FuncData
  d_Player_ahead : FuncData
  d_Player_twin : FuncData
  d_told_as : FuncData
  d_number_in : FuncData
  d_row_of : FuncData
  d_numbers_in : FuncData
  d_written : FuncData
  d_woken_order : FuncData
  d_woken : FuncData
  d_look_name : FuncData
  d_Shelf_init__ : FuncData
  d_Shelf_add : FuncData
  d_Shelf_need : FuncData
  d_Shelf_long : FuncData
  d_Shelf_names : FuncData
  d_law_cell : FuncData
  d_law_mix : FuncData
  d_law_draw : FuncData
  d_law_pick : FuncData
  d_law_refusal : FuncData
  d_law_one : FuncData
  d_law_told : FuncData
  d_law_call : FuncData
  d_law_all : FuncData
  d_law_tune : FuncData
  d_law_led : FuncData
  d_law_shelf : FuncData
  d_law_begun : FuncData
  d_law_is_text : FuncData
  d_law_same : FuncData
  d_law : FuncData
structure Txt (K : PySem.W.Frag) (mg : Str → Option Value) (A : Ads) : Prop where
  z_ValueError : mg "ValueError" = none
  z_all : mg "all" = none
  z_dict : mg "dict" = none
  z_int : mg "int" = none
  z_isinstance : mg "isinstance" = none
  z_len : mg "len" = none
  z_list : mg "list" = none
  z_min : mg "min" = none
  z_range : mg "range" = none
  z_sorted : mg "sorted" = none
  z_str : mg "str" = none
  z_tuple : mg "tuple" = none
  z_zip : mg "zip" = none
  gi_WHEEL : ∃ t, mg "WHEEL" = some (.int 6075 t)
  gi_TIMES : ∃ t, mg "TIMES" = some (.int 106 t)
  gi_MORE : ∃ t, mg "MORE" = some (.int 1283 t)
  gi_MOST : ∃ t, mg "MOST" = some (.int 60 t)
  gi_MOST_ENTRIES : ∃ t, mg "MOST_ENTRIES" = some (.int 12 t)
  gi_REPEATS : mg "REPEATS" = some (.ref A.o_REPEATS)
  tu_REPEATS : ∀ H : Hp, SqT K H A.o_REPEATS [.str "none", .str "all", .str "one"]
  gi_MOST_OVERLAP : ∃ t, mg "MOST_OVERLAP" = some (.int 9 t)
  gi_MOST_TICKS : ∃ t, mg "MOST_TICKS" = some (.int 200 t)
  gi_MOST_AHEAD : ∃ t, mg "MOST_AHEAD" = some (.int 12 t)
  gi_MOST_SLEEP : ∃ t, mg "MOST_SLEEP" = some (.int 60 t)
  gi_EARLY : ∃ t, mg "EARLY" = some (.int 3 t)
  gi_SMALL : ∃ t, mg "SMALL" = some (.str "abcdefghijklmnopqrstuvwxyz" t)
  gi_MOST_NAME : ∃ t, mg "MOST_NAME" = some (.int 6 t)
  gi_MOST_TUNES : ∃ t, mg "MOST_TUNES" = some (.int 6 t)
  gi_MOST_LONG : ∃ t, mg "MOST_LONG" = some (.int 40 t)
  g_RoadError : mg "RoadError" = some (.ref A.c_RoadError)
  g_BadTune : mg "BadTune" = some (.ref A.c_BadTune)
  g_BadNumber : mg "BadNumber" = some (.ref A.c_BadNumber)
  g_BadEntry : mg "BadEntry" = some (.ref A.c_BadEntry)
  g_BadWord : mg "BadWord" = some (.ref A.c_BadWord)
  g_Dice : mg "Dice" = some (.ref A.c_Dice)
  g_Queue : mg "Queue" = some (.ref A.c_Queue)
  g_Order : mg "Order" = some (.ref A.c_Order)
  g_Player : mg "Player" = some (.ref A.c_Player)
  g_Shelf : mg "Shelf" = some (.ref A.c_Shelf)
  c_Dice : Cls K A.c_Dice
  M_Dice : Mk K A.c_Dice A.f_Dice_init__
  n_Dice_number : NoAttr K A.c_Dice "number"
  c_Queue : Cls K A.c_Queue
  M_Queue : Mk K A.c_Queue A.f_Queue_init__
  n_Queue_tunes : NoAttr K A.c_Queue "tunes"
  n_Queue_turn : NoAttr K A.c_Queue "turn"
  n_Queue_last : NoAttr K A.c_Queue "last"
  c_Order : Cls K A.c_Order
  M_Order : Mk K A.c_Order A.f_Order_init__
  n_Order_queue : NoAttr K A.c_Order "queue"
  n_Order_dice : NoAttr K A.c_Order "dice"
  n_Order_is_mixed : NoAttr K A.c_Order "is_mixed"
  n_Order_again : NoAttr K A.c_Order "again"
  n_Order_deck : NoAttr K A.c_Order "deck"
  n_Order_is_gone : NoAttr K A.c_Order "is_gone"
  n_Order_behind : NoAttr K A.c_Order "behind"
  c_Player : Cls K A.c_Player
  M_Player : Mk K A.c_Player A.f_Player_init__
  n_Player_shelf : NoAttr K A.c_Player "shelf"
  n_Player_overlap : NoAttr K A.c_Player "overlap"
  n_Player_order : NoAttr K A.c_Player "order"
  n_Player_time : NoAttr K A.c_Player "time"
  n_Player_now : NoAttr K A.c_Player "now"
  n_Player_spot : NoAttr K A.c_Player "spot"
  n_Player_old : NoAttr K A.c_Player "old"
  n_Player_soon : NoAttr K A.c_Player "soon"
  n_Player_past : NoAttr K A.c_Player "past"
  n_Player_rows : NoAttr K A.c_Player "rows"
  n_Player_is_playing : NoAttr K A.c_Player "is_playing"
  n_Player_stops : NoAttr K A.c_Player "stops"
  n_Player_sleep_left : NoAttr K A.c_Player "sleep_left"
  c_Shelf : Cls K A.c_Shelf
  M_Shelf : Mk K A.c_Shelf A.f_Shelf_init__
  n_Shelf_longs : NoAttr K A.c_Shelf "longs"
  x_RoadError : PySem.W.excIn K A.c_RoadError He.veBase "ValueError.__new__" = true
  k_RoadError : PySem.W.keepIn K (.ref A.c_RoadError) = true
  r_RoadError : PySem.W.subIn K (.ref A.c_RoadError) (.type "BaseException") = some true
  t_RoadError : PySem.W.typeIn K (.ref A.c_RoadError) = some (.type "type")
  e_RoadError : ExcC K A.c_RoadError
  m_RoadError : PySem.W.exmOne K (.ref A.c_RoadError) (.ref A.c_RoadError) = some true
  mm_RoadError : PySem.W.exmOne K (.ref A.c_RoadError) (.ref A.c_RoadError) = some true
  i_RoadError_RoadError : PySem.W.kitOne K (.ref A.c_RoadError) (.ref A.c_RoadError) = some true
  i_RoadError_BadTune : PySem.W.kitOne K (.ref A.c_RoadError) (.ref A.c_BadTune) = some false
  i_RoadError_BadNumber : PySem.W.kitOne K (.ref A.c_RoadError) (.ref A.c_BadNumber) = some false
  i_RoadError_BadEntry : PySem.W.kitOne K (.ref A.c_RoadError) (.ref A.c_BadEntry) = some false
  i_RoadError_BadWord : PySem.W.kitOne K (.ref A.c_RoadError) (.ref A.c_BadWord) = some false
  i_RoadError_ValueError : PySem.W.kitOne K (.ref A.c_RoadError) (.type "ValueError") = some true
  x_BadTune : PySem.W.excIn K A.c_BadTune He.veBase "ValueError.__new__" = true
  k_BadTune : PySem.W.keepIn K (.ref A.c_BadTune) = true
  r_BadTune : PySem.W.subIn K (.ref A.c_BadTune) (.type "BaseException") = some true
  t_BadTune : PySem.W.typeIn K (.ref A.c_BadTune) = some (.type "type")
  e_BadTune : ExcC K A.c_BadTune
  m_BadTune : PySem.W.exmOne K (.ref A.c_BadTune) (.ref A.c_RoadError) = some true
  mm_BadTune : PySem.W.exmOne K (.ref A.c_BadTune) (.ref A.c_BadTune) = some true
  i_BadTune_RoadError : PySem.W.kitOne K (.ref A.c_BadTune) (.ref A.c_RoadError) = some true
  i_BadTune_BadTune : PySem.W.kitOne K (.ref A.c_BadTune) (.ref A.c_BadTune) = some true
  i_BadTune_BadNumber : PySem.W.kitOne K (.ref A.c_BadTune) (.ref A.c_BadNumber) = some false
  i_BadTune_BadEntry : PySem.W.kitOne K (.ref A.c_BadTune) (.ref A.c_BadEntry) = some false
  i_BadTune_BadWord : PySem.W.kitOne K (.ref A.c_BadTune) (.ref A.c_BadWord) = some false
  i_BadTune_ValueError : PySem.W.kitOne K (.ref A.c_BadTune) (.type "ValueError") = some true
  x_BadNumber : PySem.W.excIn K A.c_BadNumber He.veBase "ValueError.__new__" = true
  k_BadNumber : PySem.W.keepIn K (.ref A.c_BadNumber) = true
  r_BadNumber : PySem.W.subIn K (.ref A.c_BadNumber) (.type "BaseException") = some true
  t_BadNumber : PySem.W.typeIn K (.ref A.c_BadNumber) = some (.type "type")
  e_BadNumber : ExcC K A.c_BadNumber
  m_BadNumber : PySem.W.exmOne K (.ref A.c_BadNumber) (.ref A.c_RoadError) = some true
  mm_BadNumber : PySem.W.exmOne K (.ref A.c_BadNumber) (.ref A.c_BadNumber) = some true
  i_BadNumber_RoadError : PySem.W.kitOne K (.ref A.c_BadNumber) (.ref A.c_RoadError) = some true
  i_BadNumber_BadTune : PySem.W.kitOne K (.ref A.c_BadNumber) (.ref A.c_BadTune) = some false
  i_BadNumber_BadNumber : PySem.W.kitOne K (.ref A.c_BadNumber) (.ref A.c_BadNumber) = some true
  i_BadNumber_BadEntry : PySem.W.kitOne K (.ref A.c_BadNumber) (.ref A.c_BadEntry) = some false
  i_BadNumber_BadWord : PySem.W.kitOne K (.ref A.c_BadNumber) (.ref A.c_BadWord) = some false
  i_BadNumber_ValueError : PySem.W.kitOne K (.ref A.c_BadNumber) (.type "ValueError") = some true
  x_BadEntry : PySem.W.excIn K A.c_BadEntry He.veBase "ValueError.__new__" = true
  k_BadEntry : PySem.W.keepIn K (.ref A.c_BadEntry) = true
  r_BadEntry : PySem.W.subIn K (.ref A.c_BadEntry) (.type "BaseException") = some true
  t_BadEntry : PySem.W.typeIn K (.ref A.c_BadEntry) = some (.type "type")
  e_BadEntry : ExcC K A.c_BadEntry
  m_BadEntry : PySem.W.exmOne K (.ref A.c_BadEntry) (.ref A.c_RoadError) = some true
  mm_BadEntry : PySem.W.exmOne K (.ref A.c_BadEntry) (.ref A.c_BadEntry) = some true
  i_BadEntry_RoadError : PySem.W.kitOne K (.ref A.c_BadEntry) (.ref A.c_RoadError) = some true
  i_BadEntry_BadTune : PySem.W.kitOne K (.ref A.c_BadEntry) (.ref A.c_BadTune) = some false
  i_BadEntry_BadNumber : PySem.W.kitOne K (.ref A.c_BadEntry) (.ref A.c_BadNumber) = some false
  i_BadEntry_BadEntry : PySem.W.kitOne K (.ref A.c_BadEntry) (.ref A.c_BadEntry) = some true
  i_BadEntry_BadWord : PySem.W.kitOne K (.ref A.c_BadEntry) (.ref A.c_BadWord) = some false
  i_BadEntry_ValueError : PySem.W.kitOne K (.ref A.c_BadEntry) (.type "ValueError") = some true
  x_BadWord : PySem.W.excIn K A.c_BadWord He.veBase "ValueError.__new__" = true
  k_BadWord : PySem.W.keepIn K (.ref A.c_BadWord) = true
  r_BadWord : PySem.W.subIn K (.ref A.c_BadWord) (.type "BaseException") = some true
  t_BadWord : PySem.W.typeIn K (.ref A.c_BadWord) = some (.type "type")
  e_BadWord : ExcC K A.c_BadWord
  m_BadWord : PySem.W.exmOne K (.ref A.c_BadWord) (.ref A.c_RoadError) = some true
  mm_BadWord : PySem.W.exmOne K (.ref A.c_BadWord) (.ref A.c_BadWord) = some true
  i_BadWord_RoadError : PySem.W.kitOne K (.ref A.c_BadWord) (.ref A.c_RoadError) = some true
  i_BadWord_BadTune : PySem.W.kitOne K (.ref A.c_BadWord) (.ref A.c_BadTune) = some false
  i_BadWord_BadNumber : PySem.W.kitOne K (.ref A.c_BadWord) (.ref A.c_BadNumber) = some false
  i_BadWord_BadEntry : PySem.W.kitOne K (.ref A.c_BadWord) (.ref A.c_BadEntry) = some false
  i_BadWord_BadWord : PySem.W.kitOne K (.ref A.c_BadWord) (.ref A.c_BadWord) = some true
  i_BadWord_ValueError : PySem.W.kitOne K (.ref A.c_BadWord) (.type "ValueError") = some true
  F_Dice_init__ : Fun K "__init__" "Dice.__init__" s_Dice_init__ A.f_Dice_init__ A.d_Dice_init__
  b_Dice_init__ : Binds K A.d_Dice_init__ P_Dice_init__ []
  m_Dice_init__ : Meth K A.c_Dice "__init__" A.f_Dice_init__
  F_Dice_below : Fun K "below" "Dice.below" s_Dice_below A.f_Dice_below A.d_Dice_below
  b_Dice_below : Binds K A.d_Dice_below P_Dice_below []
  m_Dice_below : Meth K A.c_Dice "below" A.f_Dice_below
  F_Dice_twin : Fun K "twin" "Dice.twin" s_Dice_twin A.f_Dice_twin A.d_Dice_twin
  b_Dice_twin : Binds K A.d_Dice_twin P_Dice_twin []
  m_Dice_twin : Meth K A.c_Dice "twin" A.f_Dice_twin
  F_mixed : Fun K "mixed" "mixed" s_mixed A.f_mixed A.d_mixed
  b_mixed : Binds K A.d_mixed P_mixed []
  g_mixed : mg "mixed" = some (.ref A.f_mixed)
  k_mixed : PySem.W.keepIn K (.ref A.f_mixed) = true
  F_Queue_init__ : Fun K "__init__" "Queue.__init__" s_Queue_init__ A.f_Queue_init__ A.d_Queue_init__
  b_Queue_init__ : Binds K A.d_Queue_init__ P_Queue_init__ []
  m_Queue_init__ : Meth K A.c_Queue "__init__" A.f_Queue_init__
  F_Queue_entries : Fun K "entries" "Queue.entries" s_Queue_entries A.f_Queue_entries A.d_Queue_entries
  b_Queue_entries : Binds K A.d_Queue_entries P_Queue_entries []
  m_Queue_entries : Meth K A.c_Queue "entries" A.f_Queue_entries
  F_Queue_need : Fun K "need" "Queue.need" s_Queue_need A.f_Queue_need A.d_Queue_need
  b_Queue_need : Binds K A.d_Queue_need P_Queue_need []
  m_Queue_need : Meth K A.c_Queue "need" A.f_Queue_need
  F_Queue_tune : Fun K "tune" "Queue.tune" s_Queue_tune A.f_Queue_tune A.d_Queue_tune
  b_Queue_tune : Binds K A.d_Queue_tune P_Queue_tune []
  m_Queue_tune : Meth K A.c_Queue "tune" A.f_Queue_tune
  F_Queue_put : Fun K "put" "Queue.put" s_Queue_put A.f_Queue_put A.d_Queue_put
  b_Queue_put : Binds K A.d_Queue_put P_Queue_put []
  m_Queue_put : Meth K A.c_Queue "put" A.f_Queue_put
  F_Queue_remove : Fun K "remove" "Queue.remove" s_Queue_remove A.f_Queue_remove A.d_Queue_remove
  b_Queue_remove : Binds K A.d_Queue_remove P_Queue_remove []
  m_Queue_remove : Meth K A.c_Queue "remove" A.f_Queue_remove
  F_Queue_move : Fun K "move" "Queue.move" s_Queue_move A.f_Queue_move A.d_Queue_move
  b_Queue_move : Binds K A.d_Queue_move P_Queue_move []
  m_Queue_move : Meth K A.c_Queue "move" A.f_Queue_move
  F_Queue_place : Fun K "place" "Queue.place" s_Queue_place A.f_Queue_place A.d_Queue_place
  b_Queue_place : Binds K A.d_Queue_place P_Queue_place []
  m_Queue_place : Meth K A.c_Queue "place" A.f_Queue_place
  F_Queue_twin : Fun K "twin" "Queue.twin" s_Queue_twin A.f_Queue_twin A.d_Queue_twin
  b_Queue_twin : Binds K A.d_Queue_twin P_Queue_twin []
  m_Queue_twin : Meth K A.c_Queue "twin" A.f_Queue_twin
  F_Order_init__ : Fun K "__init__" "Order.__init__" s_Order_init__ A.f_Order_init__ A.d_Order_init__
  b_Order_init__ : Binds K A.d_Order_init__ P_Order_init__ []
  m_Order_init__ : Meth K A.c_Order "__init__" A.f_Order_init__
  F_Order_set_again : Fun K "set_again" "Order.set_again" s_Order_set_again A.f_Order_set_again A.d_Order_set_again
  b_Order_set_again : Binds K A.d_Order_set_again P_Order_set_again []
  m_Order_set_again : Meth K A.c_Order "set_again" A.f_Order_set_again
  F_Order_set_mixed : Fun K "set_mixed" "Order.set_mixed" s_Order_set_mixed A.f_Order_set_mixed A.d_Order_set_mixed
  b_Order_set_mixed : Binds K A.d_Order_set_mixed P_Order_set_mixed []
  m_Order_set_mixed : Meth K A.c_Order "set_mixed" A.f_Order_set_mixed
  F_Order_put : Fun K "put" "Order.put" s_Order_put A.f_Order_put A.d_Order_put
  b_Order_put : Binds K A.d_Order_put P_Order_put []
  m_Order_put : Meth K A.c_Order "put" A.f_Order_put
  F_Order_remove : Fun K "remove" "Order.remove" s_Order_remove A.f_Order_remove A.d_Order_remove
  b_Order_remove : Binds K A.d_Order_remove P_Order_remove []
  m_Order_remove : Meth K A.c_Order "remove" A.f_Order_remove
  F_Order_next_plain : Fun K "next_plain" "Order.next_plain" s_Order_next_plain A.f_Order_next_plain A.d_Order_next_plain
  b_Order_next_plain : Binds K A.d_Order_next_plain P_Order_next_plain []
  m_Order_next_plain : Meth K A.c_Order "next_plain" A.f_Order_next_plain
  F_Order_next_mixed : Fun K "next_mixed" "Order.next_mixed" s_Order_next_mixed A.f_Order_next_mixed A.d_Order_next_mixed
  b_Order_next_mixed : Binds K A.d_Order_next_mixed P_Order_next_mixed []
  m_Order_next_mixed : Meth K A.c_Order "next_mixed" A.f_Order_next_mixed
  F_Order_after : Fun K "after" "Order.after" s_Order_after A.f_Order_after A.d_Order_after
  b_Order_after : Binds K A.d_Order_after P_Order_after []
  m_Order_after : Meth K A.c_Order "after" A.f_Order_after
  F_Order_skip : Fun K "skip" "Order.skip" s_Order_skip A.f_Order_skip A.d_Order_skip
  b_Order_skip : Binds K A.d_Order_skip P_Order_skip []
  m_Order_skip : Meth K A.c_Order "skip" A.f_Order_skip
  F_Order_first : Fun K "first" "Order.first" s_Order_first A.f_Order_first A.d_Order_first
  b_Order_first : Binds K A.d_Order_first P_Order_first []
  m_Order_first : Meth K A.c_Order "first" A.f_Order_first
  F_Order_began : Fun K "began" "Order.began" s_Order_began A.f_Order_began A.d_Order_began
  b_Order_began : Binds K A.d_Order_began P_Order_began []
  m_Order_began : Meth K A.c_Order "began" A.f_Order_began
  F_Order_twin : Fun K "twin" "Order.twin" s_Order_twin A.f_Order_twin A.d_Order_twin
  b_Order_twin : Binds K A.d_Order_twin P_Order_twin []
  m_Order_twin : Meth K A.c_Order "twin" A.f_Order_twin
  F_Player_init__ : Fun K "__init__" "Player.__init__" s_Player_init__ A.f_Player_init__ A.d_Player_init__
  b_Player_init__ : Binds K A.d_Player_init__ P_Player_init__ []
  m_Player_init__ : Meth K A.c_Player "__init__" A.f_Player_init__
  F_Player_long : Fun K "long" "Player.long" s_Player_long A.f_Player_long A.d_Player_long
  b_Player_long : Binds K A.d_Player_long P_Player_long []
  m_Player_long : Meth K A.c_Player "long" A.f_Player_long
  F_Player_add : Fun K "add" "Player.add" s_Player_add A.f_Player_add A.d_Player_add
  b_Player_add : Binds K A.d_Player_add P_Player_add []
  m_Player_add : Meth K A.c_Player "add" A.f_Player_add
  F_Player_remove : Fun K "remove" "Player.remove" s_Player_remove A.f_Player_remove A.d_Player_remove
  b_Player_remove : Binds K A.d_Player_remove P_Player_remove []
  m_Player_remove : Meth K A.c_Player "remove" A.f_Player_remove
  F_Player_move : Fun K "move" "Player.move" s_Player_move A.f_Player_move A.d_Player_move
  b_Player_move : Binds K A.d_Player_move P_Player_move []
  m_Player_move : Meth K A.c_Player "move" A.f_Player_move
  F_Player_play_soon : Fun K "play_soon" "Player.play_soon" s_Player_play_soon A.f_Player_play_soon A.d_Player_play_soon
  b_Player_play_soon : Binds K A.d_Player_play_soon P_Player_play_soon []
  m_Player_play_soon : Meth K A.c_Player "play_soon" A.f_Player_play_soon
  F_Player_entries : Fun K "entries" "Player.entries" s_Player_entries A.f_Player_entries A.d_Player_entries
  b_Player_entries : Binds K A.d_Player_entries P_Player_entries []
  m_Player_entries : Meth K A.c_Player "entries" A.f_Player_entries
  F_Player_tune : Fun K "tune" "Player.tune" s_Player_tune A.f_Player_tune A.d_Player_tune
  b_Player_tune : Binds K A.d_Player_tune P_Player_tune []
  m_Player_tune : Meth K A.c_Player "tune" A.f_Player_tune
  F_Player_set_again : Fun K "set_again" "Player.set_again" s_Player_set_again A.f_Player_set_again A.d_Player_set_again
  b_Player_set_again : Binds K A.d_Player_set_again P_Player_set_again []
  m_Player_set_again : Meth K A.c_Player "set_again" A.f_Player_set_again
  F_Player_set_mixed : Fun K "set_mixed" "Player.set_mixed" s_Player_set_mixed A.f_Player_set_mixed A.d_Player_set_mixed
  b_Player_set_mixed : Binds K A.d_Player_set_mixed P_Player_set_mixed []
  m_Player_set_mixed : Meth K A.c_Player "set_mixed" A.f_Player_set_mixed
  F_Player_begin : Fun K "begin" "Player.begin" s_Player_begin A.f_Player_begin A.d_Player_begin
  b_Player_begin : Binds K A.d_Player_begin P_Player_begin []
  m_Player_begin : Meth K A.c_Player "begin" A.f_Player_begin
  F_Player_play : Fun K "play" "Player.play" s_Player_play A.f_Player_play A.d_Player_play
  b_Player_play : Binds K A.d_Player_play P_Player_play []
  m_Player_play : Meth K A.c_Player "play" A.f_Player_play
  F_Player_resume : Fun K "resume" "Player.resume" s_Player_resume A.f_Player_resume A.d_Player_resume
  b_Player_resume : Binds K A.d_Player_resume P_Player_resume []
  m_Player_resume : Meth K A.c_Player "resume" A.f_Player_resume
  F_Player_pause : Fun K "pause" "Player.pause" s_Player_pause A.f_Player_pause A.d_Player_pause
  b_Player_pause : Binds K A.d_Player_pause P_Player_pause []
  m_Player_pause : Meth K A.c_Player "pause" A.f_Player_pause
  F_Player_next_entry : Fun K "next_entry" "Player.next_entry" s_Player_next_entry A.f_Player_next_entry A.d_Player_next_entry
  b_Player_next_entry : Binds K A.d_Player_next_entry P_Player_next_entry []
  m_Player_next_entry : Meth K A.c_Player "next_entry" A.f_Player_next_entry
  F_Player_skip : Fun K "skip" "Player.skip" s_Player_skip A.f_Player_skip A.d_Player_skip
  b_Player_skip : Binds K A.d_Player_skip P_Player_skip []
  m_Player_skip : Meth K A.c_Player "skip" A.f_Player_skip
  F_Player_back : Fun K "back" "Player.back" s_Player_back A.f_Player_back A.d_Player_back
  b_Player_back : Binds K A.d_Player_back P_Player_back []
  m_Player_back : Meth K A.c_Player "back" A.f_Player_back
  F_Player_seek : Fun K "seek" "Player.seek" s_Player_seek A.f_Player_seek A.d_Player_seek
  b_Player_seek : Binds K A.d_Player_seek P_Player_seek []
  m_Player_seek : Meth K A.c_Player "seek" A.f_Player_seek
  F_Player_stop_behind : Fun K "stop_behind" "Player.stop_behind" s_Player_stop_behind A.f_Player_stop_behind A.d_Player_stop_behind
  b_Player_stop_behind : Binds K A.d_Player_stop_behind P_Player_stop_behind []
  m_Player_stop_behind : Meth K A.c_Player "stop_behind" A.f_Player_stop_behind
  F_Player_sleep : Fun K "sleep" "Player.sleep" s_Player_sleep A.f_Player_sleep A.d_Player_sleep
  b_Player_sleep : Binds K A.d_Player_sleep P_Player_sleep []
  m_Player_sleep : Meth K A.c_Player "sleep" A.f_Player_sleep
  F_Player_join_long : Fun K "join_long" "Player.join_long" s_Player_join_long A.f_Player_join_long A.d_Player_join_long
  b_Player_join_long : Binds K A.d_Player_join_long P_Player_join_long []
  m_Player_join_long : Meth K A.c_Player "join_long" A.f_Player_join_long
  F_Player_step : Fun K "step" "Player.step" s_Player_step A.f_Player_step A.d_Player_step
  b_Player_step : Binds K A.d_Player_step P_Player_step []
  m_Player_step : Meth K A.c_Player "step" A.f_Player_step
  F_Player_turn_over : Fun K "turn_over" "Player.turn_over" s_Player_turn_over A.f_Player_turn_over A.d_Player_turn_over
  b_Player_turn_over : Binds K A.d_Player_turn_over P_Player_turn_over []
  m_Player_turn_over : Meth K A.c_Player "turn_over" A.f_Player_turn_over
  F_Player_tick : Fun K "tick" "Player.tick" s_Player_tick A.f_Player_tick A.d_Player_tick
  b_Player_tick : Binds K A.d_Player_tick P_Player_tick []
  m_Player_tick : Meth K A.c_Player "tick" A.f_Player_tick
  F_Player_state : Fun K "state" "Player.state" s_Player_state A.f_Player_state A.d_Player_state
  b_Player_state : Binds K A.d_Player_state P_Player_state []
  m_Player_state : Meth K A.c_Player "state" A.f_Player_state
  F_Player_sounds : Fun K "sounds" "Player.sounds" s_Player_sounds A.f_Player_sounds A.d_Player_sounds
  b_Player_sounds : Binds K A.d_Player_sounds P_Player_sounds []
  m_Player_sounds : Meth K A.c_Player "sounds" A.f_Player_sounds
  F_Player_log : Fun K "log" "Player.log" s_Player_log A.f_Player_log A.d_Player_log
  b_Player_log : Binds K A.d_Player_log P_Player_log []
  m_Player_log : Meth K A.c_Player "log" A.f_Player_log
  F_Player_ticks : Fun K "ticks" "Player.ticks" s_Player_ticks A.f_Player_ticks A.d_Player_ticks
  b_Player_ticks : Binds K A.d_Player_ticks P_Player_ticks []
  m_Player_ticks : Meth K A.c_Player "ticks" A.f_Player_ticks
  F_Player_ahead : Fun K "ahead" "Player.ahead" s_Player_ahead A.f_Player_ahead A.d_Player_ahead
  b_Player_ahead : Binds K A.d_Player_ahead P_Player_ahead []
  m_Player_ahead : Meth K A.c_Player "ahead" A.f_Player_ahead
  F_Player_twin : Fun K "twin" "Player.twin" s_Player_twin A.f_Player_twin A.d_Player_twin
  b_Player_twin : Binds K A.d_Player_twin P_Player_twin []
  m_Player_twin : Meth K A.c_Player "twin" A.f_Player_twin
  F_told_as : Fun K "told_as" "told_as" s_told_as A.f_told_as A.d_told_as
  b_told_as : Binds K A.d_told_as P_told_as []
  g_told_as : mg "told_as" = some (.ref A.f_told_as)
  k_told_as : PySem.W.keepIn K (.ref A.f_told_as) = true
  F_number_in : Fun K "number_in" "number_in" s_number_in A.f_number_in A.d_number_in
  b_number_in : Binds K A.d_number_in P_number_in []
  g_number_in : mg "number_in" = some (.ref A.f_number_in)
  k_number_in : PySem.W.keepIn K (.ref A.f_number_in) = true
  F_row_of : Fun K "row_of" "row_of" s_row_of A.f_row_of A.d_row_of
  b_row_of : Binds K A.d_row_of P_row_of []
  g_row_of : mg "row_of" = some (.ref A.f_row_of)
  k_row_of : PySem.W.keepIn K (.ref A.f_row_of) = true
  F_numbers_in : Fun K "numbers_in" "numbers_in" s_numbers_in A.f_numbers_in A.d_numbers_in
  b_numbers_in : Binds K A.d_numbers_in P_numbers_in []
  g_numbers_in : mg "numbers_in" = some (.ref A.f_numbers_in)
  k_numbers_in : PySem.W.keepIn K (.ref A.f_numbers_in) = true
  F_written : Fun K "written" "written" s_written A.f_written A.d_written
  b_written : Binds K A.d_written P_written []
  g_written : mg "written" = some (.ref A.f_written)
  k_written : PySem.W.keepIn K (.ref A.f_written) = true
  F_woken_order : Fun K "woken_order" "woken_order" s_woken_order A.f_woken_order A.d_woken_order
  b_woken_order : Binds K A.d_woken_order P_woken_order []
  g_woken_order : mg "woken_order" = some (.ref A.f_woken_order)
  k_woken_order : PySem.W.keepIn K (.ref A.f_woken_order) = true
  F_woken : Fun K "woken" "woken" s_woken A.f_woken A.d_woken
  b_woken : Binds K A.d_woken P_woken []
  g_woken : mg "woken" = some (.ref A.f_woken)
  k_woken : PySem.W.keepIn K (.ref A.f_woken) = true
  F_look_name : Fun K "look_name" "look_name" s_look_name A.f_look_name A.d_look_name
  b_look_name : Binds K A.d_look_name P_look_name []
  g_look_name : mg "look_name" = some (.ref A.f_look_name)
  k_look_name : PySem.W.keepIn K (.ref A.f_look_name) = true
  F_Shelf_init__ : Fun K "__init__" "Shelf.__init__" s_Shelf_init__ A.f_Shelf_init__ A.d_Shelf_init__
  b_Shelf_init__ : Binds K A.d_Shelf_init__ P_Shelf_init__ []
  m_Shelf_init__ : Meth K A.c_Shelf "__init__" A.f_Shelf_init__
  F_Shelf_add : Fun K "add" "Shelf.add" s_Shelf_add A.f_Shelf_add A.d_Shelf_add
  b_Shelf_add : Binds K A.d_Shelf_add P_Shelf_add []
  m_Shelf_add : Meth K A.c_Shelf "add" A.f_Shelf_add
  F_Shelf_need : Fun K "need" "Shelf.need" s_Shelf_need A.f_Shelf_need A.d_Shelf_need
  b_Shelf_need : Binds K A.d_Shelf_need P_Shelf_need []
  m_Shelf_need : Meth K A.c_Shelf "need" A.f_Shelf_need
  F_Shelf_long : Fun K "long" "Shelf.long" s_Shelf_long A.f_Shelf_long A.d_Shelf_long
  b_Shelf_long : Binds K A.d_Shelf_long P_Shelf_long []
  m_Shelf_long : Meth K A.c_Shelf "long" A.f_Shelf_long
  F_Shelf_names : Fun K "names" "Shelf.names" s_Shelf_names A.f_Shelf_names A.d_Shelf_names
  b_Shelf_names : Binds K A.d_Shelf_names P_Shelf_names []
  m_Shelf_names : Meth K A.c_Shelf "names" A.f_Shelf_names
  F_law_cell : Fun K "_law_cell" "_law_cell" s_law_cell A.f_law_cell A.d_law_cell
  b_law_cell : Binds K A.d_law_cell P_law_cell []
  g_law_cell : mg "_law_cell" = some (.ref A.f_law_cell)
  k_law_cell : PySem.W.keepIn K (.ref A.f_law_cell) = true
  F_law_mix : Fun K "_law_mix" "_law_mix" s_law_mix A.f_law_mix A.d_law_mix
  b_law_mix : Binds K A.d_law_mix P_law_mix []
  g_law_mix : mg "_law_mix" = some (.ref A.f_law_mix)
  k_law_mix : PySem.W.keepIn K (.ref A.f_law_mix) = true
  F_law_draw : Fun K "_law_draw" "_law_draw" s_law_draw A.f_law_draw A.d_law_draw
  b_law_draw : Binds K A.d_law_draw P_law_draw []
  g_law_draw : mg "_law_draw" = some (.ref A.f_law_draw)
  k_law_draw : PySem.W.keepIn K (.ref A.f_law_draw) = true
  F_law_pick : Fun K "_law_pick" "_law_pick" s_law_pick A.f_law_pick A.d_law_pick
  b_law_pick : Binds K A.d_law_pick P_law_pick []
  g_law_pick : mg "_law_pick" = some (.ref A.f_law_pick)
  k_law_pick : PySem.W.keepIn K (.ref A.f_law_pick) = true
  F_law_refusal : Fun K "_law_refusal" "_law_refusal" s_law_refusal A.f_law_refusal A.d_law_refusal
  b_law_refusal : Binds K A.d_law_refusal P_law_refusal []
  g_law_refusal : mg "_law_refusal" = some (.ref A.f_law_refusal)
  k_law_refusal : PySem.W.keepIn K (.ref A.f_law_refusal) = true
  F_law_one : Fun K "_law_one" "_law_one" s_law_one A.f_law_one A.d_law_one
  b_law_one : Binds K A.d_law_one P_law_one []
  g_law_one : mg "_law_one" = some (.ref A.f_law_one)
  k_law_one : PySem.W.keepIn K (.ref A.f_law_one) = true
  F_law_told : Fun K "_law_told" "_law_told" s_law_told A.f_law_told A.d_law_told
  b_law_told : Binds K A.d_law_told P_law_told []
  g_law_told : mg "_law_told" = some (.ref A.f_law_told)
  k_law_told : PySem.W.keepIn K (.ref A.f_law_told) = true
  F_law_call : Fun K "_law_call" "_law_call" s_law_call A.f_law_call A.d_law_call
  b_law_call : Binds K A.d_law_call P_law_call []
  g_law_call : mg "_law_call" = some (.ref A.f_law_call)
  k_law_call : PySem.W.keepIn K (.ref A.f_law_call) = true
  F_law_all : Fun K "_law_all" "_law_all" s_law_all A.f_law_all A.d_law_all
  b_law_all : Binds K A.d_law_all P_law_all []
  g_law_all : mg "_law_all" = some (.ref A.f_law_all)
  k_law_all : PySem.W.keepIn K (.ref A.f_law_all) = true
  F_law_tune : Fun K "_law_tune" "_law_tune" s_law_tune A.f_law_tune A.d_law_tune
  b_law_tune : Binds K A.d_law_tune P_law_tune []
  g_law_tune : mg "_law_tune" = some (.ref A.f_law_tune)
  k_law_tune : PySem.W.keepIn K (.ref A.f_law_tune) = true
  F_law_led : Fun K "_law_led" "_law_led" s_law_led A.f_law_led A.d_law_led
  b_law_led : Binds K A.d_law_led P_law_led []
  g_law_led : mg "_law_led" = some (.ref A.f_law_led)
  k_law_led : PySem.W.keepIn K (.ref A.f_law_led) = true
  F_law_shelf : Fun K "_law_shelf" "_law_shelf" s_law_shelf A.f_law_shelf A.d_law_shelf
  b_law_shelf : Binds K A.d_law_shelf P_law_shelf []
  g_law_shelf : mg "_law_shelf" = some (.ref A.f_law_shelf)
  k_law_shelf : PySem.W.keepIn K (.ref A.f_law_shelf) = true
  F_law_begun : Fun K "_law_begun" "_law_begun" s_law_begun A.f_law_begun A.d_law_begun
  b_law_begun : Binds K A.d_law_begun P_law_begun []
  g_law_begun : mg "_law_begun" = some (.ref A.f_law_begun)
  k_law_begun : PySem.W.keepIn K (.ref A.f_law_begun) = true
  F_law_is_text : Fun K "_law_is_text" "_law_is_text" s_law_is_text A.f_law_is_text A.d_law_is_text
  b_law_is_text : Binds K A.d_law_is_text P_law_is_text []
  g_law_is_text : mg "_law_is_text" = some (.ref A.f_law_is_text)
  k_law_is_text : PySem.W.keepIn K (.ref A.f_law_is_text) = true
  F_law_same : Fun K "_law_same" "_law_same" s_law_same A.f_law_same A.d_law_same
  b_law_same : Binds K A.d_law_same P_law_same []
  g_law_same : mg "_law_same" = some (.ref A.f_law_same)
  k_law_same : PySem.W.keepIn K (.ref A.f_law_same) = true
  F_law : Fun K "law" "law" s_law A.f_law A.d_law
  b_law : Binds K A.d_law P_law []
  g_law : mg "law" = some (.ref A.f_law)
  k_law : PySem.W.keepIn K (.ref A.f_law) = true
end TR
namespace TR
open PySem L2
def fl_Dice (a0 : V) : List (Str × V) := [("number", a0)]
theorem fl_Dice_number (a0 : V) : (fl_Dice a0).lookup ("number" : Str) = some a0 := by kernel_rfl
theorem st_Dice_number (a0 b : V) : putF "number" b (fl_Dice a0) = fl_Dice b := by kernel_rfl
theorem no_Dice_init__ (a0 : V) : (fl_Dice a0).lookup ("__init__" : Str) = none := by kernel_rfl
theorem no_Dice_below (a0 : V) : (fl_Dice a0).lookup ("below" : Str) = none := by kernel_rfl
theorem no_Dice_twin (a0 : V) : (fl_Dice a0).lookup ("twin" : Str) = none := by kernel_rfl
theorem sf_Dice_number {K : PySem.W.Frag} {mg : Str → Option Value} {A : Ads} {H0 H : Hp} {L : List Ent} {l dx : Addr} {a0 y : V} {QH : Hp → Prop} (T : Txt K mg A) (w : W H0 H L) (i : Nat) (h : L[i]? = some (l, .ins A.c_Dice dx (fl_Dice a0))) (k : ∀ H', W H0 H' (L.set i (l, .ins A.c_Dice dx (fl_Dice y))) → QH H') : xFldSt K "number" (.ref l) y H QH := st_fld w i h T.c_Dice T.n_Dice_number (by show 1 < 1000; decide) (by rw [st_Dice_number]; exact k)
theorem ln_Dice (a0 : V) : (fl_Dice a0).length < 1000 := by show 1 < 1000; decide
def fl_Queue (a0 a1 a2 : V) : List (Str × V) := [("tunes", a0), ("turn", a1), ("last", a2)]
theorem fl_Queue_tunes (a0 a1 a2 : V) : (fl_Queue a0 a1 a2).lookup ("tunes" : Str) = some a0 := by kernel_rfl
theorem st_Queue_tunes (a0 a1 a2 b : V) : putF "tunes" b (fl_Queue a0 a1 a2) = fl_Queue b a1 a2 := by kernel_rfl
theorem fl_Queue_turn (a0 a1 a2 : V) : (fl_Queue a0 a1 a2).lookup ("turn" : Str) = some a1 := by kernel_rfl
theorem st_Queue_turn (a0 a1 a2 b : V) : putF "turn" b (fl_Queue a0 a1 a2) = fl_Queue a0 b a2 := by kernel_rfl
theorem fl_Queue_last (a0 a1 a2 : V) : (fl_Queue a0 a1 a2).lookup ("last" : Str) = some a2 := by kernel_rfl
theorem st_Queue_last (a0 a1 a2 b : V) : putF "last" b (fl_Queue a0 a1 a2) = fl_Queue a0 a1 b := by kernel_rfl
theorem no_Queue_init__ (a0 a1 a2 : V) : (fl_Queue a0 a1 a2).lookup ("__init__" : Str) = none := by kernel_rfl
theorem no_Queue_entries (a0 a1 a2 : V) : (fl_Queue a0 a1 a2).lookup ("entries" : Str) = none := by kernel_rfl
theorem no_Queue_need (a0 a1 a2 : V) : (fl_Queue a0 a1 a2).lookup ("need" : Str) = none := by kernel_rfl
theorem no_Queue_tune (a0 a1 a2 : V) : (fl_Queue a0 a1 a2).lookup ("tune" : Str) = none := by kernel_rfl
theorem no_Queue_put (a0 a1 a2 : V) : (fl_Queue a0 a1 a2).lookup ("put" : Str) = none := by kernel_rfl
theorem no_Queue_remove (a0 a1 a2 : V) : (fl_Queue a0 a1 a2).lookup ("remove" : Str) = none := by kernel_rfl
theorem no_Queue_move (a0 a1 a2 : V) : (fl_Queue a0 a1 a2).lookup ("move" : Str) = none := by kernel_rfl
theorem no_Queue_place (a0 a1 a2 : V) : (fl_Queue a0 a1 a2).lookup ("place" : Str) = none := by kernel_rfl
theorem no_Queue_twin (a0 a1 a2 : V) : (fl_Queue a0 a1 a2).lookup ("twin" : Str) = none := by kernel_rfl
theorem sf_Queue_tunes {K : PySem.W.Frag} {mg : Str → Option Value} {A : Ads} {H0 H : Hp} {L : List Ent} {l dx : Addr} {a0 a1 a2 y : V} {QH : Hp → Prop} (T : Txt K mg A) (w : W H0 H L) (i : Nat) (h : L[i]? = some (l, .ins A.c_Queue dx (fl_Queue a0 a1 a2))) (k : ∀ H', W H0 H' (L.set i (l, .ins A.c_Queue dx (fl_Queue y a1 a2))) → QH H') : xFldSt K "tunes" (.ref l) y H QH := st_fld w i h T.c_Queue T.n_Queue_tunes (by show 3 < 1000; decide) (by rw [st_Queue_tunes]; exact k)
theorem sf_Queue_turn {K : PySem.W.Frag} {mg : Str → Option Value} {A : Ads} {H0 H : Hp} {L : List Ent} {l dx : Addr} {a0 a1 a2 y : V} {QH : Hp → Prop} (T : Txt K mg A) (w : W H0 H L) (i : Nat) (h : L[i]? = some (l, .ins A.c_Queue dx (fl_Queue a0 a1 a2))) (k : ∀ H', W H0 H' (L.set i (l, .ins A.c_Queue dx (fl_Queue a0 y a2))) → QH H') : xFldSt K "turn" (.ref l) y H QH := st_fld w i h T.c_Queue T.n_Queue_turn (by show 3 < 1000; decide) (by rw [st_Queue_turn]; exact k)
theorem sf_Queue_last {K : PySem.W.Frag} {mg : Str → Option Value} {A : Ads} {H0 H : Hp} {L : List Ent} {l dx : Addr} {a0 a1 a2 y : V} {QH : Hp → Prop} (T : Txt K mg A) (w : W H0 H L) (i : Nat) (h : L[i]? = some (l, .ins A.c_Queue dx (fl_Queue a0 a1 a2))) (k : ∀ H', W H0 H' (L.set i (l, .ins A.c_Queue dx (fl_Queue a0 a1 y))) → QH H') : xFldSt K "last" (.ref l) y H QH := st_fld w i h T.c_Queue T.n_Queue_last (by show 3 < 1000; decide) (by rw [st_Queue_last]; exact k)
theorem ln_Queue (a0 a1 a2 : V) : (fl_Queue a0 a1 a2).length < 1000 := by show 3 < 1000; decide
def fl_Order (a0 a1 a2 a3 a4 a5 a6 : V) : List (Str × V) := [("queue", a0), ("dice", a1), ("is_mixed", a2), ("again", a3), ("deck", a4), ("is_gone", a5), ("behind", a6)]
theorem fl_Order_queue (a0 a1 a2 a3 a4 a5 a6 : V) : (fl_Order a0 a1 a2 a3 a4 a5 a6).lookup ("queue" : Str) = some a0 := by kernel_rfl
theorem st_Order_queue (a0 a1 a2 a3 a4 a5 a6 b : V) : putF "queue" b (fl_Order a0 a1 a2 a3 a4 a5 a6) = fl_Order b a1 a2 a3 a4 a5 a6 := by kernel_rfl
theorem fl_Order_dice (a0 a1 a2 a3 a4 a5 a6 : V) : (fl_Order a0 a1 a2 a3 a4 a5 a6).lookup ("dice" : Str) = some a1 := by kernel_rfl
theorem st_Order_dice (a0 a1 a2 a3 a4 a5 a6 b : V) : putF "dice" b (fl_Order a0 a1 a2 a3 a4 a5 a6) = fl_Order a0 b a2 a3 a4 a5 a6 := by kernel_rfl
theorem fl_Order_is_mixed (a0 a1 a2 a3 a4 a5 a6 : V) : (fl_Order a0 a1 a2 a3 a4 a5 a6).lookup ("is_mixed" : Str) = some a2 := by kernel_rfl
theorem st_Order_is_mixed (a0 a1 a2 a3 a4 a5 a6 b : V) : putF "is_mixed" b (fl_Order a0 a1 a2 a3 a4 a5 a6) = fl_Order a0 a1 b a3 a4 a5 a6 := by kernel_rfl
theorem fl_Order_again (a0 a1 a2 a3 a4 a5 a6 : V) : (fl_Order a0 a1 a2 a3 a4 a5 a6).lookup ("again" : Str) = some a3 := by kernel_rfl
theorem st_Order_again (a0 a1 a2 a3 a4 a5 a6 b : V) : putF "again" b (fl_Order a0 a1 a2 a3 a4 a5 a6) = fl_Order a0 a1 a2 b a4 a5 a6 := by kernel_rfl
theorem fl_Order_deck (a0 a1 a2 a3 a4 a5 a6 : V) : (fl_Order a0 a1 a2 a3 a4 a5 a6).lookup ("deck" : Str) = some a4 := by kernel_rfl
theorem st_Order_deck (a0 a1 a2 a3 a4 a5 a6 b : V) : putF "deck" b (fl_Order a0 a1 a2 a3 a4 a5 a6) = fl_Order a0 a1 a2 a3 b a5 a6 := by kernel_rfl
theorem fl_Order_is_gone (a0 a1 a2 a3 a4 a5 a6 : V) : (fl_Order a0 a1 a2 a3 a4 a5 a6).lookup ("is_gone" : Str) = some a5 := by kernel_rfl
theorem st_Order_is_gone (a0 a1 a2 a3 a4 a5 a6 b : V) : putF "is_gone" b (fl_Order a0 a1 a2 a3 a4 a5 a6) = fl_Order a0 a1 a2 a3 a4 b a6 := by kernel_rfl
theorem fl_Order_behind (a0 a1 a2 a3 a4 a5 a6 : V) : (fl_Order a0 a1 a2 a3 a4 a5 a6).lookup ("behind" : Str) = some a6 := by kernel_rfl
theorem st_Order_behind (a0 a1 a2 a3 a4 a5 a6 b : V) : putF "behind" b (fl_Order a0 a1 a2 a3 a4 a5 a6) = fl_Order a0 a1 a2 a3 a4 a5 b := by kernel_rfl
theorem no_Order_init__ (a0 a1 a2 a3 a4 a5 a6 : V) : (fl_Order a0 a1 a2 a3 a4 a5 a6).lookup ("__init__" : Str) = none := by kernel_rfl
theorem no_Order_set_again (a0 a1 a2 a3 a4 a5 a6 : V) : (fl_Order a0 a1 a2 a3 a4 a5 a6).lookup ("set_again" : Str) = none := by kernel_rfl
theorem no_Order_set_mixed (a0 a1 a2 a3 a4 a5 a6 : V) : (fl_Order a0 a1 a2 a3 a4 a5 a6).lookup ("set_mixed" : Str) = none := by kernel_rfl
theorem no_Order_put (a0 a1 a2 a3 a4 a5 a6 : V) : (fl_Order a0 a1 a2 a3 a4 a5 a6).lookup ("put" : Str) = none := by kernel_rfl
theorem no_Order_remove (a0 a1 a2 a3 a4 a5 a6 : V) : (fl_Order a0 a1 a2 a3 a4 a5 a6).lookup ("remove" : Str) = none := by kernel_rfl
theorem no_Order_next_plain (a0 a1 a2 a3 a4 a5 a6 : V) : (fl_Order a0 a1 a2 a3 a4 a5 a6).lookup ("next_plain" : Str) = none := by kernel_rfl
theorem no_Order_next_mixed (a0 a1 a2 a3 a4 a5 a6 : V) : (fl_Order a0 a1 a2 a3 a4 a5 a6).lookup ("next_mixed" : Str) = none := by kernel_rfl
theorem no_Order_after (a0 a1 a2 a3 a4 a5 a6 : V) : (fl_Order a0 a1 a2 a3 a4 a5 a6).lookup ("after" : Str) = none := by kernel_rfl
theorem no_Order_skip (a0 a1 a2 a3 a4 a5 a6 : V) : (fl_Order a0 a1 a2 a3 a4 a5 a6).lookup ("skip" : Str) = none := by kernel_rfl
theorem no_Order_first (a0 a1 a2 a3 a4 a5 a6 : V) : (fl_Order a0 a1 a2 a3 a4 a5 a6).lookup ("first" : Str) = none := by kernel_rfl
theorem no_Order_began (a0 a1 a2 a3 a4 a5 a6 : V) : (fl_Order a0 a1 a2 a3 a4 a5 a6).lookup ("began" : Str) = none := by kernel_rfl
theorem no_Order_twin (a0 a1 a2 a3 a4 a5 a6 : V) : (fl_Order a0 a1 a2 a3 a4 a5 a6).lookup ("twin" : Str) = none := by kernel_rfl
theorem sf_Order_queue {K : PySem.W.Frag} {mg : Str → Option Value} {A : Ads} {H0 H : Hp} {L : List Ent} {l dx : Addr} {a0 a1 a2 a3 a4 a5 a6 y : V} {QH : Hp → Prop} (T : Txt K mg A) (w : W H0 H L) (i : Nat) (h : L[i]? = some (l, .ins A.c_Order dx (fl_Order a0 a1 a2 a3 a4 a5 a6))) (k : ∀ H', W H0 H' (L.set i (l, .ins A.c_Order dx (fl_Order y a1 a2 a3 a4 a5 a6))) → QH H') : xFldSt K "queue" (.ref l) y H QH := st_fld w i h T.c_Order T.n_Order_queue (by show 7 < 1000; decide) (by rw [st_Order_queue]; exact k)
theorem sf_Order_dice {K : PySem.W.Frag} {mg : Str → Option Value} {A : Ads} {H0 H : Hp} {L : List Ent} {l dx : Addr} {a0 a1 a2 a3 a4 a5 a6 y : V} {QH : Hp → Prop} (T : Txt K mg A) (w : W H0 H L) (i : Nat) (h : L[i]? = some (l, .ins A.c_Order dx (fl_Order a0 a1 a2 a3 a4 a5 a6))) (k : ∀ H', W H0 H' (L.set i (l, .ins A.c_Order dx (fl_Order a0 y a2 a3 a4 a5 a6))) → QH H') : xFldSt K "dice" (.ref l) y H QH := st_fld w i h T.c_Order T.n_Order_dice (by show 7 < 1000; decide) (by rw [st_Order_dice]; exact k)
theorem sf_Order_is_mixed {K : PySem.W.Frag} {mg : Str → Option Value} {A : Ads} {H0 H : Hp} {L : List Ent} {l dx : Addr} {a0 a1 a2 a3 a4 a5 a6 y : V} {QH : Hp → Prop} (T : Txt K mg A) (w : W H0 H L) (i : Nat) (h : L[i]? = some (l, .ins A.c_Order dx (fl_Order a0 a1 a2 a3 a4 a5 a6))) (k : ∀ H', W H0 H' (L.set i (l, .ins A.c_Order dx (fl_Order a0 a1 y a3 a4 a5 a6))) → QH H') : xFldSt K "is_mixed" (.ref l) y H QH := st_fld w i h T.c_Order T.n_Order_is_mixed (by show 7 < 1000; decide) (by rw [st_Order_is_mixed]; exact k)
theorem sf_Order_again {K : PySem.W.Frag} {mg : Str → Option Value} {A : Ads} {H0 H : Hp} {L : List Ent} {l dx : Addr} {a0 a1 a2 a3 a4 a5 a6 y : V} {QH : Hp → Prop} (T : Txt K mg A) (w : W H0 H L) (i : Nat) (h : L[i]? = some (l, .ins A.c_Order dx (fl_Order a0 a1 a2 a3 a4 a5 a6))) (k : ∀ H', W H0 H' (L.set i (l, .ins A.c_Order dx (fl_Order a0 a1 a2 y a4 a5 a6))) → QH H') : xFldSt K "again" (.ref l) y H QH := st_fld w i h T.c_Order T.n_Order_again (by show 7 < 1000; decide) (by rw [st_Order_again]; exact k)
theorem sf_Order_deck {K : PySem.W.Frag} {mg : Str → Option Value} {A : Ads} {H0 H : Hp} {L : List Ent} {l dx : Addr} {a0 a1 a2 a3 a4 a5 a6 y : V} {QH : Hp → Prop} (T : Txt K mg A) (w : W H0 H L) (i : Nat) (h : L[i]? = some (l, .ins A.c_Order dx (fl_Order a0 a1 a2 a3 a4 a5 a6))) (k : ∀ H', W H0 H' (L.set i (l, .ins A.c_Order dx (fl_Order a0 a1 a2 a3 y a5 a6))) → QH H') : xFldSt K "deck" (.ref l) y H QH := st_fld w i h T.c_Order T.n_Order_deck (by show 7 < 1000; decide) (by rw [st_Order_deck]; exact k)
theorem sf_Order_is_gone {K : PySem.W.Frag} {mg : Str → Option Value} {A : Ads} {H0 H : Hp} {L : List Ent} {l dx : Addr} {a0 a1 a2 a3 a4 a5 a6 y : V} {QH : Hp → Prop} (T : Txt K mg A) (w : W H0 H L) (i : Nat) (h : L[i]? = some (l, .ins A.c_Order dx (fl_Order a0 a1 a2 a3 a4 a5 a6))) (k : ∀ H', W H0 H' (L.set i (l, .ins A.c_Order dx (fl_Order a0 a1 a2 a3 a4 y a6))) → QH H') : xFldSt K "is_gone" (.ref l) y H QH := st_fld w i h T.c_Order T.n_Order_is_gone (by show 7 < 1000; decide) (by rw [st_Order_is_gone]; exact k)
theorem sf_Order_behind {K : PySem.W.Frag} {mg : Str → Option Value} {A : Ads} {H0 H : Hp} {L : List Ent} {l dx : Addr} {a0 a1 a2 a3 a4 a5 a6 y : V} {QH : Hp → Prop} (T : Txt K mg A) (w : W H0 H L) (i : Nat) (h : L[i]? = some (l, .ins A.c_Order dx (fl_Order a0 a1 a2 a3 a4 a5 a6))) (k : ∀ H', W H0 H' (L.set i (l, .ins A.c_Order dx (fl_Order a0 a1 a2 a3 a4 a5 y))) → QH H') : xFldSt K "behind" (.ref l) y H QH := st_fld w i h T.c_Order T.n_Order_behind (by show 7 < 1000; decide) (by rw [st_Order_behind]; exact k)
theorem ln_Order (a0 a1 a2 a3 a4 a5 a6 : V) : (fl_Order a0 a1 a2 a3 a4 a5 a6).length < 1000 := by show 7 < 1000; decide
def fl_Player (a0 a1 a2 a3 a4 a5 a6 a7 a8 a9 a10 a11 a12 : V) : List (Str × V) := [("shelf", a0), ("overlap", a1), ("order", a2), ("time", a3), ("now", a4), ("spot", a5), ("old", a6), ("soon", a7), ("past", a8), ("rows", a9), ("is_playing", a10), ("stops", a11), ("sleep_left", a12)]
theorem fl_Player_shelf (a0 a1 a2 a3 a4 a5 a6 a7 a8 a9 a10 a11 a12 : V) : (fl_Player a0 a1 a2 a3 a4 a5 a6 a7 a8 a9 a10 a11 a12).lookup ("shelf" : Str) = some a0 := by kernel_rfl
theorem st_Player_shelf (a0 a1 a2 a3 a4 a5 a6 a7 a8 a9 a10 a11 a12 b : V) : putF "shelf" b (fl_Player a0 a1 a2 a3 a4 a5 a6 a7 a8 a9 a10 a11 a12) = fl_Player b a1 a2 a3 a4 a5 a6 a7 a8 a9 a10 a11 a12 := by kernel_rfl
theorem fl_Player_overlap (a0 a1 a2 a3 a4 a5 a6 a7 a8 a9 a10 a11 a12 : V) : (fl_Player a0 a1 a2 a3 a4 a5 a6 a7 a8 a9 a10 a11 a12).lookup ("overlap" : Str) = some a1 := by kernel_rfl
theorem st_Player_overlap (a0 a1 a2 a3 a4 a5 a6 a7 a8 a9 a10 a11 a12 b : V) : putF "overlap" b (fl_Player a0 a1 a2 a3 a4 a5 a6 a7 a8 a9 a10 a11 a12) = fl_Player a0 b a2 a3 a4 a5 a6 a7 a8 a9 a10 a11 a12 := by kernel_rfl
theorem fl_Player_order (a0 a1 a2 a3 a4 a5 a6 a7 a8 a9 a10 a11 a12 : V) : (fl_Player a0 a1 a2 a3 a4 a5 a6 a7 a8 a9 a10 a11 a12).lookup ("order" : Str) = some a2 := by kernel_rfl
theorem st_Player_order (a0 a1 a2 a3 a4 a5 a6 a7 a8 a9 a10 a11 a12 b : V) : putF "order" b (fl_Player a0 a1 a2 a3 a4 a5 a6 a7 a8 a9 a10 a11 a12) = fl_Player a0 a1 b a3 a4 a5 a6 a7 a8 a9 a10 a11 a12 := by kernel_rfl
theorem fl_Player_time (a0 a1 a2 a3 a4 a5 a6 a7 a8 a9 a10 a11 a12 : V) : (fl_Player a0 a1 a2 a3 a4 a5 a6 a7 a8 a9 a10 a11 a12).lookup ("time" : Str) = some a3 := by kernel_rfl
theorem st_Player_time (a0 a1 a2 a3 a4 a5 a6 a7 a8 a9 a10 a11 a12 b : V) : putF "time" b (fl_Player a0 a1 a2 a3 a4 a5 a6 a7 a8 a9 a10 a11 a12) = fl_Player a0 a1 a2 b a4 a5 a6 a7 a8 a9 a10 a11 a12 := by kernel_rfl
theorem fl_Player_now (a0 a1 a2 a3 a4 a5 a6 a7 a8 a9 a10 a11 a12 : V) : (fl_Player a0 a1 a2 a3 a4 a5 a6 a7 a8 a9 a10 a11 a12).lookup ("now" : Str) = some a4 := by kernel_rfl
theorem st_Player_now (a0 a1 a2 a3 a4 a5 a6 a7 a8 a9 a10 a11 a12 b : V) : putF "now" b (fl_Player a0 a1 a2 a3 a4 a5 a6 a7 a8 a9 a10 a11 a12) = fl_Player a0 a1 a2 a3 b a5 a6 a7 a8 a9 a10 a11 a12 := by kernel_rfl
theorem fl_Player_spot (a0 a1 a2 a3 a4 a5 a6 a7 a8 a9 a10 a11 a12 : V) : (fl_Player a0 a1 a2 a3 a4 a5 a6 a7 a8 a9 a10 a11 a12).lookup ("spot" : Str) = some a5 := by kernel_rfl
theorem st_Player_spot (a0 a1 a2 a3 a4 a5 a6 a7 a8 a9 a10 a11 a12 b : V) : putF "spot" b (fl_Player a0 a1 a2 a3 a4 a5 a6 a7 a8 a9 a10 a11 a12) = fl_Player a0 a1 a2 a3 a4 b a6 a7 a8 a9 a10 a11 a12 := by kernel_rfl
theorem fl_Player_old (a0 a1 a2 a3 a4 a5 a6 a7 a8 a9 a10 a11 a12 : V) : (fl_Player a0 a1 a2 a3 a4 a5 a6 a7 a8 a9 a10 a11 a12).lookup ("old" : Str) = some a6 := by kernel_rfl
theorem st_Player_old (a0 a1 a2 a3 a4 a5 a6 a7 a8 a9 a10 a11 a12 b : V) : putF "old" b (fl_Player a0 a1 a2 a3 a4 a5 a6 a7 a8 a9 a10 a11 a12) = fl_Player a0 a1 a2 a3 a4 a5 b a7 a8 a9 a10 a11 a12 := by kernel_rfl
theorem fl_Player_soon (a0 a1 a2 a3 a4 a5 a6 a7 a8 a9 a10 a11 a12 : V) : (fl_Player a0 a1 a2 a3 a4 a5 a6 a7 a8 a9 a10 a11 a12).lookup ("soon" : Str) = some a7 := by kernel_rfl
theorem st_Player_soon (a0 a1 a2 a3 a4 a5 a6 a7 a8 a9 a10 a11 a12 b : V) : putF "soon" b (fl_Player a0 a1 a2 a3 a4 a5 a6 a7 a8 a9 a10 a11 a12) = fl_Player a0 a1 a2 a3 a4 a5 a6 b a8 a9 a10 a11 a12 := by kernel_rfl
theorem fl_Player_past (a0 a1 a2 a3 a4 a5 a6 a7 a8 a9 a10 a11 a12 : V) : (fl_Player a0 a1 a2 a3 a4 a5 a6 a7 a8 a9 a10 a11 a12).lookup ("past" : Str) = some a8 := by kernel_rfl
theorem st_Player_past (a0 a1 a2 a3 a4 a5 a6 a7 a8 a9 a10 a11 a12 b : V) : putF "past" b (fl_Player a0 a1 a2 a3 a4 a5 a6 a7 a8 a9 a10 a11 a12) = fl_Player a0 a1 a2 a3 a4 a5 a6 a7 b a9 a10 a11 a12 := by kernel_rfl
theorem fl_Player_rows (a0 a1 a2 a3 a4 a5 a6 a7 a8 a9 a10 a11 a12 : V) : (fl_Player a0 a1 a2 a3 a4 a5 a6 a7 a8 a9 a10 a11 a12).lookup ("rows" : Str) = some a9 := by kernel_rfl
theorem st_Player_rows (a0 a1 a2 a3 a4 a5 a6 a7 a8 a9 a10 a11 a12 b : V) : putF "rows" b (fl_Player a0 a1 a2 a3 a4 a5 a6 a7 a8 a9 a10 a11 a12) = fl_Player a0 a1 a2 a3 a4 a5 a6 a7 a8 b a10 a11 a12 := by kernel_rfl
theorem fl_Player_is_playing (a0 a1 a2 a3 a4 a5 a6 a7 a8 a9 a10 a11 a12 : V) : (fl_Player a0 a1 a2 a3 a4 a5 a6 a7 a8 a9 a10 a11 a12).lookup ("is_playing" : Str) = some a10 := by kernel_rfl
theorem st_Player_is_playing (a0 a1 a2 a3 a4 a5 a6 a7 a8 a9 a10 a11 a12 b : V) : putF "is_playing" b (fl_Player a0 a1 a2 a3 a4 a5 a6 a7 a8 a9 a10 a11 a12) = fl_Player a0 a1 a2 a3 a4 a5 a6 a7 a8 a9 b a11 a12 := by kernel_rfl
theorem fl_Player_stops (a0 a1 a2 a3 a4 a5 a6 a7 a8 a9 a10 a11 a12 : V) : (fl_Player a0 a1 a2 a3 a4 a5 a6 a7 a8 a9 a10 a11 a12).lookup ("stops" : Str) = some a11 := by kernel_rfl
theorem st_Player_stops (a0 a1 a2 a3 a4 a5 a6 a7 a8 a9 a10 a11 a12 b : V) : putF "stops" b (fl_Player a0 a1 a2 a3 a4 a5 a6 a7 a8 a9 a10 a11 a12) = fl_Player a0 a1 a2 a3 a4 a5 a6 a7 a8 a9 a10 b a12 := by kernel_rfl
theorem fl_Player_sleep_left (a0 a1 a2 a3 a4 a5 a6 a7 a8 a9 a10 a11 a12 : V) : (fl_Player a0 a1 a2 a3 a4 a5 a6 a7 a8 a9 a10 a11 a12).lookup ("sleep_left" : Str) = some a12 := by kernel_rfl
theorem st_Player_sleep_left (a0 a1 a2 a3 a4 a5 a6 a7 a8 a9 a10 a11 a12 b : V) : putF "sleep_left" b (fl_Player a0 a1 a2 a3 a4 a5 a6 a7 a8 a9 a10 a11 a12) = fl_Player a0 a1 a2 a3 a4 a5 a6 a7 a8 a9 a10 a11 b := by kernel_rfl
theorem no_Player_init__ (a0 a1 a2 a3 a4 a5 a6 a7 a8 a9 a10 a11 a12 : V) : (fl_Player a0 a1 a2 a3 a4 a5 a6 a7 a8 a9 a10 a11 a12).lookup ("__init__" : Str) = none := by kernel_rfl
theorem no_Player_long (a0 a1 a2 a3 a4 a5 a6 a7 a8 a9 a10 a11 a12 : V) : (fl_Player a0 a1 a2 a3 a4 a5 a6 a7 a8 a9 a10 a11 a12).lookup ("long" : Str) = none := by kernel_rfl
theorem no_Player_add (a0 a1 a2 a3 a4 a5 a6 a7 a8 a9 a10 a11 a12 : V) : (fl_Player a0 a1 a2 a3 a4 a5 a6 a7 a8 a9 a10 a11 a12).lookup ("add" : Str) = none := by kernel_rfl
theorem no_Player_remove (a0 a1 a2 a3 a4 a5 a6 a7 a8 a9 a10 a11 a12 : V) : (fl_Player a0 a1 a2 a3 a4 a5 a6 a7 a8 a9 a10 a11 a12).lookup ("remove" : Str) = none := by kernel_rfl
theorem no_Player_move (a0 a1 a2 a3 a4 a5 a6 a7 a8 a9 a10 a11 a12 : V) : (fl_Player a0 a1 a2 a3 a4 a5 a6 a7 a8 a9 a10 a11 a12).lookup ("move" : Str) = none := by kernel_rfl
theorem no_Player_play_soon (a0 a1 a2 a3 a4 a5 a6 a7 a8 a9 a10 a11 a12 : V) : (fl_Player a0 a1 a2 a3 a4 a5 a6 a7 a8 a9 a10 a11 a12).lookup ("play_soon" : Str) = none := by kernel_rfl
theorem no_Player_entries (a0 a1 a2 a3 a4 a5 a6 a7 a8 a9 a10 a11 a12 : V) : (fl_Player a0 a1 a2 a3 a4 a5 a6 a7 a8 a9 a10 a11 a12).lookup ("entries" : Str) = none := by kernel_rfl
theorem no_Player_tune (a0 a1 a2 a3 a4 a5 a6 a7 a8 a9 a10 a11 a12 : V) : (fl_Player a0 a1 a2 a3 a4 a5 a6 a7 a8 a9 a10 a11 a12).lookup ("tune" : Str) = none := by kernel_rfl
theorem no_Player_set_again (a0 a1 a2 a3 a4 a5 a6 a7 a8 a9 a10 a11 a12 : V) : (fl_Player a0 a1 a2 a3 a4 a5 a6 a7 a8 a9 a10 a11 a12).lookup ("set_again" : Str) = none := by kernel_rfl
theorem no_Player_set_mixed (a0 a1 a2 a3 a4 a5 a6 a7 a8 a9 a10 a11 a12 : V) : (fl_Player a0 a1 a2 a3 a4 a5 a6 a7 a8 a9 a10 a11 a12).lookup ("set_mixed" : Str) = none := by kernel_rfl
theorem no_Player_begin (a0 a1 a2 a3 a4 a5 a6 a7 a8 a9 a10 a11 a12 : V) : (fl_Player a0 a1 a2 a3 a4 a5 a6 a7 a8 a9 a10 a11 a12).lookup ("begin" : Str) = none := by kernel_rfl
theorem no_Player_play (a0 a1 a2 a3 a4 a5 a6 a7 a8 a9 a10 a11 a12 : V) : (fl_Player a0 a1 a2 a3 a4 a5 a6 a7 a8 a9 a10 a11 a12).lookup ("play" : Str) = none := by kernel_rfl
theorem no_Player_resume (a0 a1 a2 a3 a4 a5 a6 a7 a8 a9 a10 a11 a12 : V) : (fl_Player a0 a1 a2 a3 a4 a5 a6 a7 a8 a9 a10 a11 a12).lookup ("resume" : Str) = none := by kernel_rfl
theorem no_Player_pause (a0 a1 a2 a3 a4 a5 a6 a7 a8 a9 a10 a11 a12 : V) : (fl_Player a0 a1 a2 a3 a4 a5 a6 a7 a8 a9 a10 a11 a12).lookup ("pause" : Str) = none := by kernel_rfl
theorem no_Player_next_entry (a0 a1 a2 a3 a4 a5 a6 a7 a8 a9 a10 a11 a12 : V) : (fl_Player a0 a1 a2 a3 a4 a5 a6 a7 a8 a9 a10 a11 a12).lookup ("next_entry" : Str) = none := by kernel_rfl
theorem no_Player_skip (a0 a1 a2 a3 a4 a5 a6 a7 a8 a9 a10 a11 a12 : V) : (fl_Player a0 a1 a2 a3 a4 a5 a6 a7 a8 a9 a10 a11 a12).lookup ("skip" : Str) = none := by kernel_rfl
theorem no_Player_back (a0 a1 a2 a3 a4 a5 a6 a7 a8 a9 a10 a11 a12 : V) : (fl_Player a0 a1 a2 a3 a4 a5 a6 a7 a8 a9 a10 a11 a12).lookup ("back" : Str) = none := by kernel_rfl
theorem no_Player_seek (a0 a1 a2 a3 a4 a5 a6 a7 a8 a9 a10 a11 a12 : V) : (fl_Player a0 a1 a2 a3 a4 a5 a6 a7 a8 a9 a10 a11 a12).lookup ("seek" : Str) = none := by kernel_rfl
theorem no_Player_stop_behind (a0 a1 a2 a3 a4 a5 a6 a7 a8 a9 a10 a11 a12 : V) : (fl_Player a0 a1 a2 a3 a4 a5 a6 a7 a8 a9 a10 a11 a12).lookup ("stop_behind" : Str) = none := by kernel_rfl
theorem no_Player_sleep (a0 a1 a2 a3 a4 a5 a6 a7 a8 a9 a10 a11 a12 : V) : (fl_Player a0 a1 a2 a3 a4 a5 a6 a7 a8 a9 a10 a11 a12).lookup ("sleep" : Str) = none := by kernel_rfl
theorem no_Player_join_long (a0 a1 a2 a3 a4 a5 a6 a7 a8 a9 a10 a11 a12 : V) : (fl_Player a0 a1 a2 a3 a4 a5 a6 a7 a8 a9 a10 a11 a12).lookup ("join_long" : Str) = none := by kernel_rfl
theorem no_Player_step (a0 a1 a2 a3 a4 a5 a6 a7 a8 a9 a10 a11 a12 : V) : (fl_Player a0 a1 a2 a3 a4 a5 a6 a7 a8 a9 a10 a11 a12).lookup ("step" : Str) = none := by kernel_rfl
theorem no_Player_turn_over (a0 a1 a2 a3 a4 a5 a6 a7 a8 a9 a10 a11 a12 : V) : (fl_Player a0 a1 a2 a3 a4 a5 a6 a7 a8 a9 a10 a11 a12).lookup ("turn_over" : Str) = none := by kernel_rfl
theorem no_Player_tick (a0 a1 a2 a3 a4 a5 a6 a7 a8 a9 a10 a11 a12 : V) : (fl_Player a0 a1 a2 a3 a4 a5 a6 a7 a8 a9 a10 a11 a12).lookup ("tick" : Str) = none := by kernel_rfl
theorem no_Player_state (a0 a1 a2 a3 a4 a5 a6 a7 a8 a9 a10 a11 a12 : V) : (fl_Player a0 a1 a2 a3 a4 a5 a6 a7 a8 a9 a10 a11 a12).lookup ("state" : Str) = none := by kernel_rfl
theorem no_Player_sounds (a0 a1 a2 a3 a4 a5 a6 a7 a8 a9 a10 a11 a12 : V) : (fl_Player a0 a1 a2 a3 a4 a5 a6 a7 a8 a9 a10 a11 a12).lookup ("sounds" : Str) = none := by kernel_rfl
theorem no_Player_log (a0 a1 a2 a3 a4 a5 a6 a7 a8 a9 a10 a11 a12 : V) : (fl_Player a0 a1 a2 a3 a4 a5 a6 a7 a8 a9 a10 a11 a12).lookup ("log" : Str) = none := by kernel_rfl
theorem no_Player_ticks (a0 a1 a2 a3 a4 a5 a6 a7 a8 a9 a10 a11 a12 : V) : (fl_Player a0 a1 a2 a3 a4 a5 a6 a7 a8 a9 a10 a11 a12).lookup ("ticks" : Str) = none := by kernel_rfl
theorem no_Player_ahead (a0 a1 a2 a3 a4 a5 a6 a7 a8 a9 a10 a11 a12 : V) : (fl_Player a0 a1 a2 a3 a4 a5 a6 a7 a8 a9 a10 a11 a12).lookup ("ahead" : Str) = none := by kernel_rfl
theorem no_Player_twin (a0 a1 a2 a3 a4 a5 a6 a7 a8 a9 a10 a11 a12 : V) : (fl_Player a0 a1 a2 a3 a4 a5 a6 a7 a8 a9 a10 a11 a12).lookup ("twin" : Str) = none := by kernel_rfl
theorem sf_Player_shelf {K : PySem.W.Frag} {mg : Str → Option Value} {A : Ads} {H0 H : Hp} {L : List Ent} {l dx : Addr} {a0 a1 a2 a3 a4 a5 a6 a7 a8 a9 a10 a11 a12 y : V} {QH : Hp → Prop} (T : Txt K mg A) (w : W H0 H L) (i : Nat) (h : L[i]? = some (l, .ins A.c_Player dx (fl_Player a0 a1 a2 a3 a4 a5 a6 a7 a8 a9 a10 a11 a12))) (k : ∀ H', W H0 H' (L.set i (l, .ins A.c_Player dx (fl_Player y a1 a2 a3 a4 a5 a6 a7 a8 a9 a10 a11 a12))) → QH H') : xFldSt K "shelf" (.ref l) y H QH := st_fld w i h T.c_Player T.n_Player_shelf (by show 13 < 1000; decide) (by rw [st_Player_shelf]; exact k)
theorem sf_Player_overlap {K : PySem.W.Frag} {mg : Str → Option Value} {A : Ads} {H0 H : Hp} {L : List Ent} {l dx : Addr} {a0 a1 a2 a3 a4 a5 a6 a7 a8 a9 a10 a11 a12 y : V} {QH : Hp → Prop} (T : Txt K mg A) (w : W H0 H L) (i : Nat) (h : L[i]? = some (l, .ins A.c_Player dx (fl_Player a0 a1 a2 a3 a4 a5 a6 a7 a8 a9 a10 a11 a12))) (k : ∀ H', W H0 H' (L.set i (l, .ins A.c_Player dx (fl_Player a0 y a2 a3 a4 a5 a6 a7 a8 a9 a10 a11 a12))) → QH H') : xFldSt K "overlap" (.ref l) y H QH := st_fld w i h T.c_Player T.n_Player_overlap (by show 13 < 1000; decide) (by rw [st_Player_overlap]; exact k)
theorem sf_Player_order {K : PySem.W.Frag} {mg : Str → Option Value} {A : Ads} {H0 H : Hp} {L : List Ent} {l dx : Addr} {a0 a1 a2 a3 a4 a5 a6 a7 a8 a9 a10 a11 a12 y : V} {QH : Hp → Prop} (T : Txt K mg A) (w : W H0 H L) (i : Nat) (h : L[i]? = some (l, .ins A.c_Player dx (fl_Player a0 a1 a2 a3 a4 a5 a6 a7 a8 a9 a10 a11 a12))) (k : ∀ H', W H0 H' (L.set i (l, .ins A.c_Player dx (fl_Player a0 a1 y a3 a4 a5 a6 a7 a8 a9 a10 a11 a12))) → QH H') : xFldSt K "order" (.ref l) y H QH := st_fld w i h T.c_Player T.n_Player_order (by show 13 < 1000; decide) (by rw [st_Player_order]; exact k)
theorem sf_Player_time {K : PySem.W.Frag} {mg : Str → Option Value} {A : Ads} {H0 H : Hp} {L : List Ent} {l dx : Addr} {a0 a1 a2 a3 a4 a5 a6 a7 a8 a9 a10 a11 a12 y : V} {QH : Hp → Prop} (T : Txt K mg A) (w : W H0 H L) (i : Nat) (h : L[i]? = some (l, .ins A.c_Player dx (fl_Player a0 a1 a2 a3 a4 a5 a6 a7 a8 a9 a10 a11 a12))) (k : ∀ H', W H0 H' (L.set i (l, .ins A.c_Player dx (fl_Player a0 a1 a2 y a4 a5 a6 a7 a8 a9 a10 a11 a12))) → QH H') : xFldSt K "time" (.ref l) y H QH := st_fld w i h T.c_Player T.n_Player_time (by show 13 < 1000; decide) (by rw [st_Player_time]; exact k)
theorem sf_Player_now {K : PySem.W.Frag} {mg : Str → Option Value} {A : Ads} {H0 H : Hp} {L : List Ent} {l dx : Addr} {a0 a1 a2 a3 a4 a5 a6 a7 a8 a9 a10 a11 a12 y : V} {QH : Hp → Prop} (T : Txt K mg A) (w : W H0 H L) (i : Nat) (h : L[i]? = some (l, .ins A.c_Player dx (fl_Player a0 a1 a2 a3 a4 a5 a6 a7 a8 a9 a10 a11 a12))) (k : ∀ H', W H0 H' (L.set i (l, .ins A.c_Player dx (fl_Player a0 a1 a2 a3 y a5 a6 a7 a8 a9 a10 a11 a12))) → QH H') : xFldSt K "now" (.ref l) y H QH := st_fld w i h T.c_Player T.n_Player_now (by show 13 < 1000; decide) (by rw [st_Player_now]; exact k)
theorem sf_Player_spot {K : PySem.W.Frag} {mg : Str → Option Value} {A : Ads} {H0 H : Hp} {L : List Ent} {l dx : Addr} {a0 a1 a2 a3 a4 a5 a6 a7 a8 a9 a10 a11 a12 y : V} {QH : Hp → Prop} (T : Txt K mg A) (w : W H0 H L) (i : Nat) (h : L[i]? = some (l, .ins A.c_Player dx (fl_Player a0 a1 a2 a3 a4 a5 a6 a7 a8 a9 a10 a11 a12))) (k : ∀ H', W H0 H' (L.set i (l, .ins A.c_Player dx (fl_Player a0 a1 a2 a3 a4 y a6 a7 a8 a9 a10 a11 a12))) → QH H') : xFldSt K "spot" (.ref l) y H QH := st_fld w i h T.c_Player T.n_Player_spot (by show 13 < 1000; decide) (by rw [st_Player_spot]; exact k)
theorem sf_Player_old {K : PySem.W.Frag} {mg : Str → Option Value} {A : Ads} {H0 H : Hp} {L : List Ent} {l dx : Addr} {a0 a1 a2 a3 a4 a5 a6 a7 a8 a9 a10 a11 a12 y : V} {QH : Hp → Prop} (T : Txt K mg A) (w : W H0 H L) (i : Nat) (h : L[i]? = some (l, .ins A.c_Player dx (fl_Player a0 a1 a2 a3 a4 a5 a6 a7 a8 a9 a10 a11 a12))) (k : ∀ H', W H0 H' (L.set i (l, .ins A.c_Player dx (fl_Player a0 a1 a2 a3 a4 a5 y a7 a8 a9 a10 a11 a12))) → QH H') : xFldSt K "old" (.ref l) y H QH := st_fld w i h T.c_Player T.n_Player_old (by show 13 < 1000; decide) (by rw [st_Player_old]; exact k)
theorem sf_Player_soon {K : PySem.W.Frag} {mg : Str → Option Value} {A : Ads} {H0 H : Hp} {L : List Ent} {l dx : Addr} {a0 a1 a2 a3 a4 a5 a6 a7 a8 a9 a10 a11 a12 y : V} {QH : Hp → Prop} (T : Txt K mg A) (w : W H0 H L) (i : Nat) (h : L[i]? = some (l, .ins A.c_Player dx (fl_Player a0 a1 a2 a3 a4 a5 a6 a7 a8 a9 a10 a11 a12))) (k : ∀ H', W H0 H' (L.set i (l, .ins A.c_Player dx (fl_Player a0 a1 a2 a3 a4 a5 a6 y a8 a9 a10 a11 a12))) → QH H') : xFldSt K "soon" (.ref l) y H QH := st_fld w i h T.c_Player T.n_Player_soon (by show 13 < 1000; decide) (by rw [st_Player_soon]; exact k)
theorem sf_Player_past {K : PySem.W.Frag} {mg : Str → Option Value} {A : Ads} {H0 H : Hp} {L : List Ent} {l dx : Addr} {a0 a1 a2 a3 a4 a5 a6 a7 a8 a9 a10 a11 a12 y : V} {QH : Hp → Prop} (T : Txt K mg A) (w : W H0 H L) (i : Nat) (h : L[i]? = some (l, .ins A.c_Player dx (fl_Player a0 a1 a2 a3 a4 a5 a6 a7 a8 a9 a10 a11 a12))) (k : ∀ H', W H0 H' (L.set i (l, .ins A.c_Player dx (fl_Player a0 a1 a2 a3 a4 a5 a6 a7 y a9 a10 a11 a12))) → QH H') : xFldSt K "past" (.ref l) y H QH := st_fld w i h T.c_Player T.n_Player_past (by show 13 < 1000; decide) (by rw [st_Player_past]; exact k)
theorem sf_Player_rows {K : PySem.W.Frag} {mg : Str → Option Value} {A : Ads} {H0 H : Hp} {L : List Ent} {l dx : Addr} {a0 a1 a2 a3 a4 a5 a6 a7 a8 a9 a10 a11 a12 y : V} {QH : Hp → Prop} (T : Txt K mg A) (w : W H0 H L) (i : Nat) (h : L[i]? = some (l, .ins A.c_Player dx (fl_Player a0 a1 a2 a3 a4 a5 a6 a7 a8 a9 a10 a11 a12))) (k : ∀ H', W H0 H' (L.set i (l, .ins A.c_Player dx (fl_Player a0 a1 a2 a3 a4 a5 a6 a7 a8 y a10 a11 a12))) → QH H') : xFldSt K "rows" (.ref l) y H QH := st_fld w i h T.c_Player T.n_Player_rows (by show 13 < 1000; decide) (by rw [st_Player_rows]; exact k)
theorem sf_Player_is_playing {K : PySem.W.Frag} {mg : Str → Option Value} {A : Ads} {H0 H : Hp} {L : List Ent} {l dx : Addr} {a0 a1 a2 a3 a4 a5 a6 a7 a8 a9 a10 a11 a12 y : V} {QH : Hp → Prop} (T : Txt K mg A) (w : W H0 H L) (i : Nat) (h : L[i]? = some (l, .ins A.c_Player dx (fl_Player a0 a1 a2 a3 a4 a5 a6 a7 a8 a9 a10 a11 a12))) (k : ∀ H', W H0 H' (L.set i (l, .ins A.c_Player dx (fl_Player a0 a1 a2 a3 a4 a5 a6 a7 a8 a9 y a11 a12))) → QH H') : xFldSt K "is_playing" (.ref l) y H QH := st_fld w i h T.c_Player T.n_Player_is_playing (by show 13 < 1000; decide) (by rw [st_Player_is_playing]; exact k)
theorem sf_Player_stops {K : PySem.W.Frag} {mg : Str → Option Value} {A : Ads} {H0 H : Hp} {L : List Ent} {l dx : Addr} {a0 a1 a2 a3 a4 a5 a6 a7 a8 a9 a10 a11 a12 y : V} {QH : Hp → Prop} (T : Txt K mg A) (w : W H0 H L) (i : Nat) (h : L[i]? = some (l, .ins A.c_Player dx (fl_Player a0 a1 a2 a3 a4 a5 a6 a7 a8 a9 a10 a11 a12))) (k : ∀ H', W H0 H' (L.set i (l, .ins A.c_Player dx (fl_Player a0 a1 a2 a3 a4 a5 a6 a7 a8 a9 a10 y a12))) → QH H') : xFldSt K "stops" (.ref l) y H QH := st_fld w i h T.c_Player T.n_Player_stops (by show 13 < 1000; decide) (by rw [st_Player_stops]; exact k)
theorem sf_Player_sleep_left {K : PySem.W.Frag} {mg : Str → Option Value} {A : Ads} {H0 H : Hp} {L : List Ent} {l dx : Addr} {a0 a1 a2 a3 a4 a5 a6 a7 a8 a9 a10 a11 a12 y : V} {QH : Hp → Prop} (T : Txt K mg A) (w : W H0 H L) (i : Nat) (h : L[i]? = some (l, .ins A.c_Player dx (fl_Player a0 a1 a2 a3 a4 a5 a6 a7 a8 a9 a10 a11 a12))) (k : ∀ H', W H0 H' (L.set i (l, .ins A.c_Player dx (fl_Player a0 a1 a2 a3 a4 a5 a6 a7 a8 a9 a10 a11 y))) → QH H') : xFldSt K "sleep_left" (.ref l) y H QH := st_fld w i h T.c_Player T.n_Player_sleep_left (by show 13 < 1000; decide) (by rw [st_Player_sleep_left]; exact k)
theorem ln_Player (a0 a1 a2 a3 a4 a5 a6 a7 a8 a9 a10 a11 a12 : V) : (fl_Player a0 a1 a2 a3 a4 a5 a6 a7 a8 a9 a10 a11 a12).length < 1000 := by show 13 < 1000; decide
def fl_Shelf (a0 : V) : List (Str × V) := [("longs", a0)]
theorem fl_Shelf_longs (a0 : V) : (fl_Shelf a0).lookup ("longs" : Str) = some a0 := by kernel_rfl
theorem st_Shelf_longs (a0 b : V) : putF "longs" b (fl_Shelf a0) = fl_Shelf b := by kernel_rfl
theorem no_Shelf_init__ (a0 : V) : (fl_Shelf a0).lookup ("__init__" : Str) = none := by kernel_rfl
theorem no_Shelf_add (a0 : V) : (fl_Shelf a0).lookup ("add" : Str) = none := by kernel_rfl
theorem no_Shelf_need (a0 : V) : (fl_Shelf a0).lookup ("need" : Str) = none := by kernel_rfl
theorem no_Shelf_long (a0 : V) : (fl_Shelf a0).lookup ("long" : Str) = none := by kernel_rfl
theorem no_Shelf_names (a0 : V) : (fl_Shelf a0).lookup ("names" : Str) = none := by kernel_rfl
theorem sf_Shelf_longs {K : PySem.W.Frag} {mg : Str → Option Value} {A : Ads} {H0 H : Hp} {L : List Ent} {l dx : Addr} {a0 y : V} {QH : Hp → Prop} (T : Txt K mg A) (w : W H0 H L) (i : Nat) (h : L[i]? = some (l, .ins A.c_Shelf dx (fl_Shelf a0))) (k : ∀ H', W H0 H' (L.set i (l, .ins A.c_Shelf dx (fl_Shelf y))) → QH H') : xFldSt K "longs" (.ref l) y H QH := st_fld w i h T.c_Shelf T.n_Shelf_longs (by show 1 < 1000; decide) (by rw [st_Shelf_longs]; exact k)
theorem ln_Shelf (a0 : V) : (fl_Shelf a0).length < 1000 := by show 1 < 1000; decide
end TR
namespace TR
open PySem L2
end TR

local macro_rules | `(tactic| walk_at "cls") => `(tactic| first
  | exact TR.Txt.c_Dice ‹TR.Txt _ _ _›
  | exact TR.Txt.c_Queue ‹TR.Txt _ _ _›
  | exact TR.Txt.c_Order ‹TR.Txt _ _ _›
  | exact TR.Txt.c_Player ‹TR.Txt _ _ _›
  | exact TR.Txt.c_Shelf ‹TR.Txt _ _ _›)
local macro_rules | `(tactic| walk_at "noat") => `(tactic| first
  | exact TR.Txt.n_Dice_number ‹TR.Txt _ _ _›
  | exact TR.Txt.n_Queue_tunes ‹TR.Txt _ _ _›
  | exact TR.Txt.n_Queue_turn ‹TR.Txt _ _ _›
  | exact TR.Txt.n_Queue_last ‹TR.Txt _ _ _›
  | exact TR.Txt.n_Order_queue ‹TR.Txt _ _ _›
  | exact TR.Txt.n_Order_dice ‹TR.Txt _ _ _›
  | exact TR.Txt.n_Order_is_mixed ‹TR.Txt _ _ _›
  | exact TR.Txt.n_Order_again ‹TR.Txt _ _ _›
  | exact TR.Txt.n_Order_deck ‹TR.Txt _ _ _›
  | exact TR.Txt.n_Order_is_gone ‹TR.Txt _ _ _›
  | exact TR.Txt.n_Order_behind ‹TR.Txt _ _ _›
  | exact TR.Txt.n_Player_shelf ‹TR.Txt _ _ _›
  | exact TR.Txt.n_Player_overlap ‹TR.Txt _ _ _›
  | exact TR.Txt.n_Player_order ‹TR.Txt _ _ _›
  | exact TR.Txt.n_Player_time ‹TR.Txt _ _ _›
  | exact TR.Txt.n_Player_now ‹TR.Txt _ _ _›
  | exact TR.Txt.n_Player_spot ‹TR.Txt _ _ _›
  | exact TR.Txt.n_Player_old ‹TR.Txt _ _ _›
  | exact TR.Txt.n_Player_soon ‹TR.Txt _ _ _›
  | exact TR.Txt.n_Player_past ‹TR.Txt _ _ _›
  | exact TR.Txt.n_Player_rows ‹TR.Txt _ _ _›
  | exact TR.Txt.n_Player_is_playing ‹TR.Txt _ _ _›
  | exact TR.Txt.n_Player_stops ‹TR.Txt _ _ _›
  | exact TR.Txt.n_Player_sleep_left ‹TR.Txt _ _ _›
  | exact TR.Txt.n_Shelf_longs ‹TR.Txt _ _ _›)
local macro_rules | `(tactic| walk_at "excc") => `(tactic| first
  | exact TR.Txt.e_RoadError ‹TR.Txt _ _ _›
  | exact TR.Txt.e_BadTune ‹TR.Txt _ _ _›
  | exact TR.Txt.e_BadNumber ‹TR.Txt _ _ _›
  | exact TR.Txt.e_BadEntry ‹TR.Txt _ _ _›
  | exact TR.Txt.e_BadWord ‹TR.Txt _ _ _›)
local macro_rules | `(tactic| walk_at "kit") => `(tactic| first
  | exact TR.Txt.i_RoadError_RoadError ‹TR.Txt _ _ _›
  | exact TR.Txt.i_RoadError_BadTune ‹TR.Txt _ _ _›
  | exact TR.Txt.i_RoadError_BadNumber ‹TR.Txt _ _ _›
  | exact TR.Txt.i_RoadError_BadEntry ‹TR.Txt _ _ _›
  | exact TR.Txt.i_RoadError_BadWord ‹TR.Txt _ _ _›
  | exact TR.Txt.i_RoadError_ValueError ‹TR.Txt _ _ _›
  | exact TR.Txt.i_BadTune_RoadError ‹TR.Txt _ _ _›
  | exact TR.Txt.i_BadTune_BadTune ‹TR.Txt _ _ _›
  | exact TR.Txt.i_BadTune_BadNumber ‹TR.Txt _ _ _›
  | exact TR.Txt.i_BadTune_BadEntry ‹TR.Txt _ _ _›
  | exact TR.Txt.i_BadTune_BadWord ‹TR.Txt _ _ _›
  | exact TR.Txt.i_BadTune_ValueError ‹TR.Txt _ _ _›
  | exact TR.Txt.i_BadNumber_RoadError ‹TR.Txt _ _ _›
  | exact TR.Txt.i_BadNumber_BadTune ‹TR.Txt _ _ _›
  | exact TR.Txt.i_BadNumber_BadNumber ‹TR.Txt _ _ _›
  | exact TR.Txt.i_BadNumber_BadEntry ‹TR.Txt _ _ _›
  | exact TR.Txt.i_BadNumber_BadWord ‹TR.Txt _ _ _›
  | exact TR.Txt.i_BadNumber_ValueError ‹TR.Txt _ _ _›
  | exact TR.Txt.i_BadEntry_RoadError ‹TR.Txt _ _ _›
  | exact TR.Txt.i_BadEntry_BadTune ‹TR.Txt _ _ _›
  | exact TR.Txt.i_BadEntry_BadNumber ‹TR.Txt _ _ _›
  | exact TR.Txt.i_BadEntry_BadEntry ‹TR.Txt _ _ _›
  | exact TR.Txt.i_BadEntry_BadWord ‹TR.Txt _ _ _›
  | exact TR.Txt.i_BadEntry_ValueError ‹TR.Txt _ _ _›
  | exact TR.Txt.i_BadWord_RoadError ‹TR.Txt _ _ _›
  | exact TR.Txt.i_BadWord_BadTune ‹TR.Txt _ _ _›
  | exact TR.Txt.i_BadWord_BadNumber ‹TR.Txt _ _ _›
  | exact TR.Txt.i_BadWord_BadEntry ‹TR.Txt _ _ _›
  | exact TR.Txt.i_BadWord_BadWord ‹TR.Txt _ _ _›
  | exact TR.Txt.i_BadWord_ValueError ‹TR.Txt _ _ _›)
local macro_rules | `(tactic| walk_at "kt") => `(tactic| first
  | exact TR.Txt.tu_REPEATS ‹TR.Txt _ _ _› _)
local macro_rules | `(tactic| walk_at "dgk") => `(tactic| first
  | fail)
local macro_rules | `(tactic| walk_at "hg") => `(tactic| first
  | exact TR.W.get ‹TR.W _ _ _› 0 rfl | exact TR.W.get ‹TR.W _ _ _› 1 rfl | exact TR.W.get ‹TR.W _ _ _› 2 rfl | exact TR.W.get ‹TR.W _ _ _› 3 rfl
  | exact TR.W.get ‹TR.W _ _ _› 4 rfl | exact TR.W.get ‹TR.W _ _ _› 5 rfl | exact TR.W.get ‹TR.W _ _ _› 6 rfl | exact TR.W.get ‹TR.W _ _ _› 7 rfl
  | exact TR.W.get ‹TR.W _ _ _› 8 rfl | exact TR.W.get ‹TR.W _ _ _› 9 rfl | exact TR.W.get ‹TR.W _ _ _› 10 rfl | exact TR.W.get ‹TR.W _ _ _› 11 rfl
  | exact TR.W.get ‹TR.W _ _ _› 12 rfl | exact TR.W.get ‹TR.W _ _ _› 13 rfl | exact TR.W.get ‹TR.W _ _ _› 14 rfl | exact TR.W.get ‹TR.W _ _ _› 15 rfl
  | exact TR.W.get ‹TR.W _ _ _› 16 rfl | exact TR.W.get ‹TR.W _ _ _› 17 rfl | exact TR.W.get ‹TR.W _ _ _› 18 rfl | exact TR.W.get ‹TR.W _ _ _› 19 rfl)
local macro_rules | `(tactic| walk_at "sz") => `(tactic| (simp only [List.length_map, List.length_append, List.length_cons, List.length_nil, List.length_set, List.length_take, List.length_drop, List.length_replicate, List.length_reverse]; first | exact TR.szL (by omega) | exact TR.szE (by omega)))
local macro_rules | `(tactic| walk_at "dg") => `(tactic| first | walk_at "dgk" | exact L2.DGet.k (k := Sum.inr _) (by walk_at "hg") | exact L2.DGet.k (k := Sum.inl _) (by walk_at "hg"))
local macro_rules | `(tactic| walk_at "sd") => `(tactic| first
  | ((with_reducible show (_ : Option L2.HO) = _); first | assumption | walk_at "hg")
  | ((with_reducible show PySem.W.kitOne _ _ _ = _); walk_at "kit")
  | ((with_reducible show _ = _); first | rfl | assumption | exact TR.flat_ints _ | decide)
  | ((with_reducible show L2.Cls _ _); walk_at "cls")
  | ((with_reducible show L2.NoAttr _ _ _); walk_at "noat")
  | ((with_reducible show L2.ExcC _ _); walk_at "excc")
  | ((with_reducible show L2.SqL _ _ _ _); first | assumption | exact L2.SqL.of (by walk_at "hg"))
  | ((with_reducible show L2.SqT _ _ _ _); first | assumption | exact L2.SqT.of (by first | assumption | walk_at "hg") | walk_at "kt")
  | ((with_reducible show L2.SqL _ _ _ _ ∨ L2.SqT _ _ _ _); first | exact Or.inl (L2.SqL.of (by walk_at "hg")) | exact Or.inr (L2.SqT.of (by first | assumption | walk_at "hg")) | exact Or.inr (by walk_at "kt") | exact Or.inl (by assumption))
  | ((with_reducible show L2.RgC _ _ _ _); exact L2.RgC.neg (by omega) (by omega) (by omega) (by omega))
  | ((with_reducible show L2.RgOk _ _); exact L2.RgOk.of_le (by omega) (by omega) (by omega) (by omega))
  | ((with_reducible show L2.tyV _ _ _ _); first | exact Or.inl ⟨rfl, _, L2.SqL.of (by walk_at "hg")⟩ | exact Or.inr (Or.inr (Or.inl ⟨rfl, Or.inl ⟨_, by walk_at "hg"⟩⟩)))
  | ((with_reducible show L2.TruV _ _ _ _); first | exact Or.inl ⟨_, L2.SqL.of (by walk_at "hg"), rfl⟩ | rfl)
  | ((with_reducible show L2.DGet _ _ _ _); walk_at "dg")
  | ((with_reducible show _ ≤ _); first | omega | (simp only [List.length_map, List.length_append, List.length_cons, List.length_nil, List.length_set]; omega) | walk_at "sz")
  | ((with_reducible show _ < _); first | omega | (simp only [List.length_map, List.length_append, List.length_cons, List.length_nil, List.length_set]; omega) | walk_at "sz")
  | assumption
  | exact fun _ z => z
  | exact ⟨_, rfl⟩
  | exact ⟨_, L2.SqL.of (by walk_at "hg")⟩
  | ((with_reducible show L2.CDiv _ _); exact ⟨by first | decide | omega, by first | decide | omega⟩)
  | ((with_reducible show L2.CPow _ _); exact ⟨by first | decide | omega, by first | decide | omega, by first | decide | omega⟩)
  | ((with_reducible show L2.CMul _ _); first | exact Or.inl ⟨by first | decide | omega, by first | decide | omega⟩ | exact Or.inr ⟨by first | decide | omega, by first | decide | omega⟩))
local macro_rules | `(tactic| walk_at "rd") => `(tactic| repeat (first | apply Exists.intro | (refine And.intro ?_ ?_; · walk_at "sd")))
local macro_rules | `(tactic| walk_at "scr") => `(tactic| first | assumption | (apply TR.Scr.cons; walk_at "scr") | (apply TR.Scr.app; walk_at "scr"))
local macro_rules | `(tactic| walk_at "perm") => `(tactic| (refine TR.permC fun _ _ _ => ?_; simp only [List.count_append, List.count_cons, List.count_nil]; ac_rfl))

namespace TR
open PySem L2
/-! ### the law's draws -/
def cellP (ns : List Int) (k : Int) : Int := if ns = [] then 0 else ns.getD (k % (ns.length : Int)).toNat 0
def mixP (ns : List Int) (k : Int) : Int :=
  let n1 := (cellP ns k + 104729 * (k + 1)) % 4294967291
  let n2 := n1 ^ 5 % 4294967279
  (n2 / 64 * 69621 + n2) % 4294967231
def drawP (ns : List Int) (n : Nat) (m : Int) : Int := mixP ns ((n : Int) + 1) / 8 % m
theorem drawP_nn (ns : List Int) (n : Nat) {m : Int} (h : 0 < m) : 0 ≤ drawP ns n m := Int.emod_nonneg _ (by omega)
theorem drawP_lt (ns : List Int) (n : Nat) {m : Int} (h : 0 < m) : drawP ns n m < m := Int.emod_lt_of_pos _ h
def zeros (n : Nat) : List V := List.replicate n (V.int 0)
theorem zeros_succ (n : Nat) : zeros n ++ [V.int 0] = zeros (n + 1) := by unfold zeros; rw [List.replicate_succ']
theorem zeros_len (n : Nat) : (zeros n).length = n := by unfold zeros; exact List.length_replicate
@[irreducible] def sp_cell (K : PySem.W.Frag) : Sp := fun vs H Q _ => ∃ (a : Addr) (ns : List Int) (k : Int), vs = [.ref a, .int k] ∧ SqL K H a (ns.map V.int) ∧ Q (.int (cellP ns k)) H
theorem of_cell {K : PySem.W.Frag} {vs : List V} {H : Hp} {Q : VK} {E : XK} (h :  ∃ (a : Addr) (ns : List Int) (k : Int), vs = [.ref a, .int k] ∧ SqL K H a (ns.map V.int) ∧ Q (.int (cellP ns k)) H) : sp_cell K vs H Q E := by unfold sp_cell; exact h
@[irreducible] def sp_mix (K : PySem.W.Frag) : Sp := fun vs H Q _ => ∃ (a : Addr) (ns : List Int) (k : Int), vs = [.ref a, .int k] ∧ SqL K H a (ns.map V.int) ∧ 0 ≤ k ∧ k < 1000000 ∧ Q (.int (mixP ns k)) H
theorem of_mix {K : PySem.W.Frag} {vs : List V} {H : Hp} {Q : VK} {E : XK} (h :  ∃ (a : Addr) (ns : List Int) (k : Int), vs = [.ref a, .int k] ∧ SqL K H a (ns.map V.int) ∧ 0 ≤ k ∧ k < 1000000 ∧ Q (.int (mixP ns k)) H) : sp_mix K vs H Q E := by unfold sp_mix; exact h
/-- town holds n noughts; R the rest, the script among it -/
@[irreducible] def sp_draw (K : PySem.W.Frag) : Sp := fun vs H Q _ => ∃ (a t : Addr) (ns : List Int) (n : Nat) (m : Int) (R : List Ent), vs = [.ref a, .ref t, .int m] ∧ Scr K a ns R ∧ W H H ((t, .lst (zeros n)) :: R) ∧ n ≤ 10000 ∧ 0 < m ∧
  ∀ H', W H H' ((t, .lst (zeros (n + 1))) :: R) → Q (.int (drawP ns n m)) H'
theorem of_draw {K : PySem.W.Frag} {vs : List V} {H : Hp} {Q : VK} {E : XK} (h :  ∃ (a t : Addr) (ns : List Int) (n : Nat) (m : Int) (R : List Ent), vs = [.ref a, .ref t, .int m] ∧ Scr K a ns R ∧ W H H ((t, .lst (zeros n)) :: R) ∧ n ≤ 10000 ∧ 0 < m ∧
  ∀ H', W H H' ((t, .lst (zeros (n + 1))) :: R) → Q (.int (drawP ns n m)) H') : sp_draw K vs H Q E := by unfold sp_draw; exact h
@[irreducible] def sp_pick (K : PySem.W.Frag) : Sp := fun vs H Q _ => ∃ (a t b : Addr) (ns : List Int) (n : Nat) (xs : List V) (R : List Ent), vs = [.ref a, .ref t, .ref b] ∧ Scr K a ns R ∧ W H H ((t, .lst (zeros n)) :: R) ∧ (∀ H0 H', W H0 H' R → SqL K H' b xs) ∧ n ≤ 10000 ∧ xs ≠ [] ∧
  ∀ H' v, W H H' ((t, .lst (zeros (n + 1))) :: R) → xs[(drawP ns n xs.length).toNat]? = some v → Q v H'
theorem of_pick {K : PySem.W.Frag} {vs : List V} {H : Hp} {Q : VK} {E : XK} (h :  ∃ (a t b : Addr) (ns : List Int) (n : Nat) (xs : List V) (R : List Ent), vs = [.ref a, .ref t, .ref b] ∧ Scr K a ns R ∧ W H H ((t, .lst (zeros n)) :: R) ∧ (∀ H0 H', W H0 H' R → SqL K H' b xs) ∧ n ≤ 10000 ∧ xs ≠ [] ∧
  ∀ H' v, W H H' ((t, .lst (zeros (n + 1))) :: R) → xs[(drawP ns n xs.length).toNat]? = some v → Q v H') : sp_pick K vs H Q E := by unfold sp_pick; exact h
theorem toNat_mod_lt {k : Int} {n : Nat} (h : 0 < n) : (k % (n : Int)).toNat < n := by
  have h1 : 0 ≤ k % (n : Int) := Int.emod_nonneg _ (by omega)
  have h2 : k % (n : Int) < n := Int.emod_lt_of_pos _ (by omega)
  omega
section
variable {P : Program} {w : World} {K : PySem.W.Frag} {mg : Str → Option Value} {base : Heap} {A : Ads}
theorem ok_law_cell (T : Txt K mg A) : FnOk P w K mg base (L2.CX P w) 1 A.f_law_cell A.d_law_cell P_law_cell (sp_cell K) := by
  refine T.F_law_cell.okX sc_law_cell (fun vs H Q E h => ?_) (fun cdv Ar outer s H vs Q E hr h => ?_)
  · unfold sp_cell at h; obtain ⟨a, ns, k, rfl, _⟩ := h; rfl
  · unfold sp_cell at h; obtain ⟨a, ns, k, rfl, hs, q⟩ := h
    refine ⟨_, (pss_cons (my_if (pt_truth (pv 0) (by intro _; rfl))
        (pss_one (ps_ret (pe_ix ix_list (pv 0) (pe_op op_mod (pv 1) (pe_callB my_lenQ (by rfl) T.z_len PySem.boot_len (pa_cons (pv 0) pa_nil))) (fun _ _ => rfl))))
        pss_nil)
      (pss_one (ps_ret pe_int))), ?_⟩
    refine ⟨_, rfl, _, .inl ⟨_, hs, rfl⟩, ?_⟩
    refine xIf_2 (fun h => ?_) (fun h => ?_)
    · have hn : ns ≠ [] := fun z => by subst z; cases h
      have hl : 0 < ns.length := List.length_pos_iff.mpr hn
      have e : (ns.map V.int)[(k % (ns.length : Int)).toNat]? = some (V.int (cellP ns k)) := by
        rw [List.getElem?_map, List.getElem?_eq_getElem (toNat_mod_lt hl)]
        unfold cellP
        rw [if_neg hn, List.getD_eq_getElem?_getD, List.getElem?_eq_getElem (toNat_mod_lt hl)]
        rfl
      refine ⟨_, rfl, _, rfl, _, rfl, _, _, rfl, .inl hs, _, _, rfl, rfl, ?_, _, _, _, _, rfl, rfl, hs, ?_, q⟩
      · rw [List.length_map]; omega
      · rw [List.length_map]
        exact at_of (Int.toNat_of_nonneg (Int.emod_nonneg _ (by omega))).symm e
    · have hn : ns = [] := by
        cases ns with
        | nil => rfl
        | cons a r => cases h
      unfold cellP at q
      rw [if_pos hn] at q
      exact q
theorem n1_bd (a : Int) : 0 ≤ a % 4294967291 ∧ a % 4294967291 < 4294967291 := ⟨Int.emod_nonneg _ (by decide), Int.emod_lt_of_pos _ (by decide)⟩
theorem n2_bd (a : Int) : 0 ≤ a % 4294967279 ∧ a % 4294967279 < 4294967279 := ⟨Int.emod_nonneg _ (by decide), Int.emod_lt_of_pos _ (by decide)⟩
theorem ok_law_mix (T : Txt K mg A) : FnOk P w K mg base (L2.CX P w) 2 A.f_law_mix A.d_law_mix P_law_mix (sp_mix K) := by
  refine T.F_law_mix.okX sc_law_mix (fun vs H Q E h => ?_) (fun cdv Ar outer s H vs Q E hr h => ?_)
  · unfold sp_mix at h; obtain ⟨a, ns, k, rfl, _⟩ := h; rfl
  · unfold sp_mix at h; obtain ⟨a, ns, k, rfl, hs, h0, h1, q⟩ := h
    refine ⟨_, (pss_cons (ps_set (i := 2) sc_law_mix.nd rfl (by first | exact Or.inl rfl | exact Or.inr rfl) (pe_op op_mod (pe_op op_add (my_call (ok_law_cell T) (hr.mono (by decide)) (by rfl) T.g_law_cell T.k_law_cell T.b_law_cell passE (pa_cons (pv 0) (pa_cons (pv 1) pa_nil))) (pe_op op_mul pe_int (pe_op op_add (pv 1) pe_int))) pe_int))
      (pss_cons (ps_set (i := 2) sc_law_mix.nd rfl (by first | exact Or.inl rfl | exact Or.inr rfl) (pe_op op_mod (pe_op op_pow (pv 2) pe_int) pe_int))
      (pss_one (ps_ret (pe_op op_mod (pe_op op_add (pe_op op_mul (pe_op op_fdiv (pv 2) pe_int) pe_int) (pv 2)) pe_int))))), ?_⟩
    refine ⟨_, rfl, _, rfl, st_call ?_⟩
    unfold sp_cell
    refine ⟨_, _, _, rfl, hs, ?_⟩
    have b1 := n1_bd (cellP ns k + 104729 * (k + 1))
    have b2 := n2_bd (((cellP ns k + 104729 * (k + 1)) % 4294967291) ^ 5)
    refine ⟨_, rfl, _, _, rfl, rfl, _, _, rfl, rfl, .inl ⟨by decide, by decide⟩, _, _, rfl, rfl, _, _, rfl, rfl, (by show (0 : Int) < _; decide), ?_⟩
    refine ⟨_, rfl, _, _, rfl, rfl, ⟨by decide, by decide, by omega⟩, _, _, rfl, rfl, (by show (0 : Int) < _; decide), ?_⟩
    refine ⟨_, rfl, _, _, rfl, rfl, ⟨by decide, by decide⟩, _, _, rfl, rfl, .inr ⟨by decide, by decide⟩, _, rfl, _, _, rfl, rfl, _, _, rfl, rfl, (by show (0 : Int) < _; decide), ?_⟩
    exact q
theorem ok_law_draw (T : Txt K mg A) : FnOk P w K mg base (L2.CX P w) 3 A.f_law_draw A.d_law_draw P_law_draw (sp_draw K) := by
  refine T.F_law_draw.okX sc_law_draw (fun vs H Q E h => ?_) (fun cdv Ar outer s H vs Q E hr h => ?_)
  · unfold sp_draw at h; obtain ⟨a, t, ns, n, m, R, rfl, _⟩ := h; rfl
  · unfold sp_draw at h; obtain ⟨a, t, ns, n, m, R, rfl, sc, w, hn, hm, q⟩ := h
    refine ⟨_, (pss_cons (ps_expr (pe_bm PySem.F.plainAttrs_list PySem.F.slot_list_append PySem.F.type_list_append my_append (pv 1) (pa_cons pe_int pa_nil)))
      (pss_one (ps_ret (pe_op op_mod (pe_op op_fdiv (my_call (ok_law_mix T) (hr.mono (by decide)) (by rfl) T.g_law_mix T.k_law_mix T.b_law_mix passE (pa_cons (pv 0) (pa_cons (pe_callB my_lenQ (by rfl) T.z_len PySem.boot_len (pa_cons (pv 1) pa_nil)) pa_nil))) pe_int) (pv 2))))), ?_⟩
    walk_at "rd"
    refine st_app w 0 rfl (by rw [zeros_len]; exact szL (by omega)) fun H1 w1 => ?_
    rw [zeros_succ] at w1
    replace w1 : W H H1 ((t, .lst (zeros (n + 1))) :: R) := w1
    walk_at "rd"
    refine st_call ?_
    unfold sp_mix
    refine ⟨a, ns, _, rfl, sc _ _ w1.drop1, by omega, by rw [zeros_len]; omega, ?_⟩
    refine ⟨_, _, rfl, rfl, ⟨by decide, by decide⟩, _, rfl, _, _, rfl, rfl, hm, ?_⟩
    have e := q H1 w1
    unfold drawP at e
    rw [zeros_len]
    exact e
theorem ok_law_pick (T : Txt K mg A) : FnOk P w K mg base (L2.CX P w) 4 A.f_law_pick A.d_law_pick P_law_pick (sp_pick K) := by
  refine T.F_law_pick.okX sc_law_pick (fun vs H Q E h => ?_) (fun cdv Ar outer s H vs Q E hr h => ?_)
  · unfold sp_pick at h; obtain ⟨a, t, b, ns, n, xs, R, rfl, _⟩ := h; rfl
  · unfold sp_pick at h; obtain ⟨a, t, b, ns, n, xs, R, rfl, sc, w, hb, hn, hx, q⟩ := h
    refine ⟨_, (pss_one (ps_ret (pe_ix ix_list (pv 2) (my_call (ok_law_draw T) (hr.mono (by decide)) (by rfl) T.g_law_draw T.k_law_draw T.b_law_draw passE (pa_cons (pv 0) (pa_cons (pv 1) (pa_cons (pe_callB my_lenQ (by rfl) T.z_len PySem.boot_len (pa_cons (pv 2) pa_nil)) pa_nil)))) (fun _ _ => rfl)))), ?_⟩
    have hl : 0 < xs.length := List.length_pos_iff.mpr hx
    refine ⟨_, rfl, _, rfl, _, rfl, _, rfl, _, _, rfl, .inl (hb _ _ w.drop1), st_call ?_⟩
    unfold sp_draw
    refine ⟨a, t, ns, n, _, R, rfl, sc, w, hn, by omega, fun H1 w1 => ?_⟩
    have d0 := drawP_nn ns n (m := (xs.length : Int)) (by omega)
    have d1 := drawP_lt ns n (m := (xs.length : Int)) (by omega)
    have e := List.getElem?_eq_getElem (l := xs) (i := (drawP ns n xs.length).toNat) (by omega)
    exact ⟨_, _, _, _, rfl, rfl, hb _ _ w1.drop1, at_of (Int.toNat_of_nonneg d0).symm e, q H1 _ w1 e⟩
/-! a draw, a pick, with town the i-th entry -/
section
variable {H0 : Hp} {L : List Ent} {a t b : Addr} {ns : List Int} {n : Nat} {m : Int} {xs : List V} {Q : VK} {E : XK} {H : Hp}
theorem draw_at (w : W H0 H L) (i : Nat) (h : L[i]? = some (t, .lst (zeros n))) (sc : Scr K a ns (L.eraseIdx i)) (hn : n ≤ 10000) (hm : 0 < m)
    (k : ∀ H', W H0 H' (L.set i (t, .lst (zeros (n + 1)))) → 0 ≤ drawP ns n m → drawP ns n m < m → Q (.int (drawP ns n m)) H') : xCall (sp_draw K) [.ref a, .ref t, .int m] H Q E := by
  refine st_call ?_
  unfold sp_draw
  exact ⟨a, t, ns, n, m, _, rfl, sc, (w.front i h).now, hn, hm, fun H' v => k H' (w.back i h v) (drawP_nn ns n hm) (drawP_lt ns n hm)⟩
theorem pick_at (w : W H0 H L) (i j : Nat) (h : L[i]? = some (t, .lst (zeros n))) (hb : (L.eraseIdx i)[j]? = some (b, .lst xs)) (sc : Scr K a ns (L.eraseIdx i)) (hn : n ≤ 10000) (hx : xs ≠ [])
    (k : ∀ H' v, W H0 H' (L.set i (t, .lst (zeros (n + 1)))) → xs[(drawP ns n xs.length).toNat]? = some v → v ∈ xs → Q v H') : xCall (sp_pick K) [.ref a, .ref t, .ref b] H Q E := by
  refine st_call ?_
  unfold sp_pick
  exact ⟨a, t, b, ns, n, xs, _, rfl, sc, (w.front i h).now, fun _ _ v => SqL.of (v.get j hb), hn, hx, fun H' v w' e => k H' v (w.back i h w') e (List.mem_of_getElem? e)⟩
end
end
end TR

namespace TR
open PySem L2
/-! ### queues: the tunes by number, the turn -/
structure Qu where
  tunes : List Str
  turn : List Int
structure QA where
  q : Addr
  dx : Addr
  d : Addr
  t : Addr
def insP {α : Type} (xs : List α) (i : Nat) (y : α) : List α := xs.take i ++ [y] ++ xs.drop i
theorem insP_map {α β : Type} (f : α → β) (xs : List α) (i : Nat) (y : α) : (insP xs i y).map f = insP (xs.map f) i (f y) := by
  unfold insP; simp [List.map_take, List.map_drop]
theorem insP_len {α : Type} (xs : List α) (i : Nat) (y : α) : (insP xs i y).length = xs.length + 1 := by
  unfold insP
  simp only [List.length_append, List.length_take, List.length_drop, List.length_cons, List.length_nil]
  omega
theorem insP_perm {α : Type} (xs : List α) (i : Nat) (y : α) : (insP xs i y).Perm (y :: xs) := by
  unfold insP
  have h : (xs.take i ++ [y] ++ xs.drop i).Perm ([y] ++ xs.take i ++ xs.drop i) := List.Perm.append_right _ List.perm_append_comm
  refine h.trans ?_
  rw [List.append_assoc, List.take_append_drop]
  exact List.Perm.refl _
theorem mem_insP {α : Type} {xs : List α} {i : Nat} {y x : α} : x ∈ insP xs i y ↔ x = y ∨ x ∈ xs := by
  rw [(insP_perm xs i y).mem_iff, List.mem_cons]
def Qu.put (s : Qu) (x : Str) (p : Int) : Qu := ⟨s.tunes ++ [x], insP s.turn p.toNat ((s.tunes.length : Int) + 1)⟩
def Qu.rem (s : Qu) (e : Int) : Qu := ⟨s.tunes, s.turn.erase e⟩
def Qu.mov (s : Qu) (e p : Int) : Qu := ⟨s.tunes, insP (s.turn.erase e) p.toNat e⟩
def Qu.tune (s : Qu) (e : Int) : Str := s.tunes.getD (e - 1).toNat ""
/-- how the tunes stand in their dict -/
def tunesF : Nat → List Str → List (Key × V)
  | _, [] => []
  | k, x :: r => (Sum.inl ((k : Int) + 1), .str x) :: tunesF (k + 1) r
abbrev tunesK (ts : List Str) : List (Key × V) := tunesF 0 ts
theorem tunesF_len : ∀ (k : Nat) (ts : List Str), (tunesF k ts).length = ts.length
  | _, [] => rfl
  | k, x :: r => by
    show (tunesF (k + 1) r).length + 1 = r.length + 1
    rw [tunesF_len (k + 1) r]
theorem tunesF_none : ∀ (k : Nat) (ts : List Str) (e : Int), (e ≤ k ∨ (k : Int) + ts.length < e) → valV (tunesF k ts) (Sum.inl e) = none
  | _, [], _, _ => rfl
  | k, x :: r, e, h => by
    have ne : ¬ (Sum.inl ((k : Int) + 1) : Key) = Sum.inl e := fun z => by
      have z' := Sum.inl.inj z
      simp only [List.length_cons] at h
      omega
    rw [show tunesF k (x :: r) = (Sum.inl ((k : Int) + 1), .str x) :: tunesF (k + 1) r from rfl, valV_neg ne]
    refine tunesF_none (k + 1) r e ?_
    simp only [List.length_cons] at h
    omega
theorem tunesF_some : ∀ (k : Nat) (ts : List Str) (e : Int), (k : Int) < e → e ≤ (k : Int) + ts.length → valV (tunesF k ts) (Sum.inl e) = some (.str (ts.getD (e - 1 - k).toNat ""))
  | k, [], e, h1, h2 => by simp only [List.length_nil] at h2; omega
  | k, x :: r, e, h1, h2 => by
    by_cases z : (k : Int) + 1 = e
    · rw [show tunesF k (x :: r) = (Sum.inl ((k : Int) + 1), .str x) :: tunesF (k + 1) r from rfl, valV_pos (by rw [z])]
      rw [show (e - 1 - (k : Int)).toNat = 0 by omega]
      rfl
    · have ne : ¬ (Sum.inl ((k : Int) + 1) : Key) = Sum.inl e := fun q => z (Sum.inl.inj q)
      simp only [List.length_cons] at h2
      rw [show tunesF k (x :: r) = (Sum.inl ((k : Int) + 1), .str x) :: tunesF (k + 1) r from rfl, valV_neg ne, tunesF_some (k + 1) r e (by omega) (by omega)]
      rw [show (e - 1 - (k : Int)).toNat = (e - 1 - ((k + 1 : Nat) : Int)).toNat + 1 by omega]
      rfl
theorem tunesF_snoc : ∀ (k : Nat) (ts : List Str) (x : Str), tunesF k (ts ++ [x]) = tunesF k ts ++ [(Sum.inl ((k : Int) + ts.length + 1), .str x)]
  | k, [], x => by simp [tunesF]
  | k, y :: r, x => by
    show (Sum.inl ((k : Int) + 1), V.str y) :: tunesF (k + 1) (r ++ [x]) = _
    have e : ((k + 1 : Nat) : Int) + (r.length : Int) + 1 = (k : Int) + ((y :: r).length : Int) + 1 := by
      rw [List.length_cons]; push_cast; omega
    rw [tunesF_snoc (k + 1) r x, e]
    rfl
theorem tunesK_put (ts : List Str) (x : Str) : putK (tunesK ts) (Sum.inl ((ts.length : Int) + 1)) (.str x) = tunesK (ts ++ [x]) := by
  rw [putK_new _ (tunesF_none 0 ts _ (by omega))]
  show _ = tunesF 0 (ts ++ [x])
  rw [tunesF_snoc]
  simp
theorem Qu.val_some (s : Qu) {e : Int} (h : 1 ≤ e ∧ e ≤ s.tunes.length) : valV (tunesK s.tunes) (Sum.inl e) = some (.str (s.tune e)) := by
  rw [tunesF_some 0 s.tunes e (by omega) (by omega)]
  unfold Qu.tune
  simp
theorem Qu.val_none (s : Qu) {e : Int} (h : ¬ (1 ≤ e ∧ e ≤ s.tunes.length)) : valV (tunesK s.tunes) (Sum.inl e) = none := tunesF_none 0 s.tunes e (by omega)
/-- what holds of a queue -/
structure Qu.Ok (s : Qu) : Prop where
  nd : s.turn.Nodup
  bd : ∀ e ∈ s.turn, 1 ≤ e ∧ e ≤ s.tunes.length
  sz : s.turn.length ≤ 12
  tz : s.tunes.length ≤ 1000
def qL (A : Ads) (a : QA) (s : Qu) : List Ent := [(a.q, .ins A.c_Queue a.dx (fl_Queue (.ref a.d) (.ref a.t) (.int s.tunes.length))), (a.d, .dK (tunesK s.tunes)), (a.t, .lst (s.turn.map V.int))]
theorem Qu.Ok.put {s : Qu} (h : s.Ok) (x : Str) {p : Int} (h2 : s.turn.length ≠ 12) (h3 : s.tunes.length < 1000) : (s.put x p).Ok := by
  have hs := h.sz
  refine ⟨?_, ?_, ?_, ?_⟩
  · show (insP s.turn p.toNat _).Nodup
    rw [(insP_perm _ _ _).nodup_iff]
    exact List.nodup_cons.mpr ⟨fun m => by have := h.bd _ m; omega, h.nd⟩
  · intro e he
    show 1 ≤ e ∧ e ≤ ((s.tunes ++ [x]).length : Int)
    rw [List.length_append, List.length_singleton]
    rcases mem_insP.mp he with rfl | he
    · exact ⟨by omega, by push_cast; omega⟩
    · have := h.bd e he
      exact ⟨this.1, by push_cast; omega⟩
  · show (insP s.turn p.toNat _).length ≤ 12
    rw [insP_len]
    omega
  · show (s.tunes ++ [x]).length ≤ 1000
    rw [List.length_append, List.length_singleton]
    omega
theorem Qu.Ok.rem {s : Qu} (h : s.Ok) (e : Int) : (s.rem e).Ok :=
  ⟨h.nd.erase e, fun x hx => h.bd x (List.mem_of_mem_erase hx), Nat.le_trans (List.length_erase_le) h.sz, h.tz⟩
theorem Qu.Ok.mov {s : Qu} (h : s.Ok) {e p : Int} (he : e ∈ s.turn) : (s.mov e p).Ok := by
  refine ⟨?_, ?_, ?_, h.tz⟩
  · show (insP _ _ _).Nodup
    rw [(insP_perm _ _ _).nodup_iff]
    exact List.nodup_cons.mpr ⟨fun m => ((List.Nodup.mem_erase_iff h.nd).mp m).1 rfl, h.nd.erase e⟩
  · intro x hx
    rcases mem_insP.mp hx with rfl | hx
    · exact h.bd _ he
    · exact h.bd x (List.mem_of_mem_erase hx)
  · show (insP _ _ _).length ≤ 12
    rw [insP_len, List.length_erase_of_mem he]
    have := h.sz
    have := List.length_pos_of_mem he
    omega
@[irreducible] def sp_Queue_init (A : Ads) : Sp := fun vs H Q _ => ∃ (q dx : Addr) (R : List Ent), vs = [.ref q] ∧ W H H ((q, .ins A.c_Queue dx []) :: R) ∧ ∀ H' d t, W H H' (qL A ⟨q, dx, d, t⟩ ⟨[], []⟩ ++ R) → Q .non H'
theorem of_Queue_init {A : Ads} {vs : List V} {H : Hp} {Q : VK} {E : XK} (h :  ∃ (q dx : Addr) (R : List Ent), vs = [.ref q] ∧ W H H ((q, .ins A.c_Queue dx []) :: R) ∧ ∀ H' d t, W H H' (qL A ⟨q, dx, d, t⟩ ⟨[], []⟩ ++ R) → Q .non H') : sp_Queue_init A vs H Q E := by unfold sp_Queue_init; exact h
@[irreducible] def sp_Queue_entries (A : Ads) : Sp := fun vs H Q _ => ∃ (a : QA) (s : Qu) (R : List Ent), vs = [.ref a.q] ∧ W H H (qL A a s ++ R) ∧ ∀ H' l, W H H' ((l, .lst (s.turn.map V.int)) :: (qL A a s ++ R)) → Q (.ref l) H'
theorem of_Queue_entries {A : Ads} {vs : List V} {H : Hp} {Q : VK} {E : XK} (h :  ∃ (a : QA) (s : Qu) (R : List Ent), vs = [.ref a.q] ∧ W H H (qL A a s ++ R) ∧ ∀ H' l, W H H' ((l, .lst (s.turn.map V.int)) :: (qL A a s ++ R)) → Q (.ref l) H') : sp_Queue_entries A vs H Q E := by unfold sp_Queue_entries; exact h
@[irreducible] def sp_Queue_need (A : Ads) : Sp := fun vs H Q E => ∃ (a : QA) (s : Qu) (e : Int) (R : List Ent), vs = [.ref a.q, .int e] ∧ W H H (qL A a s ++ R) ∧ (e ∈ s.turn → Q .non H) ∧ (e ∉ s.turn → E (.ref A.c_BadEntry) none H)
theorem of_Queue_need {A : Ads} {vs : List V} {H : Hp} {Q : VK} {E : XK} (h :  ∃ (a : QA) (s : Qu) (e : Int) (R : List Ent), vs = [.ref a.q, .int e] ∧ W H H (qL A a s ++ R) ∧ (e ∈ s.turn → Q .non H) ∧ (e ∉ s.turn → E (.ref A.c_BadEntry) none H)) : sp_Queue_need A vs H Q E := by unfold sp_Queue_need; exact h
@[irreducible] def sp_Queue_tune (A : Ads) : Sp := fun vs H Q E => ∃ (a : QA) (s : Qu) (e : Int) (R : List Ent), vs = [.ref a.q, .int e] ∧ W H H (qL A a s ++ R) ∧ (1 ≤ e ∧ e ≤ s.tunes.length → Q (.str (s.tune e)) H) ∧ (¬ (1 ≤ e ∧ e ≤ s.tunes.length) → E (.ref A.c_BadEntry) none H)
theorem of_Queue_tune {A : Ads} {vs : List V} {H : Hp} {Q : VK} {E : XK} (h :  ∃ (a : QA) (s : Qu) (e : Int) (R : List Ent), vs = [.ref a.q, .int e] ∧ W H H (qL A a s ++ R) ∧ (1 ≤ e ∧ e ≤ s.tunes.length → Q (.str (s.tune e)) H) ∧ (¬ (1 ≤ e ∧ e ≤ s.tunes.length) → E (.ref A.c_BadEntry) none H)) : sp_Queue_tune A vs H Q E := by unfold sp_Queue_tune; exact h
@[irreducible] def sp_Queue_put (A : Ads) : Sp := fun vs H Q E => ∃ (a : QA) (s : Qu) (x : Str) (p : Int) (R : List Ent), vs = [.ref a.q, .str x, .int p] ∧ W H H (qL A a s ++ R) ∧ s.Ok ∧ s.tunes.length < 1000 ∧
  (0 ≤ p ∧ p ≤ s.turn.length ∧ s.turn.length ≠ 12 → ∀ H', W H H' (qL A a (s.put x p) ++ R) → Q (.int ((s.tunes.length : Int) + 1)) H') ∧ (¬ (0 ≤ p ∧ p ≤ s.turn.length ∧ s.turn.length ≠ 12) → E (.ref A.c_BadNumber) none H)
theorem of_Queue_put {A : Ads} {vs : List V} {H : Hp} {Q : VK} {E : XK} (h :  ∃ (a : QA) (s : Qu) (x : Str) (p : Int) (R : List Ent), vs = [.ref a.q, .str x, .int p] ∧ W H H (qL A a s ++ R) ∧ s.Ok ∧ s.tunes.length < 1000 ∧
  (0 ≤ p ∧ p ≤ s.turn.length ∧ s.turn.length ≠ 12 → ∀ H', W H H' (qL A a (s.put x p) ++ R) → Q (.int ((s.tunes.length : Int) + 1)) H') ∧ (¬ (0 ≤ p ∧ p ≤ s.turn.length ∧ s.turn.length ≠ 12) → E (.ref A.c_BadNumber) none H)) : sp_Queue_put A vs H Q E := by unfold sp_Queue_put; exact h
@[irreducible] def sp_Queue_remove (A : Ads) : Sp := fun vs H Q E => ∃ (a : QA) (s : Qu) (e : Int) (R : List Ent), vs = [.ref a.q, .int e] ∧ W H H (qL A a s ++ R) ∧ (e ∈ s.turn → ∀ H', W H H' (qL A a (s.rem e) ++ R) → Q .non H') ∧ (e ∉ s.turn → E (.ref A.c_BadEntry) none H)
theorem of_Queue_remove {A : Ads} {vs : List V} {H : Hp} {Q : VK} {E : XK} (h :  ∃ (a : QA) (s : Qu) (e : Int) (R : List Ent), vs = [.ref a.q, .int e] ∧ W H H (qL A a s ++ R) ∧ (e ∈ s.turn → ∀ H', W H H' (qL A a (s.rem e) ++ R) → Q .non H') ∧ (e ∉ s.turn → E (.ref A.c_BadEntry) none H)) : sp_Queue_remove A vs H Q E := by unfold sp_Queue_remove; exact h
@[irreducible] def sp_Queue_move (A : Ads) : Sp := fun vs H Q E => ∃ (a : QA) (s : Qu) (e p : Int) (R : List Ent), vs = [.ref a.q, .int e, .int p] ∧ W H H (qL A a s ++ R) ∧ s.Ok ∧
  (e ∈ s.turn → 0 ≤ p ∧ p < s.turn.length → ∀ H', W H H' (qL A a (s.mov e p) ++ R) → Q .non H') ∧ (e ∉ s.turn → E (.ref A.c_BadEntry) none H) ∧ (e ∈ s.turn → ¬ (0 ≤ p ∧ p < s.turn.length) → E (.ref A.c_BadNumber) none H)
theorem of_Queue_move {A : Ads} {vs : List V} {H : Hp} {Q : VK} {E : XK} (h :  ∃ (a : QA) (s : Qu) (e p : Int) (R : List Ent), vs = [.ref a.q, .int e, .int p] ∧ W H H (qL A a s ++ R) ∧ s.Ok ∧
  (e ∈ s.turn → 0 ≤ p ∧ p < s.turn.length → ∀ H', W H H' (qL A a (s.mov e p) ++ R) → Q .non H') ∧ (e ∉ s.turn → E (.ref A.c_BadEntry) none H) ∧ (e ∈ s.turn → ¬ (0 ≤ p ∧ p < s.turn.length) → E (.ref A.c_BadNumber) none H)) : sp_Queue_move A vs H Q E := by unfold sp_Queue_move; exact h
@[irreducible] def sp_Queue_place (A : Ads) : Sp := fun vs H Q E => ∃ (a : QA) (s : Qu) (e : Int) (R : List Ent), vs = [.ref a.q, .int e] ∧ W H H (qL A a s ++ R) ∧ (e ∈ s.turn → Q (.int (s.turn.idxOf e)) H) ∧ (e ∉ s.turn → E (.ref A.c_BadEntry) none H)
theorem of_Queue_place {A : Ads} {vs : List V} {H : Hp} {Q : VK} {E : XK} (h :  ∃ (a : QA) (s : Qu) (e : Int) (R : List Ent), vs = [.ref a.q, .int e] ∧ W H H (qL A a s ++ R) ∧ (e ∈ s.turn → Q (.int (s.turn.idxOf e)) H) ∧ (e ∉ s.turn → E (.ref A.c_BadEntry) none H)) : sp_Queue_place A vs H Q E := by unfold sp_Queue_place; exact h
theorem len_ints (ns : List Int) : ((ns.map V.int).length : Int) = (ns.length : Int) := by rw [List.length_map]
section
variable {P : Program} {w : World} {K : PySem.W.Frag} {mg : Str → Option Value} {base : Heap} {A : Ads}
theorem ok_Queue_init__ (T : Txt K mg A) : FnOk P w K mg base (L2.CX P w) 1 A.f_Queue_init__ A.d_Queue_init__ P_Queue_init__ (sp_Queue_init A) := by
  refine T.F_Queue_init__.okX sc_Queue_init__ (fun vs H Q E h => ?_) (fun cdv Ar outer s H vs Q E hr h => ?_)
  · unfold sp_Queue_init at h; obtain ⟨q, dx, R, rfl, _⟩ := h; rfl
  · unfold sp_Queue_init at h; obtain ⟨q, dx, R, rfl, w, k⟩ := h
    refine ⟨_, (pss_cons (my_fld (pv 0) my_dnew)
      (pss_cons (my_fld (pv 0) (my_lst pa_nil))
      (pss_one (my_fld (pv 0) pe_int)))), ?_⟩
    refine st_new w fun d H1 w1 => ?_
    walk_at "rd"
    refine st_fld w1 1 rfl T.c_Queue T.n_Queue_tunes (by decide) fun H2 w2 => ?_
    walk_at "rd"
    refine st_new w2 fun t H3 w3 => ?_
    walk_at "rd"
    refine st_fld w3 2 rfl T.c_Queue T.n_Queue_turn (by show 1 < 1000; decide) fun H4 w4 => ?_
    walk_at "rd"
    refine st_fld w4 2 rfl T.c_Queue T.n_Queue_last (by show 2 < 1000; decide) fun H5 w5 => ?_
    exact k H5 d t ((w5.rot 1 2).rot 1 1)
theorem ok_Queue_entries (T : Txt K mg A) : FnOk P w K mg base (L2.CX P w) 1 A.f_Queue_entries A.d_Queue_entries P_Queue_entries (sp_Queue_entries A) := by
  refine T.F_Queue_entries.okX sc_Queue_entries (fun vs H Q E h => ?_) (fun cdv Ar outer s H vs Q E hr h => ?_)
  · unfold sp_Queue_entries at h; obtain ⟨a, s, R, rfl, _⟩ := h; rfl
  · unfold sp_Queue_entries at h; obtain ⟨a, s, R, rfl, w, k⟩ := h
    refine ⟨_, (pss_one (ps_ret (pe_callTy my_listOf (by rfl) T.z_list (by decide +kernel) (pa_cons (pe_fld (pv 0) rfl) pa_nil)))), ?_⟩
    walk_at "rd"
    exact st_new w fun l H1 w1 => k H1 l w1
theorem ok_Queue_need (T : Txt K mg A) : FnOk P w K mg base (L2.CX P w) 1 A.f_Queue_need A.d_Queue_need P_Queue_need (sp_Queue_need A) := by
  refine T.F_Queue_need.okX sc_Queue_need (fun vs H Q E h => ?_) (fun cdv Ar outer s H vs Q E hr h => ?_)
  · unfold sp_Queue_need at h; obtain ⟨a, s, e, R, rfl, _⟩ := h; rfl
  · unfold sp_Queue_need at h; obtain ⟨a, s, e, R, rfl, w, k1, k2⟩ := h
    refine ⟨_, (pss_one (my_if (pt_cmpR op_notIn_seq (pv 1) (pe_fld (pv 0) rfl) (by rfl))
        (pss_one (ps_raise rfl takesE (pmk_own PySem.F.excBase_ValueError T.x_BadEntry T.g_BadEntry T.k_BadEntry (raises_own T.r_BadEntry T.t_BadEntry) (by rfl))))
        pss_nil)), ?_⟩
    walk_at "rd"
    refine xIf_2 (fun h => k2 ?_) (fun h => k1 ?_)
    · simpa [inV_ints] using h
    · simpa [inV_ints] using h
theorem ok_Queue_tune (T : Txt K mg A) : FnOk P w K mg base (L2.CX P w) 1 A.f_Queue_tune A.d_Queue_tune P_Queue_tune (sp_Queue_tune A) := by
  refine T.F_Queue_tune.okX sc_Queue_tune (fun vs H Q E h => ?_) (fun cdv Ar outer s H vs Q E hr h => ?_)
  · unfold sp_Queue_tune at h; obtain ⟨a, s, e, R, rfl, _⟩ := h; rfl
  · unfold sp_Queue_tune at h; obtain ⟨a, s, e, R, rfl, w, k1, k2⟩ := h
    refine ⟨_, (pss_cons (my_if (pt_cmp (pc_dnotin (hu_of hr) (pv 1) (pe_fld (pv 0) rfl)) (by rfl))
        (pss_one (ps_raise rfl takesE (pmk_own PySem.F.excBase_ValueError T.x_BadEntry T.g_BadEntry T.k_BadEntry (raises_own T.r_BadEntry T.t_BadEntry) (by rfl))))
        pss_nil)
      (pss_one (ps_ret (pe_dget (hu_of hr) (pe_fld (pv 0) rfl) (pv 1) (fun _ _ => rfl))))), ?_⟩
    walk_at "rd"
    by_cases he : 1 ≤ e ∧ e ≤ s.tunes.length
    · have hv := s.val_some he
      refine xIf_F (by rw [hv]; rfl) ?_
      walk_at "rd"
      refine ⟨by rw [← hv]; exact DGet.k (k := Sum.inl e) (w.get 1 rfl), k1 he⟩
    · have hv := s.val_none he
      exact xIf_T (by rw [hv]; rfl) (k2 he)
theorem ok_Queue_put (T : Txt K mg A) : FnOk P w K mg base (L2.CX P w) 1 A.f_Queue_put A.d_Queue_put P_Queue_put (sp_Queue_put A) := by
  refine T.F_Queue_put.okX sc_Queue_put (fun vs H Q E h => ?_) (fun cdv Ar outer s H vs Q E hr h => ?_)
  · unfold sp_Queue_put at h; obtain ⟨a, s, x, p, R, rfl, _⟩ := h; rfl
  · unfold sp_Queue_put at h; obtain ⟨a, s, x, p, R, rfl, w, ok, hz, k1, k2⟩ := h
    refine ⟨_, (pss_cons (my_if (PW.pt (my_or (pt_not (my_chIT op_le op_le pe_int (pv 2) (pe_callB my_lenQ (by rfl) T.z_len PySem.boot_len (pa_cons (pe_fld (pv 0) rfl) pa_nil)) still_c still_v (still_len (still_fld still_v)))) (pw_or1 (pt_cmpR op_eq (pe_callB my_lenQ (by rfl) T.z_len PySem.boot_len (pa_cons (pe_fld (pv 0) rfl) pa_nil)) (my_globI T.gi_MOST_ENTRIES (by rfl)) (nomark _)))))
        (pss_one (ps_raise rfl takesE (pmk_own PySem.F.excBase_ValueError T.x_BadNumber T.g_BadNumber T.k_BadNumber (raises_own T.r_BadNumber T.t_BadNumber) (by rfl))))
        pss_nil)
      (pss_cons (my_fld (pv 0) (pe_op op_add (pe_fld (pv 0) rfl) pe_int))
      (pss_cons (my_dput (hu_of hr) (pe_fld (pv 0) rfl) (pe_fld (pv 0) rfl) (pv 1))
      (pss_cons (ps_expr (pe_bm PySem.F.plainAttrs_list PySem.F.slot_list_insert PySem.F.type_list_insert my_insert (pe_fld (pv 0) rfl) (pa_cons (pv 2) (pa_cons (pe_fld (pv 0) rfl) pa_nil))))
      (pss_one (ps_ret (pe_fld (pv 0) rfl))))))), ?_⟩
    have hsz := ok.sz
    walk_at "rd"
    refine xIf_2 (fun h => ?_) (fun h => ?_)
    · refine xIf_T rfl (k2 fun z => ?_)
      simp [z] at h
    · have h1 : 0 ≤ p ∧ p ≤ s.turn.length := by simpa using h
      walk_at "rd"
      refine xIf_2 (fun h => ?_) (fun h => ?_)
      · refine k2 fun z => ?_
        have : (s.turn.length : Int) = 12 := by simpa using h
        omega
      · have h2 : s.turn.length ≠ 12 := fun z => by simp [z] at h
        walk_at "rd"
        refine sf_Queue_last T w 0 rfl fun H1 w1 => ?_
        walk_at "rd"
        refine st_dput w1 1 (key := Sum.inl _) rfl rfl (by rw [tunesF_len]; exact szL (by omega)) fun H2 w2 => ?_
        walk_at "rd"
        refine st_ins w2 2 rfl (by walk_at "sz") h1.1 (by omega) fun H3 w3 => ?_
        walk_at "rd"
        rw [tunesK_put] at w3
        refine k1 ⟨h1.1, h1.2, h2⟩ H3 ?_
        have e : (insP s.turn p.toNat ((s.tunes.length : Int) + 1)).map V.int = (s.turn.map V.int).take p.toNat ++ [V.int ((s.tunes.length : Int) + 1)] ++ (s.turn.map V.int).drop p.toNat := insP_map _ _ _ _
        rw [← e] at w3
        have e2 : (((s.tunes ++ [x]).length : Nat) : Int) = (s.tunes.length : Int) + 1 := by rw [List.length_append, List.length_singleton]; push_cast; rfl
        unfold qL Qu.put
        rw [e2]
        exact w3
theorem ok_Queue_remove (T : Txt K mg A) : FnOk P w K mg base (L2.CX P w) 2 A.f_Queue_remove A.d_Queue_remove P_Queue_remove (sp_Queue_remove A) := by
  refine T.F_Queue_remove.okX sc_Queue_remove (fun vs H Q E h => ?_) (fun cdv Ar outer s H vs Q E hr h => ?_)
  · unfold sp_Queue_remove at h; obtain ⟨a, s, e, R, rfl, _⟩ := h; rfl
  · unfold sp_Queue_remove at h; obtain ⟨a, s, e, R, rfl, w, k1, k2⟩ := h
    refine ⟨_, (pss_cons (ps_expr (my_meth (pv 0) T.c_Queue T.m_Queue_need (ok_Queue_need T) (hr.mono (by decide)) T.b_Queue_need passE (pa_cons (pv 1) pa_nil)))
      (pss_one (ps_expr (pe_bm PySem.F.plainAttrs_list PySem.F.slot_list_remove PySem.F.type_list_remove my_remove (pe_fld (pv 0) rfl) (pa_cons (pv 1) pa_nil))))), ?_⟩
    walk_at "rd"
    refine st_call ?_
    unfold sp_Queue_need
    refine ⟨a, s, e, R, rfl, w, fun he => ?_, k2⟩
    walk_at "rd"
    exact st_rem w 2 rfl he fun H1 w1 => k1 he H1 w1
theorem ok_Queue_move (T : Txt K mg A) : FnOk P w K mg base (L2.CX P w) 2 A.f_Queue_move A.d_Queue_move P_Queue_move (sp_Queue_move A) := by
  refine T.F_Queue_move.okX sc_Queue_move (fun vs H Q E h => ?_) (fun cdv Ar outer s H vs Q E hr h => ?_)
  · unfold sp_Queue_move at h; obtain ⟨a, s, e, p, R, rfl, _⟩ := h; rfl
  · unfold sp_Queue_move at h; obtain ⟨a, s, e, p, R, rfl, w, ok, k1, k2, k3⟩ := h
    refine ⟨_, (pss_cons (ps_expr (my_meth (pv 0) T.c_Queue T.m_Queue_need (ok_Queue_need T) (hr.mono (by decide)) T.b_Queue_need passE (pa_cons (pv 1) pa_nil)))
      (pss_cons (my_if (pt_not (my_chIT op_le op_lt pe_int (pv 2) (pe_callB my_lenQ (by rfl) T.z_len PySem.boot_len (pa_cons (pe_fld (pv 0) rfl) pa_nil)) still_c still_v (still_len (still_fld still_v))))
        (pss_one (ps_raise rfl takesE (pmk_own PySem.F.excBase_ValueError T.x_BadNumber T.g_BadNumber T.k_BadNumber (raises_own T.r_BadNumber T.t_BadNumber) (by rfl))))
        pss_nil)
      (pss_cons (ps_expr (pe_bm PySem.F.plainAttrs_list PySem.F.slot_list_remove PySem.F.type_list_remove my_remove (pe_fld (pv 0) rfl) (pa_cons (pv 1) pa_nil)))
      (pss_one (ps_expr (pe_bm PySem.F.plainAttrs_list PySem.F.slot_list_insert PySem.F.type_list_insert my_insert (pe_fld (pv 0) rfl) (pa_cons (pv 2) (pa_cons (pv 1) pa_nil)))))))), ?_⟩
    have hsz := ok.sz
    walk_at "rd"
    refine st_call ?_
    unfold sp_Queue_need
    refine ⟨a, s, e, R, rfl, w, fun he => ?_, k2⟩
    walk_at "rd"
    refine xIf_2 (fun h => k3 he fun z => ?_) (fun h => ?_)
    · simp [z] at h
    · have h1 : 0 ≤ p ∧ p < s.turn.length := by simpa using h
      walk_at "rd"
      refine st_rem w 2 rfl he fun H1 w1 => ?_
      walk_at "rd"
      have hl := List.length_erase_le (a := e) (l := s.turn)
      refine st_ins w1 2 rfl (by walk_at "sz") h1.1 (by omega) fun H2 w2 => ?_
      have e1 : (insP (s.turn.erase e) p.toNat e).map V.int = ((s.turn.erase e).map V.int).take p.toNat ++ [V.int e] ++ ((s.turn.erase e).map V.int).drop p.toNat := insP_map _ _ _ _
      rw [← e1] at w2
      exact k1 he h1 H2 w2
theorem ok_Queue_place (T : Txt K mg A) : FnOk P w K mg base (L2.CX P w) 2 A.f_Queue_place A.d_Queue_place P_Queue_place (sp_Queue_place A) := by
  refine T.F_Queue_place.okX sc_Queue_place (fun vs H Q E h => ?_) (fun cdv Ar outer s H vs Q E hr h => ?_)
  · unfold sp_Queue_place at h; obtain ⟨a, s, e, R, rfl, _⟩ := h; rfl
  · unfold sp_Queue_place at h; obtain ⟨a, s, e, R, rfl, w, k1, k2⟩ := h
    refine ⟨_, (pss_cons (ps_expr (my_meth (pv 0) T.c_Queue T.m_Queue_need (ok_Queue_need T) (hr.mono (by decide)) T.b_Queue_need passE (pa_cons (pv 1) pa_nil)))
      (pss_one (ps_ret (pe_bm PySem.F.plainAttrs_list PySem.F.slot_list_index PySem.F.type_list_index my_index (pe_fld (pv 0) rfl) (pa_cons (pv 1) pa_nil))))), ?_⟩
    walk_at "rd"
    refine st_call ?_
    unfold sp_Queue_need
    refine ⟨a, s, e, R, rfl, w, fun he => ?_, k2⟩
    walk_at "rd"
    exact st_idxI (SqL.of (w.get 2 rfl)) he (k1 he)
end
end TR

namespace TR
open PySem L2
/-! ### dice -/
def dN (n : Int) : Int := (106 * n + 1283) % 6075
theorem dN_bd (n : Int) : 0 ≤ dN n ∧ dN n < 6075 := ⟨Int.emod_nonneg _ (by decide), Int.emod_lt_of_pos _ (by decide)⟩
def dB (n m : Int) : Int := dN n * m / 6075
theorem dB_bd (n : Int) {m : Int} (hm : 0 < m) : 0 ≤ dB n m ∧ dB n m < m := by
  have h := dN_bd n
  refine ⟨Int.ediv_nonneg (Int.mul_nonneg h.1 (by omega)) (by decide), Int.ediv_lt_of_lt_mul (by decide) ?_⟩
  rw [Int.mul_comm m 6075]
  exact Int.mul_lt_mul_of_pos_right h.2 hm
/-- two things change places -/
def swp {α : Type} (xs : List α) (i j : Nat) : List α := match xs[i]?, xs[j]? with
  | some a, some b => (xs.set i b).set j a
  | _, _ => xs
theorem swp_eq {α : Type} {xs : List α} {i j : Nat} {a b : α} (ha : xs[i]? = some a) (hb : xs[j]? = some b) : swp xs i j = (xs.set i b).set j a := by
  unfold swp; rw [ha, hb]
/-- a row mixed: from place k down; the dice's number with it -/
def mixG {α : Type} (k : Nat) (n : Int) (xs : List α) : Int × List α := match k with
  | 0 => (n, xs)
  | k + 1 => mixG k (dN n) (swp xs (k + 1) (dB n ((k : Int) + 2)).toNat)
def mixL {α : Type} (n : Int) (xs : List α) : Int × List α := mixG (xs.length - 1) n xs
@[irreducible] def sp_Dice_init (A : Ads) : Sp := fun vs H Q E => ∃ (p dx : Addr) (n : Int) (R : List Ent), vs = [.ref p, .int n] ∧ W H H ((p, .ins A.c_Dice dx []) :: R) ∧
  (0 ≤ n ∧ n < 6075 → ∀ H', W H H' ((p, .ins A.c_Dice dx (fl_Dice (.int n))) :: R) → Q .non H') ∧ (¬ (0 ≤ n ∧ n < 6075) → E (.ref A.c_BadNumber) none H)
theorem of_Dice_init {A : Ads} {vs : List V} {H : Hp} {Q : VK} {E : XK} (h :  ∃ (p dx : Addr) (n : Int) (R : List Ent), vs = [.ref p, .int n] ∧ W H H ((p, .ins A.c_Dice dx []) :: R) ∧
  (0 ≤ n ∧ n < 6075 → ∀ H', W H H' ((p, .ins A.c_Dice dx (fl_Dice (.int n))) :: R) → Q .non H') ∧ (¬ (0 ≤ n ∧ n < 6075) → E (.ref A.c_BadNumber) none H)) : sp_Dice_init A vs H Q E := by unfold sp_Dice_init; exact h
@[irreducible] def sp_Dice_below (A : Ads) : Sp := fun vs H Q E => ∃ (p dx : Addr) (n m : Int) (R : List Ent), vs = [.ref p, .int m] ∧ W H H ((p, .ins A.c_Dice dx (fl_Dice (.int n))) :: R) ∧ (0 ≤ n ∧ n < 6075) ∧
  (1 ≤ m ∧ m ≤ 60 → ∀ H', W H H' ((p, .ins A.c_Dice dx (fl_Dice (.int (dN n)))) :: R) → Q (.int (dB n m)) H') ∧ (¬ (1 ≤ m ∧ m ≤ 60) → E (.ref A.c_BadNumber) none H)
theorem of_Dice_below {A : Ads} {vs : List V} {H : Hp} {Q : VK} {E : XK} (h :  ∃ (p dx : Addr) (n m : Int) (R : List Ent), vs = [.ref p, .int m] ∧ W H H ((p, .ins A.c_Dice dx (fl_Dice (.int n))) :: R) ∧ (0 ≤ n ∧ n < 6075) ∧
  (1 ≤ m ∧ m ≤ 60 → ∀ H', W H H' ((p, .ins A.c_Dice dx (fl_Dice (.int (dN n)))) :: R) → Q (.int (dB n m)) H') ∧ (¬ (1 ≤ m ∧ m ≤ 60) → E (.ref A.c_BadNumber) none H)) : sp_Dice_below A vs H Q E := by unfold sp_Dice_below; exact h
/-- the list handed in stands in R; a new list comes -/
@[irreducible] def sp_mixed (A : Ads) (K : PySem.W.Frag) : Sp := fun vs H Q _ => ∃ (p dx b : Addr) (n : Int) (xs : List V) (R : List Ent), vs = [.ref p, .ref b] ∧ W H H ((p, .ins A.c_Dice dx (fl_Dice (.int n))) :: R) ∧ (0 ≤ n ∧ n < 6075) ∧ (∀ H0 H', W H0 H' R → SqL K H' b xs) ∧ xs.length ≤ 50 ∧
  ∀ H' l, W H H' ((l, .lst (mixL n xs).2) :: (p, .ins A.c_Dice dx (fl_Dice (.int (mixL n xs).1))) :: R) → Q (.ref l) H'
theorem of_mixed {A : Ads} {K : PySem.W.Frag} {vs : List V} {H : Hp} {Q : VK} {E : XK} (h :  ∃ (p dx b : Addr) (n : Int) (xs : List V) (R : List Ent), vs = [.ref p, .ref b] ∧ W H H ((p, .ins A.c_Dice dx (fl_Dice (.int n))) :: R) ∧ (0 ≤ n ∧ n < 6075) ∧ (∀ H0 H', W H0 H' R → SqL K H' b xs) ∧ xs.length ≤ 50 ∧
  ∀ H' l, W H H' ((l, .lst (mixL n xs).2) :: (p, .ins A.c_Dice dx (fl_Dice (.int (mixL n xs).1))) :: R) → Q (.ref l) H') : sp_mixed A K vs H Q E := by unfold sp_mixed; exact h
theorem mixG_bd {α : Type} : ∀ (k : Nat) (n : Int) (xs : List α), 0 ≤ n ∧ n < 6075 → (0 ≤ (mixG k n xs).1 ∧ (mixG k n xs).1 < 6075)
  | 0, n, xs, h => h
  | k + 1, n, xs, _ => mixG_bd k _ _ (dN_bd n)
theorem swp_len {α : Type} (xs : List α) (i j : Nat) : (swp xs i j).length = xs.length := by
  unfold swp; split <;> simp
theorem swp_map {α β : Type} (f : α → β) (xs : List α) (i j : Nat) : swp (xs.map f) i j = (swp xs i j).map f := by
  unfold swp
  simp only [List.getElem?_map]
  cases xs[i]? <;> cases xs[j]? <;> simp
theorem mixG_len {α : Type} : ∀ (k : Nat) (n : Int) (xs : List α), (mixG k n xs).2.length = xs.length
  | 0, n, xs => rfl
  | k + 1, n, xs => by
    unfold mixG
    rw [mixG_len k, swp_len]
theorem mixL_len {α : Type} (n : Int) (xs : List α) : (mixL n xs).2.length = xs.length := mixG_len _ _ _
theorem mixL_bd {α : Type} (n : Int) (xs : List α) (h : 0 ≤ n ∧ n < 6075) : 0 ≤ (mixL n xs).1 ∧ (mixL n xs).1 < 6075 := mixG_bd _ _ _ h
theorem mixG_map {α β : Type} (f : α → β) : ∀ (k : Nat) (n : Int) (xs : List α), mixG k n (xs.map f) = ((mixG k n xs).1, (mixG k n xs).2.map f)
  | 0, n, xs => rfl
  | k + 1, n, xs => by
    unfold mixG
    rw [swp_map, mixG_map f k]
theorem mixL_map {α β : Type} (f : α → β) (n : Int) (xs : List α) : mixL n (xs.map f) = ((mixL n xs).1, (mixL n xs).2.map f) := by
  unfold mixL
  rw [List.length_map, mixG_map]
theorem swap_perm {α : Type} {l : List α} {i j : Nat} {a b : α} (ha : l[i]? = some a) (hb : l[j]? = some b) : ((l.set i b).set j a).Perm l := by
  obtain ⟨hi, ea⟩ := List.getElem?_eq_some_iff.mp ha
  obtain ⟨hj, eb⟩ := List.getElem?_eq_some_iff.mp hb
  subst ea eb
  exact List.set_set_perm hi hj
theorem swp_perm {α : Type} (xs : List α) (i j : Nat) : (swp xs i j).Perm xs := by
  unfold swp
  split
  · rename_i a b ha hb
    exact swap_perm ha hb
  · exact List.Perm.refl _
theorem mixG_perm {α : Type} : ∀ (k : Nat) (n : Int) (xs : List α), (mixG k n xs).2.Perm xs
  | 0, n, xs => List.Perm.refl _
  | k + 1, n, xs => by
    unfold mixG
    exact (mixG_perm k _ _).trans (swp_perm _ _ _)
theorem mixL_perm {α : Type} (n : Int) (xs : List α) : (mixL n xs).2.Perm xs := mixG_perm _ _ _
section
variable {P : Program} {w : World} {K : PySem.W.Frag} {mg : Str → Option Value} {base : Heap} {A : Ads}
theorem ok_Dice_init__ (T : Txt K mg A) : FnOk P w K mg base (L2.CX P w) 1 A.f_Dice_init__ A.d_Dice_init__ P_Dice_init__ (sp_Dice_init A) := by
  refine T.F_Dice_init__.okX sc_Dice_init__ (fun vs H Q E h => ?_) (fun cdv Ar outer s H vs Q E hr h => ?_)
  · unfold sp_Dice_init at h; obtain ⟨p, dx, n, R, rfl, _⟩ := h; rfl
  · unfold sp_Dice_init at h; obtain ⟨p, dx, n, R, rfl, w, k1, k2⟩ := h
    refine ⟨_, (pss_cons (my_if (pt_not (my_chIT op_le op_lt pe_int (pv 1) (my_globI T.gi_WHEEL (by rfl)) still_c still_v still_c))
        (pss_one (ps_raise rfl takesE (pmk_own PySem.F.excBase_ValueError T.x_BadNumber T.g_BadNumber T.k_BadNumber (raises_own T.r_BadNumber T.t_BadNumber) (by rfl))))
        pss_nil)
      (pss_one (my_fld (pv 0) (pv 1)))), ?_⟩
    walk_at "rd"
    refine xIf_2 (fun h => ?_) (fun h => ?_)
    · refine k2 fun z => ?_
      simp [z] at h
    · walk_at "rd"
      refine st_fld w 0 rfl T.c_Dice T.n_Dice_number (by decide) fun H1 w1 => ?_
      exact k1 (by simpa using h) _ w1
theorem ok_Dice_below (T : Txt K mg A) : FnOk P w K mg base (L2.CX P w) 1 A.f_Dice_below A.d_Dice_below P_Dice_below (sp_Dice_below A) := by
  refine T.F_Dice_below.okX sc_Dice_below (fun vs H Q E h => ?_) (fun cdv Ar outer s H vs Q E hr h => ?_)
  · unfold sp_Dice_below at h; obtain ⟨p, dx, n, m, R, rfl, _⟩ := h; rfl
  · unfold sp_Dice_below at h; obtain ⟨p, dx, n, m, R, rfl, w, hn, k1, k2⟩ := h
    refine ⟨_, (pss_cons (my_if (pt_not (my_chIT op_le op_le pe_int (pv 1) (my_globI T.gi_MOST (by rfl)) still_c still_v still_c))
        (pss_one (ps_raise rfl takesE (pmk_own PySem.F.excBase_ValueError T.x_BadNumber T.g_BadNumber T.k_BadNumber (raises_own T.r_BadNumber T.t_BadNumber) (by rfl))))
        pss_nil)
      (pss_cons (my_fld (pv 0) (pe_op op_mod (pe_op op_add (pe_op op_mul (my_globI T.gi_TIMES (by rfl)) (pe_fld (pv 0) rfl)) (my_globI T.gi_MORE (by rfl))) (my_globI T.gi_WHEEL (by rfl))))
      (pss_one (ps_ret (pe_op op_fdiv (pe_op op_mul (pe_fld (pv 0) rfl) (pv 1)) (my_globI T.gi_WHEEL (by rfl))))))), ?_⟩
    walk_at "rd"
    refine xIf_2 (fun h => ?_) (fun h => ?_)
    · refine k2 fun z => ?_
      simp [z] at h
    · have h' : 1 ≤ m ∧ m ≤ 60 := by simpa using h
      walk_at "rd"
      refine sf_Dice_number T w 0 rfl fun H1 w1 => ?_
      have w2 : W H H1 ((p, .ins A.c_Dice dx (fl_Dice (.int (dN n)))) :: R) := w1
      clear w1
      have hb := dN_bd n
      walk_at "rd"
      exact k1 h' _ w2
theorem mix_stp (n : Int) (xs : List V) (k : Nat) (hk : k + 1 < xs.length) : ∃ a b, xs[k + 1]? = some a ∧ xs[(dB n ((k : Int) + 2)).toNat]? = some b := by
  have h := dB_bd n (m := (k : Int) + 2) (by omega)
  exact ⟨_, _, List.getElem?_eq_getElem hk, List.getElem?_eq_getElem (by omega)⟩
/-- behind i turns of mixed's loop over m + 1 things: what is left to do gives the whole -/
def MixAt (n : Int) (xs : List V) (i : Nat) (n' : Int) (ys : List V) : Prop := mixG (xs.length - 1 - i) n' ys = mixL n xs ∧ ys.length = xs.length ∧ 0 ≤ n' ∧ n' < 6075
theorem ok_mixed (T : Txt K mg A) : FnOk P w K mg base (L2.CX P w) 2 A.f_mixed A.d_mixed P_mixed (sp_mixed A K) := by
  refine T.F_mixed.okX sc_mixed (fun vs H Q E h => ?_) (fun cdv Ar outer s H vs Q E hr h => ?_)
  · unfold sp_mixed at h; obtain ⟨p, dx, b, n, xs, R, rfl, _⟩ := h; rfl
  · unfold sp_mixed at h; obtain ⟨p, dx, b, n, xs, R, rfl, w, hn, hb, hl, k⟩ := h
    refine ⟨_, (pss_cons (ps_set (i := 2) sc_mixed.nd rfl (by first | exact Or.inl rfl | exact Or.inr rfl) (pe_callTy my_listOf (by rfl) T.z_list (by decide +kernel) (pa_cons (pv 1) pa_nil)))
      (pss_cons (my_for ownE rfl (pi_range3 (by rfl) T.z_range (pa_cons (pe_op op_sub (pe_callB my_lenQ (by rfl) T.z_len PySem.boot_len (pa_cons (pv 2) pa_nil)) pe_int) (pa_cons pe_int (pa_cons (pe_un un_neg pe_int) pa_nil)))) (pg_name (i := 3) sc_mixed.nd rfl (by first | exact Or.inl rfl | exact Or.inr rfl))
        (pss_cons (ps_set (i := 4) sc_mixed.nd rfl (by first | exact Or.inl rfl | exact Or.inr rfl) (my_meth (pv 0) T.c_Dice T.m_Dice_below (ok_Dice_below T) (hr.mono (by decide)) T.b_Dice_below passE (pa_cons (pe_op op_add (pv 3) pe_int) pa_nil)))
      (pss_one (ps_asg (my_tup (pa_cons (pe_ix ix_list (pv 2) (pv 4) (fun _ _ => rfl)) (pa_cons (pe_ix ix_list (pv 2) (pv 3) (fun _ _ => rfl)) pa_nil))) (pg_tup rfl (pgs_cons (pg_sub (pv 2) (pv 3) my_setL) (pgs_cons (pg_sub (pv 2) (pv 4) my_setL) pgs_nil)))))))
      (pss_one (ps_ret (pv 2))))), ?_⟩
    have hs := hb _ _ w.drop1
    refine ⟨_, rfl, _, _, rfl, .inl hs, st_new w fun l H1 w1 => ?_⟩
    walk_at "rd"
    refine st_forRC (fun i σ H2 => ∃ (n' : Int) (ys : List V) (u v : Option V), σ = [some (.ref p), some (.ref b), some (.ref l), u, v] ∧ MixAt n xs i n' ys ∧ W H H2 ((l, .lst ys) :: (p, .ins A.c_Dice dx (fl_Dice (.int n'))) :: R))
      ⟨n, xs, none, none, rfl, ⟨rfl, rfl, hn.1, hn.2⟩, w1⟩ ?_ ?_
    · rintro i σ H2 hi ⟨n', ys, u, v, rfl, ⟨em, el, hn0, hn1⟩, w2⟩
      walk_at "rd"
      refine st_call ?_
      unfold sp_Dice_below
      obtain ⟨j, ej⟩ : ∃ j, xs.length - 1 - i = j + 1 := ⟨xs.length - 1 - i - 1, by omega⟩
      have ek : (xs.length : Int) - 1 + (i : Int) * -1 = (j : Int) + 1 := by omega
      rw [ek]
      refine ⟨p, dx, n', _, (l, .lst ys) :: R, rfl, (w2.rot 1 1).now, ⟨hn0, hn1⟩, fun _ H3 w3 => ?_, fun z => absurd (by omega) z⟩
      have w4 : W H H3 ((l, .lst ys) :: (p, .ins A.c_Dice dx (fl_Dice (.int (dN n')))) :: R) := (w2.tr w3).rot 1 1
      clear w3
      obtain ⟨a, b', ha, hb'⟩ := mix_stp n' ys j (by omega)
      have hd := dB_bd n' (m := (j : Int) + 2) (by omega)
      have ed : (j : Int) + 1 + 1 = (j : Int) + 2 := by omega
      rw [ed]
      walk_at "rd"
      refine ⟨at_of (Int.toNat_of_nonneg hd.1).symm hb', ?_⟩
      walk_at "rd"
      refine ⟨at_of (j := j + 1) (by omega) ha, ?_⟩
      walk_at "rd"
      refine st_tup w4 fun t H4 ht w5 => ?_
      walk_at "rd"
      refine st_setL w5 0 (j := j + 1) rfl (ix_of (by omega) (by omega)) fun H5 w6 => ?_
      walk_at "rd"
      refine st_setL w6 0 (j := (dB n' ((j : Int) + 2)).toNat) rfl (ix_of (Int.toNat_of_nonneg hd.1).symm (by rw [List.length_set]; omega)) fun H6 w7 => ?_
      refine ⟨rfl, dN n', (ys.set (j + 1) b').set (dB n' ((j : Int) + 2)).toNat a, _, _, rfl, ⟨?_, by rw [List.length_set, List.length_set]; exact el, (dN_bd n').1, (dN_bd n').2⟩, w7⟩
      rw [← em, ej, show xs.length - 1 - (i + 1) = j by omega]
      conv => rhs; unfold mixG
      rw [swp_eq ha hb']
    · rintro σ H2 ⟨n', ys, u, v, rfl, ⟨em, el, hn0, hn1⟩, w2⟩
      rw [show xs.length - 1 - ((xs.length : Int) - 1 - 0).toNat = 0 by omega] at em
      have e2 : mixL n xs = (n', ys) := em.symm
      rw [e2] at k
      exact ⟨_, rfl, k _ _ w2⟩
end
end TR

namespace TR
open PySem L2
/-! ### refusals -/
inductive Rf where
  | tune | number | entry | word
  deriving DecidableEq
def Rf.cls (A : Ads) : Rf → Addr
  | .tune => A.c_BadTune
  | .number => A.c_BadNumber
  | .entry => A.c_BadEntry
  | .word => A.c_BadWord
def Rf.nm : Rf → Str
  | .tune => "tune"
  | .number => "number"
  | .entry => "entry"
  | .word => "word"
@[irreducible] def sp_refusal (A : Ads) : Sp := fun vs H Q _ => ∃ (a : Addr) (r : Rf) (R : List Ent), vs = [.ref a] ∧ W H H ((a, ExH (.ref (r.cls A)) none a) :: R) ∧ ∀ H' t, W H H' ((t, .tup [.str "refused", .str r.nm]) :: (a, ExH (.ref (r.cls A)) none a) :: R) → Q (.ref t) H'
theorem of_refusal {A : Ads} {vs : List V} {H : Hp} {Q : VK} {E : XK} (h :  ∃ (a : Addr) (r : Rf) (R : List Ent), vs = [.ref a] ∧ W H H ((a, ExH (.ref (r.cls A)) none a) :: R) ∧ ∀ H' t, W H H' ((t, .tup [.str "refused", .str r.nm]) :: (a, ExH (.ref (r.cls A)) none a) :: R) → Q (.ref t) H') : sp_refusal A vs H Q E := by unfold sp_refusal; exact h
abbrev refT (r : Rf) : List V := [.str "refused", .str r.nm]
theorem dp_refT {K : PySem.W.Frag} {H : Hp} {t : Addr} {r : Rf} (h : H t = some (.tup (refT r))) : Dp K H (.ref t) (.tuple [.str "refused", .str r.nm]) := .tup (SqT.of h) (.cons (.str _) (.cons (.str _) .nil))
theorem sh_refT {k : Nat} {r : Rf} : Sh (k + 1) (.tuple [.str "refused", .str r.nm]) := sh_tup (sh_cons (sh_str (by decide +kernel)) (sh_cons (sh_str (by cases r <;> decide +kernel)) sh_nil))
section
variable {P : Program} {w : World} {K : PySem.W.Frag} {mg : Str → Option Value} {base : Heap} {A : Ads}
theorem ok_law_refusal (T : Txt K mg A) : FnOk P w K mg base (L2.CX P w) 1 A.f_law_refusal A.d_law_refusal P_law_refusal (sp_refusal A) := by
  refine T.F_law_refusal.okX sc_law_refusal (fun vs H Q E h => ?_) (fun cdv Ar outer s H vs Q E hr h => ?_)
  · unfold sp_refusal at h; obtain ⟨a, r, R, rfl, _⟩ := h; rfl
  · unfold sp_refusal at h; obtain ⟨a, r, R, rfl, w, k⟩ := h
    refine ⟨_, (pss_cons (my_if (pt_cmpR op_isN (pv 0) pe_non (nomark _))
        (pss_one (ps_ret (my_tup (pa_cons pe_str pa_nil))))
        pss_nil)
      (pss_cons (ps_set (i := 1) sc_law_refusal.nd rfl (by first | exact Or.inl rfl | exact Or.inr rfl) (my_lst (pa_cons (pe_callB my_isi (by rfl) T.z_isinstance (by decide +kernel) (pa_cons (pv 0) (pa_cons (my_globR T.g_BadTune (by rfl)) pa_nil))) (pa_cons (pe_callB my_isi (by rfl) T.z_isinstance (by decide +kernel) (pa_cons (pv 0) (pa_cons (my_globR T.g_BadNumber (by rfl)) pa_nil))) (pa_cons (pe_callB my_isi (by rfl) T.z_isinstance (by decide +kernel) (pa_cons (pv 0) (pa_cons (my_globR T.g_BadEntry (by rfl)) pa_nil))) pa_nil)))))
      (pss_cons (ps_expr (pe_bm PySem.F.plainAttrs_list PySem.F.slot_list_append PySem.F.type_list_append my_append (pv 1) (pa_cons (pe_callB my_isi (by rfl) T.z_isinstance (by decide +kernel) (pa_cons (pv 0) (pa_cons (my_globR T.g_BadWord (by rfl)) pa_nil))) pa_nil)))
      (pss_cons (my_if (PW.pt (my_or (pt_cmpR op_ne (pe_bm PySem.F.plainAttrs_list PySem.F.slot_list_count PySem.F.type_list_count my_count (pv 1) (pa_cons pe_bl pa_nil)) pe_int (nomark _)) (pw_or1 (pt_not (pt_val (pe_callB my_isi (by rfl) T.z_isinstance (by decide +kernel) (pa_cons (pv 0) (pa_cons (pe_bltn (v := .ty "ValueError") (by rfl) T.z_ValueError (by decide +kernel) rfl) pa_nil))))))))
        (pss_one (ps_ret (my_tup (pa_cons pe_str pa_nil))))
        pss_nil)
      (pss_one (ps_ret (my_tup (pa_cons pe_str (pa_cons (pe_ix ix_list (my_lst (pa_cons pe_str (pa_cons pe_str (pa_cons pe_str (pa_cons pe_str pa_nil))))) (pe_bm PySem.F.plainAttrs_list PySem.F.slot_list_index PySem.F.type_list_index my_index (pv 1) (pa_cons pe_bl pa_nil)) (fun _ _ => rfl)) pa_nil))))))))), ?_⟩
    cases r
    all_goals
      simp only [Rf.cls, Rf.nm] at w k
      walk_at "rd"
      refine xIf_F rfl ?_
      walk_at "rd"
      refine st_new w fun l H1 w1 => ?_
      walk_at "rd"
      refine st_app w1 0 rfl (by decide) fun H2 w2 => ?_
      walk_at "rd"
      refine xIf_F rfl ?_
      walk_at "rd"
      refine xIf_F rfl ?_
      walk_at "rd"
      refine st_new w2 fun m H3 w3 => ?_
      walk_at "rd"
      first
        | refine st_idx 0 (.bl true) (L2.SqL.of (w3.get 1 rfl)) rfl rfl rfl rfl (fun m u hm hu => ?_) ?_
        | refine st_idx 1 (.bl true) (L2.SqL.of (w3.get 1 rfl)) rfl rfl rfl rfl (fun m u hm hu => ?_) ?_
        | refine st_idx 2 (.bl true) (L2.SqL.of (w3.get 1 rfl)) rfl rfl rfl rfl (fun m u hm hu => ?_) ?_
        | refine st_idx 3 (.bl true) (L2.SqL.of (w3.get 1 rfl)) rfl rfl rfl rfl (fun m u hm hu => ?_) ?_
      · rcases m with _ | _ | _ | m
        all_goals first | (exfalso; omega) | (cases hu; rfl)
      · refine ⟨_, _, _, _, rfl, rfl, SqL.of (w3.get 0 rfl), atI_nat rfl, ?_⟩
        walk_at "rd"
        refine st_new w3 fun t H4 w4 => ?_
        exact k H4 t ((w4.rot 1 2).drop1.drop1)
end
end TR
namespace TR
open PySem L2
/-! ### orders, as plain data -/
structure Or where
  q : Qu
  num : Int
  mixed : Bool
  again : Str
  deck : List Int
  gone : Bool
  behind : Option Int
def oV : Option Int → V
  | none => .non
  | some n => .int n
theorem oV_inj {a b : Option Int} (h : oV a = oV b) : a = b := by
  cases a <;> cases b <;> simp only [oV] at h
  · rfl
  · cases h
  · cases h
  · rw [V.int.inj h]
theorem scal_io (x : Int) (e : Option Int) : scal (.int x) (oV e) = true := by cases e <;> rfl
theorem scal_oi (x : Int) (e : Option Int) : scal (oV e) (.int x) = true := by cases e <;> rfl
theorem scal_oo (x e : Option Int) : scal (oV x) (oV e) = true := by cases e <;> cases x <;> rfl
theorem flat_oV (e : Option Int) : flatV (oV e) = true := by cases e <;> rfl
structure Or.Ok (s : Or) : Prop where
  q : s.q.Ok
  num : 0 ≤ s.num ∧ s.num < 6075
  nd : s.deck.Nodup
  sub : ∀ e ∈ s.deck, e ∈ s.q.turn
  bh : s.gone = true → ∀ b, s.behind = some b → b ∈ s.q.turn
def behindOf (turn : List Int) (e : Int) : Option Int := turn[turn.idxOf e + 1]?
def fromO (s : Or) (e : Option Int) : Option Int := match e with
  | some x => if x ∈ s.q.turn then behindOf s.q.turn x else if s.gone = true then s.behind else s.q.turn.head?
  | none => if s.gone = true then s.behind else s.q.turn.head?
def plainN (s : Or) (e : Option Int) : Option Int := match fromO s e with
  | some x => some x
  | none => if s.again = "all" then s.q.turn.head? else none
def swE (xs : List Int) : List Int := xs.drop (xs.length - 1) ++ (xs.drop 1).take (xs.length - 2) ++ xs.take 1
def refill (s : Or) (e : Option Int) : Or :=
  if s.deck = [] ∧ s.again = "all" then
    { s with num := (mixL s.num s.q.turn).1, deck := if 1 < (mixL s.num s.q.turn).2.length ∧ (mixL s.num s.q.turn).2.head? = e then swE (mixL s.num s.q.turn).2 else (mixL s.num s.q.turn).2 }
  else s
def popO (s : Or) : Option Int := s.deck.head?
def popS (s : Or) : Or := { s with deck := s.deck.tail }
def skipV (s : Or) (e : Option Int) : Option Int := if s.mixed = true then popO (refill s e) else plainN s e
def skipS (s : Or) (e : Option Int) : Or := if s.mixed = true then popS (refill s e) else s
def again1 (s : Or) (e : Option Int) : Prop := s.again = "one" ∧ ∃ x, e = some x ∧ x ∈ s.q.turn
instance (s : Or) (e : Option Int) : Decidable (again1 s e) := match e with
  | none => isFalse fun ⟨_, _, z, _⟩ => nomatch z
  | some x => decidable_of_iff (s.again = "one" ∧ x ∈ s.q.turn) ⟨fun h => ⟨h.1, x, rfl, h.2⟩, fun ⟨a, y, z, b⟩ => ⟨a, by cases z; exact b⟩⟩
def afterV (s : Or) (e : Option Int) : Option Int := if again1 s e then e else skipV s e
def afterS (s : Or) (e : Option Int) : Or := if again1 s e then s else skipS s e
def fillF (s : Or) : Or := if s.deck = [] then { s with num := (mixL s.num s.q.turn).1, deck := (mixL s.num s.q.turn).2 } else s
def firstV (s : Or) : Option Int := if s.mixed = true then popO (fillF s) else s.q.turn.head?
def firstS (s : Or) : Or := if s.mixed = true then popS (fillF s) else s
def beganO (s : Or) (e : Int) : Or := { s with gone := if e ∈ s.q.turn then false else s.gone, deck := s.deck.erase e }
def butE (turn : List Int) (e : Option Int) : List Int := turn.filter fun x => decide (some x ≠ e)
def mixO (s : Or) (e : Option Int) : Or := { s with num := (mixL s.num (butE s.q.turn e)).1, deck := (mixL s.num (butE s.q.turn e)).2 }
def setM (s : Or) (b : Bool) (e : Option Int) : Or :=
  if b = true then (if s.mixed = true then s else { mixO s e with mixed := true }) else { s with deck := [], mixed := false }
def putO (s : Or) (x : Str) (p : Int) : Or :=
  if s.mixed = true then { s with q := s.q.put x p, num := dN s.num, deck := insP s.deck (dB s.num ((s.deck.length : Int) + 1)).toNat ((s.q.tunes.length : Int) + 1) } else { s with q := s.q.put x p }
def remO (s : Or) (e : Int) (now : Option Int) : Or :=
  { s with q := s.q.rem e, deck := s.deck.erase e, gone := if now = some e ∨ (s.gone = true ∧ s.behind = some e) then true else s.gone,
           behind := if now = some e ∨ (s.gone = true ∧ s.behind = some e) then behindOf s.q.turn e else s.behind }
def movO (s : Or) (e p : Int) : Or := { s with q := s.q.mov e p }
def order0 (n : Int) : Or := ⟨⟨[], []⟩, n, false, "none", [], false, none⟩
/-! what holds stays -/
theorem nodup_len : ∀ {a b : List Int}, a.Nodup → (∀ x ∈ a, x ∈ b) → a.length ≤ b.length
  | [], _, _, _ => Nat.zero_le _
  | x :: r, b, h, hs => by
    have h1 := List.nodup_cons.mp h
    have h2 := nodup_len (a := r) (b := b.erase x) h1.2 fun y hy => (List.mem_erase_of_ne (fun z => h1.1 (by rw [← z]; exact hy))).mpr (hs y (List.mem_cons_of_mem _ hy))
    have h3 := hs x List.mem_cons_self
    rw [List.length_erase_of_mem h3] at h2
    have h4 := List.length_pos_of_mem h3
    rw [List.length_cons]
    omega
theorem Or.Ok.len {s : Or} (h : s.Ok) : s.deck.length ≤ 12 := by
  have h1 := nodup_len h.nd h.sub
  have h2 := h.q.sz
  omega
theorem ok0 {n : Int} (h : 0 ≤ n ∧ n < 6075) : (order0 n).Ok := ⟨⟨List.nodup_nil, (fun _ h => nomatch h), (by show 0 ≤ 12; decide), (by show 0 ≤ 1000; decide)⟩, h, List.nodup_nil, (fun _ h => nomatch h), (fun z => nomatch z)⟩
theorem swE_perm {xs : List Int} (h : 1 < xs.length) : (swE xs).Perm xs := by
  unfold swE
  match xs, h with
  | a :: t, h =>
    have hl : 0 < t.length := by rw [List.length_cons] at h; omega
    have e1 : (a :: t).drop ((a :: t).length - 1) = t.drop (t.length - 1) := by
      rw [show (a :: t).length - 1 = t.length - 1 + 1 by rw [List.length_cons]; omega]
      rfl
    have e2 : ((a :: t).drop 1).take ((a :: t).length - 2) = t.take (t.length - 1) := by
      rw [show (a :: t).length - 2 = t.length - 1 by rw [List.length_cons]; omega]
      rfl
    rw [e1, e2]
    show (t.drop (t.length - 1) ++ t.take (t.length - 1) ++ [a]).Perm (a :: t)
    have p1 : (t.drop (t.length - 1) ++ t.take (t.length - 1)).Perm t := by
      have p := List.perm_append_comm (l₁ := t.drop (t.length - 1)) (l₂ := t.take (t.length - 1))
      rw [List.take_append_drop] at p
      exact p
    exact (List.Perm.append_right [a] p1).trans (List.perm_append_comm (l₁ := t) (l₂ := [a]))
theorem Or.Ok.deck {s : Or} (h : s.Ok) {n : Int} {d : List Int} (hn : 0 ≤ n ∧ n < 6075) (hd : d.Nodup) (hs : ∀ e ∈ d, e ∈ s.q.turn) : ({ s with num := n, deck := d } : Or).Ok := ⟨h.q, hn, hd, hs, h.bh⟩
theorem Or.Ok.refill {s : Or} (h : s.Ok) (e : Option Int) : (refill s e).Ok := by
  unfold TR.refill
  split
  · have hp := mixL_perm s.num s.q.turn
    refine h.deck (mixL_bd _ _ h.num) ?_ ?_
    · split
      · rename_i hc
        exact ((swE_perm hc.1).trans hp).nodup_iff.mpr h.q.nd
      · exact hp.nodup_iff.mpr h.q.nd
    · split
      · rename_i hc
        exact fun x hx => ((swE_perm hc.1).trans hp).mem_iff.mp hx
      · exact fun x hx => hp.mem_iff.mp hx
  · exact h
theorem Or.Ok.pop {s : Or} (h : s.Ok) : (popS s).Ok := ⟨h.q, h.num, h.nd.tail, fun e he => h.sub e (List.mem_of_mem_tail he), h.bh⟩
theorem Or.Ok.skip {s : Or} (h : s.Ok) (e : Option Int) : (skipS s e).Ok := by
  unfold skipS
  split
  · exact (h.refill e).pop
  · exact h
theorem Or.Ok.after {s : Or} (h : s.Ok) (e : Option Int) : (afterS s e).Ok := by
  unfold afterS
  split
  · exact h
  · exact h.skip e
theorem Or.Ok.fill {s : Or} (h : s.Ok) : (fillF s).Ok := by
  unfold fillF
  split
  · have hp := mixL_perm s.num s.q.turn
    exact h.deck (mixL_bd _ _ h.num) (hp.nodup_iff.mpr h.q.nd) fun x hx => hp.mem_iff.mp hx
  · exact h
theorem Or.Ok.first {s : Or} (h : s.Ok) : (firstS s).Ok := by
  unfold firstS
  split
  · exact h.fill.pop
  · exact h
theorem Or.Ok.began {s : Or} (h : s.Ok) (e : Int) : (beganO s e).Ok := by
  refine ⟨h.q, h.num, h.nd.erase e, fun x hx => h.sub x (List.mem_of_mem_erase hx), fun g => h.bh ?_⟩
  have g2 : (if e ∈ s.q.turn then false else s.gone) = true := g
  split at g2
  · cases g2
  · exact g2
theorem Or.Ok.setM {s : Or} (h : s.Ok) (b : Bool) (e : Option Int) : (setM s b e).Ok := by
  unfold TR.setM
  split
  · split
    · exact h
    · have hp := mixL_perm s.num (butE s.q.turn e)
      exact ⟨h.q, mixL_bd _ _ h.num, hp.nodup_iff.mpr (h.q.nd.filter _), fun x hx => (List.mem_filter.mp (hp.mem_iff.mp hx)).1, h.bh⟩
  · exact ⟨h.q, h.num, List.nodup_nil, (fun _ z => nomatch z), h.bh⟩
theorem Or.Ok.put {s : Or} (h : s.Ok) (x : Str) {p : Int} (h2 : s.q.turn.length ≠ 12) (h3 : s.q.tunes.length < 1000) : (putO s x p).Ok := by
  have hq := h.q.put x (p := p) h2 h3
  have hm : ∀ e, e ∈ s.q.turn → e ∈ (s.q.put x p).turn := fun e he => mem_insP.mpr (.inr he)
  unfold putO
  split
  · refine ⟨hq, dN_bd _, ?_, ?_, fun g b hb => hm b (h.bh g b hb)⟩
    · show (insP _ _ _).Nodup
      rw [(insP_perm _ _ _).nodup_iff]
      exact List.nodup_cons.mpr ⟨fun m => by have := h.q.bd _ (h.sub _ m); omega, h.nd⟩
    · intro e he
      rcases mem_insP.mp he with rfl | he
      · exact mem_insP.mpr (.inl rfl)
      · exact hm e (h.sub e he)
  · exact ⟨hq, h.num, h.nd, fun e he => hm e (h.sub e he), fun g b hb => hm b (h.bh g b hb)⟩
theorem behindOf_mem {turn : List Int} {e b : Int} (h : behindOf turn e = some b) : b ∈ turn := List.mem_of_getElem? h
theorem behindOf_ne {turn : List Int} (nd : turn.Nodup) {e b : Int} (he : e ∈ turn) (h : behindOf turn e = some b) : b ≠ e := by
  intro z
  subst z
  obtain ⟨hl, e1⟩ := List.getElem?_eq_some_iff.mp h
  have h2 := nd.idxOf_getElem (turn.idxOf b + 1) hl
  rw [e1] at h2
  omega
theorem Or.Ok.rem {s : Or} (h : s.Ok) {e : Int} (he : e ∈ s.q.turn) (now : Option Int) : (remO s e now).Ok := by
  refine ⟨h.q.rem e, h.num, h.nd.erase e, ?_, ?_⟩
  · intro x hx
    have h1 := (List.Nodup.mem_erase_iff h.nd).mp hx
    exact (List.Nodup.mem_erase_iff h.q.nd).mpr ⟨h1.1, h.sub x h1.2⟩
  · intro g b hb
    have g2 : (if now = some e ∨ (s.gone = true ∧ s.behind = some e) then true else s.gone) = true := g
    have hb2 : (if now = some e ∨ (s.gone = true ∧ s.behind = some e) then behindOf s.q.turn e else s.behind) = some b := hb
    split at hb2
    · exact (List.Nodup.mem_erase_iff h.q.nd).mpr ⟨behindOf_ne h.q.nd he hb2, behindOf_mem hb2⟩
    · rename_i hc
      rw [if_neg hc] at g2
      refine (List.Nodup.mem_erase_iff h.q.nd).mpr ⟨fun z => hc (.inr ⟨g2, by rw [hb2, z]⟩), h.bh g2 b hb2⟩
theorem Or.Ok.mov {s : Or} (h : s.Ok) {e p : Int} (he : e ∈ s.q.turn) : (movO s e p).Ok := by
  have hm : ∀ x, x ∈ s.q.turn → x ∈ (s.q.mov e p).turn := fun x hx => by
    by_cases z : x = e
    · exact mem_insP.mpr (.inl z)
    · exact mem_insP.mpr (.inr ((List.Nodup.mem_erase_iff h.q.nd).mpr ⟨z, hx⟩))
  exact ⟨h.q.mov he, h.num, h.nd, fun x hx => hm x (h.sub x hx), fun g b hb => hm b (h.bh g b hb)⟩
theorem inV_o (ns : List Int) (e : Option Int) : inV (oV e) (ns.map V.int) = decide (∃ x, e = some x ∧ x ∈ ns) := by
  cases e with
  | none =>
    rw [show oV none = V.non from rfl, inV_non]
    exact (decide_eq_false fun ⟨_, z, _⟩ => nomatch z).symm
  | some x =>
    rw [show oV (some x) = V.int x from rfl, inV_ints]
    by_cases h : x ∈ ns
    · rw [decide_eq_true h, decide_eq_true ⟨x, rfl, h⟩]
    · rw [decide_eq_false h, decide_eq_false (fun ⟨y, z, m⟩ => h (by cases z; exact m))]
theorem eqv_nil (ns : List Int) : PyData.eqv (.list (ns.map PyData.int)) (.list []) = decide (ns = []) := by
  cases ns with
  | nil => rfl
  | cons a r => rfl
end TR

namespace TR
open PySem L2
/-! ### orders: the walk -/
theorem ds_t {i j : Str} (h : decide (V.str i = V.str j) = true) : i = j := V.str.inj (of_decide_eq_true h)
theorem ds_f {i j : Str} (h : decide (V.str i = V.str j) = false) : i ≠ j := fun z => of_decide_eq_false h (by rw [z])
theorem do_eq (x : Int) (e : Option Int) : decide (V.int x = oV e) = decide (e = some x) := by
  by_cases h : e = some x
  · rw [h, decide_eq_true rfl]; exact decide_eq_true rfl
  · rw [decide_eq_false h]
    exact decide_eq_false fun z => h (oV_inj (z.symm.trans rfl))
section
variable {K : PySem.W.Frag} {H0 H : Hp} {L : List Ent} {a : Addr} {g : TG} {tt : TT} {te : TE} {vs : List Nat} {σ : L2.St} {Q : VK}
/-- the ones of a list for which p holds -/
theorem st_but {ns : List Int} (p : Int → Bool) (w : W H0 H L) (j : Nat) (h : L[j]? = some (a, .lst (ns.map V.int))) (hl : ns.length ≤ 60000)
    (hs : ∀ D n P H', (p n = true → xAcc D P (.int n) H') → (p n = false → P H') → LcTurn g tt te vs σ D P (.int n) H')
    (k : ∀ D H', W H0 H' ((D, .lst ((ns.filter p).map V.int)) :: L) → Q (.ref D) H') : xLc (Itl K a) g tt te vs σ H Q := by
  refine st_lcL (xs := ns.map V.int) (fun D i H' => W H0 H' ((D, .lst (((ns.take i).filter p).map V.int)) :: L)) w (fun D H' w1 => w1) (fun D i H' _ w1 => SqL.of (w1.get (j + 1) (by simpa using h))) ?_ ?_
  · intro D i x H' hx w1
    rw [List.getElem?_map] at hx
    cases hn : ns[i]? with
    | none => rw [hn] at hx; cases hx
    | some n =>
      rw [hn] at hx
      cases hx
      have e : (ns.take (i + 1)).filter p = (ns.take i).filter p ++ [n].filter p := by
        rw [List.take_succ, hn, ← List.filter_append]; rfl
      refine hs D n _ H' (fun hp => ?_) (fun hp => ?_)
      · have hlen : ((ns.take i).filter p).length ≤ 60000 := Nat.le_trans (List.length_filter_le _ _) (Nat.le_trans (by rw [List.length_take]; omega) hl)
        refine st_acc w1 0 rfl (by rw [List.length_map]; exact szL (by omega)) fun H2 w2 => ?_
        rw [e, List.filter_cons_of_pos hp, List.map_append]
        exact w2
      · rw [e, List.filter_cons_of_neg (by rw [hp]; exact Bool.false_ne_true), List.filter_nil, List.append_nil]
        exact w1
  · intro D H' w1
    rw [List.length_map, List.take_length] at w1
    exact k D H' w1
end
section
variable {K : PySem.W.Frag} {H0 H : Hp} {L : List Ent} {a : Addr} {g : TG} {tt : TT} {te : TE} {vs : List Nat} {σ : L2.St} {Q : VK}
theorem st_butW {ns : List Int} (p : Int → Bool) (w : W H0 H L) (j : Nat) (h : L[j]? = some (a, .lst (ns.map V.int))) (hl : ns.length ≤ 60000)
    (hs : ∀ D n P H' ds, W H0 H' ((D, .lst ds) :: L) → (p n = true → xAcc D P (.int n) H') → (p n = false → P H') → LcTurn g tt te vs σ D P (.int n) H')
    (k : ∀ D H', W H0 H' ((D, .lst ((ns.filter p).map V.int)) :: L) → Q (.ref D) H') : xLc (Itl K a) g tt te vs σ H Q := by
  refine st_lcL (xs := ns.map V.int) (fun D i H' => W H0 H' ((D, .lst (((ns.take i).filter p).map V.int)) :: L)) w (fun D H' w1 => w1) (fun D i H' _ w1 => SqL.of (w1.get (j + 1) (by simpa using h))) ?_ ?_
  · intro D i x H' hx w1
    rw [List.getElem?_map] at hx
    cases hn : ns[i]? with
    | none => rw [hn] at hx; cases hx
    | some n =>
      rw [hn] at hx
      cases hx
      have e : (ns.take (i + 1)).filter p = (ns.take i).filter p ++ [n].filter p := by
        rw [List.take_succ, hn, ← List.filter_append]; rfl
      refine hs D n _ H' _ w1 (fun hp => ?_) (fun hp => ?_)
      · have hlen : ((ns.take i).filter p).length ≤ 60000 := Nat.le_trans (List.length_filter_le _ _) (Nat.le_trans (by rw [List.length_take]; omega) hl)
        refine st_acc w1 0 rfl (by rw [List.length_map]; exact szL (by omega)) fun H2 w2 => ?_
        rw [e, List.filter_cons_of_pos hp, List.map_append]
        exact w2
      · rw [e, List.filter_cons_of_neg (by rw [hp]; exact Bool.false_ne_true), List.filter_nil, List.append_nil]
        exact w1
  · intro D H' w1
    rw [List.length_map, List.take_length] at w1
    exact k D H' w1
end
structure OA where
  o : Addr
  dx : Addr
  q : QA
  dc : Addr
  ddx : Addr
  k : Addr
def orL (A : Ads) (a : OA) (s : Or) : List Ent := [(a.o, .ins A.c_Order a.dx (fl_Order (.ref a.q.q) (.ref a.dc) (.bl s.mixed) (.str s.again) (.ref a.k) (.bl s.gone) (oV s.behind))),
  (a.q.q, .ins A.c_Queue a.q.dx (fl_Queue (.ref a.q.d) (.ref a.q.t) (.int s.q.tunes.length))), (a.q.d, .dK (tunesK s.q.tunes)), (a.q.t, .lst (s.q.turn.map V.int)),
  (a.dc, .ins A.c_Dice a.ddx (fl_Dice (.int s.num))), (a.k, .lst (s.deck.map V.int))]
def repeats : List Str := ["none", "all", "one"]
@[irreducible] def sp_Order_init (A : Ads) : Sp := fun vs H Q E => ∃ (o dx : Addr) (n : Int) (R : List Ent), vs = [.ref o, .int n] ∧ W H H ((o, .ins A.c_Order dx []) :: R) ∧
  (0 ≤ n ∧ n < 6075 → ∀ H' a, a.o = o → W H H' (orL A a (order0 n) ++ R) → Q .non H') ∧ (¬ (0 ≤ n ∧ n < 6075) → ∀ H', W H H' R → E (.ref A.c_BadNumber) none H')
theorem of_Order_init {A : Ads} {vs : List V} {H : Hp} {Q : VK} {E : XK} (h :  ∃ (o dx : Addr) (n : Int) (R : List Ent), vs = [.ref o, .int n] ∧ W H H ((o, .ins A.c_Order dx []) :: R) ∧
  (0 ≤ n ∧ n < 6075 → ∀ H' a, a.o = o → W H H' (orL A a (order0 n) ++ R) → Q .non H') ∧ (¬ (0 ≤ n ∧ n < 6075) → ∀ H', W H H' R → E (.ref A.c_BadNumber) none H')) : sp_Order_init A vs H Q E := by unfold sp_Order_init; exact h
@[irreducible] def sp_Order_set_again (A : Ads) : Sp := fun vs H Q E => ∃ (a : OA) (s : Or) (x : Str) (R : List Ent), vs = [.ref a.o, .str x] ∧ W H H (orL A a s ++ R) ∧ (x ∈ repeats → ∀ H', W H H' (orL A a { s with again := x } ++ R) → Q .non H') ∧ (x ∉ repeats → E (.ref A.c_BadWord) none H)
theorem of_Order_set_again {A : Ads} {vs : List V} {H : Hp} {Q : VK} {E : XK} (h :  ∃ (a : OA) (s : Or) (x : Str) (R : List Ent), vs = [.ref a.o, .str x] ∧ W H H (orL A a s ++ R) ∧ (x ∈ repeats → ∀ H', W H H' (orL A a { s with again := x } ++ R) → Q .non H') ∧ (x ∉ repeats → E (.ref A.c_BadWord) none H)) : sp_Order_set_again A vs H Q E := by unfold sp_Order_set_again; exact h
@[irreducible] def sp_Order_set_mixed (A : Ads) : Sp := fun vs H Q _ => ∃ (a : OA) (s : Or) (b : Bool) (e : Option Int) (R : List Ent), vs = [.ref a.o, .bl b, oV e] ∧ W H H (orL A a s ++ R) ∧ s.Ok ∧ ∀ H' k', W H H' (orL A { a with k := k' } (setM s b e) ++ R) → Q .non H'
theorem of_Order_set_mixed {A : Ads} {vs : List V} {H : Hp} {Q : VK} {E : XK} (h :  ∃ (a : OA) (s : Or) (b : Bool) (e : Option Int) (R : List Ent), vs = [.ref a.o, .bl b, oV e] ∧ W H H (orL A a s ++ R) ∧ s.Ok ∧ ∀ H' k', W H H' (orL A { a with k := k' } (setM s b e) ++ R) → Q .non H') : sp_Order_set_mixed A vs H Q E := by unfold sp_Order_set_mixed; exact h
@[irreducible] def sp_Order_put (A : Ads) : Sp := fun vs H Q E => ∃ (a : OA) (s : Or) (x : Str) (p : Int) (R : List Ent), vs = [.ref a.o, .str x, .int p] ∧ W H H (orL A a s ++ R) ∧ s.Ok ∧ s.q.tunes.length < 1000 ∧
  (0 ≤ p ∧ p ≤ s.q.turn.length ∧ s.q.turn.length ≠ 12 → ∀ H', W H H' (orL A a (putO s x p) ++ R) → Q (.int ((s.q.tunes.length : Int) + 1)) H') ∧ (¬ (0 ≤ p ∧ p ≤ s.q.turn.length ∧ s.q.turn.length ≠ 12) → E (.ref A.c_BadNumber) none H)
theorem of_Order_put {A : Ads} {vs : List V} {H : Hp} {Q : VK} {E : XK} (h :  ∃ (a : OA) (s : Or) (x : Str) (p : Int) (R : List Ent), vs = [.ref a.o, .str x, .int p] ∧ W H H (orL A a s ++ R) ∧ s.Ok ∧ s.q.tunes.length < 1000 ∧
  (0 ≤ p ∧ p ≤ s.q.turn.length ∧ s.q.turn.length ≠ 12 → ∀ H', W H H' (orL A a (putO s x p) ++ R) → Q (.int ((s.q.tunes.length : Int) + 1)) H') ∧ (¬ (0 ≤ p ∧ p ≤ s.q.turn.length ∧ s.q.turn.length ≠ 12) → E (.ref A.c_BadNumber) none H)) : sp_Order_put A vs H Q E := by unfold sp_Order_put; exact h
@[irreducible] def sp_Order_remove (A : Ads) : Sp := fun vs H Q E => ∃ (a : OA) (s : Or) (e : Int) (now : Option Int) (R : List Ent), vs = [.ref a.o, .int e, oV now] ∧ W H H (orL A a s ++ R) ∧ s.Ok ∧
  (e ∈ s.q.turn → ∀ H', W H H' (orL A a (remO s e now) ++ R) → Q .non H') ∧ (e ∉ s.q.turn → ∀ H', W H H' (orL A a s ++ R) → E (.ref A.c_BadEntry) none H')
theorem of_Order_remove {A : Ads} {vs : List V} {H : Hp} {Q : VK} {E : XK} (h :  ∃ (a : OA) (s : Or) (e : Int) (now : Option Int) (R : List Ent), vs = [.ref a.o, .int e, oV now] ∧ W H H (orL A a s ++ R) ∧ s.Ok ∧
  (e ∈ s.q.turn → ∀ H', W H H' (orL A a (remO s e now) ++ R) → Q .non H') ∧ (e ∉ s.q.turn → ∀ H', W H H' (orL A a s ++ R) → E (.ref A.c_BadEntry) none H')) : sp_Order_remove A vs H Q E := by unfold sp_Order_remove; exact h
@[irreducible] def sp_Order_next_plain (A : Ads) : Sp := fun vs H Q _ => ∃ (a : OA) (s : Or) (e : Option Int) (R : List Ent), vs = [.ref a.o, oV e] ∧ W H H (orL A a s ++ R) ∧ s.Ok ∧ ∀ H', W H H' (orL A a s ++ R) → Q (oV (plainN s e)) H'
theorem of_Order_next_plain {A : Ads} {vs : List V} {H : Hp} {Q : VK} {E : XK} (h :  ∃ (a : OA) (s : Or) (e : Option Int) (R : List Ent), vs = [.ref a.o, oV e] ∧ W H H (orL A a s ++ R) ∧ s.Ok ∧ ∀ H', W H H' (orL A a s ++ R) → Q (oV (plainN s e)) H') : sp_Order_next_plain A vs H Q E := by unfold sp_Order_next_plain; exact h
@[irreducible] def sp_Order_next_mixed (A : Ads) : Sp := fun vs H Q _ => ∃ (a : OA) (s : Or) (e : Option Int) (R : List Ent), vs = [.ref a.o, oV e] ∧ W H H (orL A a s ++ R) ∧ s.Ok ∧ ∀ H' k', W H H' (orL A { a with k := k' } (popS (refill s e)) ++ R) → Q (oV (popO (refill s e))) H'
theorem of_Order_next_mixed {A : Ads} {vs : List V} {H : Hp} {Q : VK} {E : XK} (h :  ∃ (a : OA) (s : Or) (e : Option Int) (R : List Ent), vs = [.ref a.o, oV e] ∧ W H H (orL A a s ++ R) ∧ s.Ok ∧ ∀ H' k', W H H' (orL A { a with k := k' } (popS (refill s e)) ++ R) → Q (oV (popO (refill s e))) H') : sp_Order_next_mixed A vs H Q E := by unfold sp_Order_next_mixed; exact h
@[irreducible] def sp_Order_skip (A : Ads) : Sp := fun vs H Q _ => ∃ (a : OA) (s : Or) (e : Option Int) (R : List Ent), vs = [.ref a.o, oV e] ∧ W H H (orL A a s ++ R) ∧ s.Ok ∧ ∀ H' k', W H H' (orL A { a with k := k' } (skipS s e) ++ R) → Q (oV (skipV s e)) H'
theorem of_Order_skip {A : Ads} {vs : List V} {H : Hp} {Q : VK} {E : XK} (h :  ∃ (a : OA) (s : Or) (e : Option Int) (R : List Ent), vs = [.ref a.o, oV e] ∧ W H H (orL A a s ++ R) ∧ s.Ok ∧ ∀ H' k', W H H' (orL A { a with k := k' } (skipS s e) ++ R) → Q (oV (skipV s e)) H') : sp_Order_skip A vs H Q E := by unfold sp_Order_skip; exact h
@[irreducible] def sp_Order_after (A : Ads) : Sp := fun vs H Q _ => ∃ (a : OA) (s : Or) (e : Option Int) (R : List Ent), vs = [.ref a.o, oV e] ∧ W H H (orL A a s ++ R) ∧ s.Ok ∧ ∀ H' k', W H H' (orL A { a with k := k' } (afterS s e) ++ R) → Q (oV (afterV s e)) H'
theorem of_Order_after {A : Ads} {vs : List V} {H : Hp} {Q : VK} {E : XK} (h :  ∃ (a : OA) (s : Or) (e : Option Int) (R : List Ent), vs = [.ref a.o, oV e] ∧ W H H (orL A a s ++ R) ∧ s.Ok ∧ ∀ H' k', W H H' (orL A { a with k := k' } (afterS s e) ++ R) → Q (oV (afterV s e)) H') : sp_Order_after A vs H Q E := by unfold sp_Order_after; exact h
@[irreducible] def sp_Order_first (A : Ads) : Sp := fun vs H Q _ => ∃ (a : OA) (s : Or) (R : List Ent), vs = [.ref a.o] ∧ W H H (orL A a s ++ R) ∧ s.Ok ∧ ∀ H' k', W H H' (orL A { a with k := k' } (firstS s) ++ R) → Q (oV (firstV s)) H'
theorem of_Order_first {A : Ads} {vs : List V} {H : Hp} {Q : VK} {E : XK} (h :  ∃ (a : OA) (s : Or) (R : List Ent), vs = [.ref a.o] ∧ W H H (orL A a s ++ R) ∧ s.Ok ∧ ∀ H' k', W H H' (orL A { a with k := k' } (firstS s) ++ R) → Q (oV (firstV s)) H') : sp_Order_first A vs H Q E := by unfold sp_Order_first; exact h
@[irreducible] def sp_Order_began (A : Ads) : Sp := fun vs H Q _ => ∃ (a : OA) (s : Or) (e : Int) (R : List Ent), vs = [.ref a.o, .int e] ∧ W H H (orL A a s ++ R) ∧ s.Ok ∧ ∀ H', W H H' (orL A a (beganO s e) ++ R) → Q .non H'
theorem of_Order_began {A : Ads} {vs : List V} {H : Hp} {Q : VK} {E : XK} (h :  ∃ (a : OA) (s : Or) (e : Int) (R : List Ent), vs = [.ref a.o, .int e] ∧ W H H (orL A a s ++ R) ∧ s.Ok ∧ ∀ H', W H H' (orL A a (beganO s e) ++ R) → Q .non H') : sp_Order_began A vs H Q E := by unfold sp_Order_began; exact h
theorem head_map (ns : List Int) : (ns.map V.int)[0]? = ns.head?.map V.int := by cases ns <;> rfl
section
variable {P : Program} {w : World} {K : PySem.W.Frag} {mg : Str → Option Value} {base : Heap} {A : Ads}
theorem ok_Order_init__ (T : Txt K mg A) : FnOk P w K mg base (L2.CX P w) 3 A.f_Order_init__ A.d_Order_init__ P_Order_init__ (sp_Order_init A) := by
  refine T.F_Order_init__.okX sc_Order_init__ (fun vs H Q E h => ?_) (fun cdv Ar outer s H vs Q E hr h => ?_)
  · unfold sp_Order_init at h; obtain ⟨o, dx, n, R, rfl, _⟩ := h; rfl
  · unfold sp_Order_init at h; obtain ⟨o, dx, n, R, rfl, w, k1, k2⟩ := h
    refine ⟨_, (pss_cons (my_fld (pv 0) (my_make0 T.M_Queue (ok_Queue_init__ T) (hr.mono (by decide)) (by rfl) T.g_Queue T.b_Queue_init__ passE))
      (pss_cons (my_fld (pv 0) (my_make T.M_Dice (ok_Dice_init__ T) (hr.mono (by decide)) (by rfl) T.g_Dice T.b_Dice_init__ passE (pa_cons (pv 1) pa_nil)))
      (pss_cons (my_fld (pv 0) pe_bl)
      (pss_cons (my_fld (pv 0) pe_str)
      (pss_cons (my_fld (pv 0) (my_lst pa_nil))
      (pss_cons (my_fld (pv 0) pe_bl)
      (pss_one (my_fld (pv 0) pe_non)))))))), ?_⟩
    walk_at "rd"
    refine st_make w fun q qx H1 w1 => ?_
    refine of_Queue_init ⟨q, qx, _, rfl, w1.now, fun H2 d t w2 => ?_⟩
    have w3 := w1.tr w2
    clear w1 w2
    walk_at "rd"
    refine st_fld w3 3 rfl T.c_Order T.n_Order_queue (by decide) fun H3 w4 => ?_
    walk_at "rd"
    refine st_make w4 fun dc ddx H4 w5 => ?_
    refine of_Dice_init ⟨dc, ddx, n, _, rfl, w5.now, fun hn H5 w6 => ?_, fun hn => k2 hn _ ((w5.drop1.drop1.drop1.drop1).drop1)⟩
    have w7 := w5.tr w6
    clear w5 w6 w4 w3
    walk_at "rd"
    refine st_fld w7 4 rfl T.c_Order T.n_Order_dice (by show 1 < 1000; decide) fun H6 w8 => ?_
    walk_at "rd"
    refine st_fld w8 4 rfl T.c_Order T.n_Order_is_mixed (by show 2 < 1000; decide) fun H7 w9 => ?_
    walk_at "rd"
    refine st_fld w9 4 rfl T.c_Order T.n_Order_again (by show 3 < 1000; decide) fun H8 w10 => ?_
    walk_at "rd"
    refine st_new w10 fun dk H9 w11 => ?_
    walk_at "rd"
    refine st_fld w11 5 rfl T.c_Order T.n_Order_deck (by show 4 < 1000; decide) fun H10 w12 => ?_
    walk_at "rd"
    refine st_fld w12 5 rfl T.c_Order T.n_Order_is_gone (by show 5 < 1000; decide) fun H11 w13 => ?_
    walk_at "rd"
    refine st_fld w13 5 rfl T.c_Order T.n_Order_behind (by show 6 < 1000; decide) fun H12 w14 => ?_
    refine k1 hn H12 ⟨o, dx, ⟨q, qx, d, t⟩, dc, ddx, dk⟩ rfl ?_
    have w15 := ((w14.rot 1 5).rot 4 1).rot 2 3
    exact w15.rot 3 1
theorem ok_Order_set_again (T : Txt K mg A) : FnOk P w K mg base (L2.CX P w) 1 A.f_Order_set_again A.d_Order_set_again P_Order_set_again (sp_Order_set_again A) := by
  refine T.F_Order_set_again.okX sc_Order_set_again (fun vs H Q E h => ?_) (fun cdv Ar outer s H vs Q E hr h => ?_)
  · unfold sp_Order_set_again at h; obtain ⟨a, s, x, R, rfl, _⟩ := h; rfl
  · unfold sp_Order_set_again at h; obtain ⟨a, s, x, R, rfl, w, k1, k2⟩ := h
    refine ⟨_, (pss_cons (my_if (pt_cmpR op_notIn_seq (pv 1) (my_globR T.gi_REPEATS (by rfl)) (by rfl))
        (pss_one (ps_raise rfl takesE (pmk_own PySem.F.excBase_ValueError T.x_BadWord T.g_BadWord T.k_BadWord (raises_own T.r_BadWord T.t_BadWord) (by rfl))))
        pss_nil)
      (pss_one (my_fld (pv 0) (pv 1)))), ?_⟩
    walk_at "rd"
    have e : inV (.str x) [V.str (Str.ofString "none"), V.str (Str.ofString "all"), V.str (Str.ofString "one")] = decide (x ∈ repeats) := inV_strs repeats x
    by_cases hx : x ∈ repeats
    · refine xIf_F (by show (!inV (.str x) [V.str (Str.ofString "none"), V.str (Str.ofString "all"), V.str (Str.ofString "one")]) = false; rw [e, decide_eq_true hx]; rfl) ?_
      walk_at "rd"
      exact sf_Order_again T w 0 rfl fun H1 w1 => k1 hx H1 w1
    · exact xIf_T (by show (!inV (.str x) [V.str (Str.ofString "none"), V.str (Str.ofString "all"), V.str (Str.ofString "one")]) = true; rw [e, decide_eq_false hx]; rfl) (k2 hx)
theorem ok_Order_set_mixed (T : Txt K mg A) : FnOk P w K mg base (L2.CX P w) 3 A.f_Order_set_mixed A.d_Order_set_mixed P_Order_set_mixed (sp_Order_set_mixed A) := by
  refine T.F_Order_set_mixed.okX sc_Order_set_mixed (fun vs H Q E h => ?_) (fun cdv Ar outer s H vs Q E hr h => ?_)
  · unfold sp_Order_set_mixed at h; obtain ⟨a, s, b, e, R, rfl, _⟩ := h; rfl
  · unfold sp_Order_set_mixed at h; obtain ⟨a, s, b, e, R, rfl, w, ok, k⟩ := h
    refine ⟨_, (pss_cons (my_if (PW.pt (my_and (pt_val (pv 1)) (pw_and1 (pt_not (pt_val (pe_fld (pv 0) rfl))))))
        (pss_one (my_fld (pv 0) (my_call (ok_mixed T) (hr.mono (by decide)) (by rfl) T.g_mixed T.k_mixed T.b_mixed passE (pa_cons (pe_fld (pv 0) rfl) (pa_cons (my_lc (own := [("one", 3)]) rfl sc_Order_set_mixed.nd (pi_list (my_meth0 (pe_fld (pv 0) rfl) T.c_Queue T.m_Queue_entries (ok_Queue_entries T) (hr.mono (by decide)) T.b_Queue_entries passE)) (blkOk_by (own := [("one", 3)]) (N := N_Order_set_mixed) (sc := defScope s_Order_set_mixed) (by decide +kernel)) (fun _ _ _ _ _ => (pg_name (i := 3) sc_Order_set_mixed.nd rfl (by first | exact Or.inl rfl | exact Or.inr rfl))) (fun _ _ _ _ _ => (pts_one (pt_cmpR op_ne (pv 3) (pv 2) (nomark _)))) (fun _ _ _ _ _ => (pv 3))) pa_nil)))))
        pss_nil)
      (pss_cons (my_if (pt_not (pt_val (pv 1)))
        (pss_one (my_fld (pv 0) (my_lst pa_nil)))
        pss_nil)
      (pss_one (my_fld (pv 0) (pv 1))))), ?_⟩
    have hq := ok.q.sz
    cases b with
    | false =>
      walk_at "rd"
      refine xIf_F rfl ?_
      refine xIf_F rfl ?_
      walk_at "rd"
      refine xIf_T rfl ?_
      walk_at "rd"
      refine st_new w fun dk H1 w1 => ?_
      walk_at "rd"
      refine sf_Order_deck T w1 1 rfl fun H2 w2 => ?_
      walk_at "rd"
      refine sf_Order_is_mixed T w2 1 rfl fun H3 w3 => k H3 dk ?_
      exact w3.pick 7 [1, 2, 3, 4, 5, 0]
    | true =>
      unfold TR.setM at k
      rw [if_pos rfl] at k
      cases hm : s.mixed with
      | true =>
        rw [hm] at k
        unfold orL at w
        rw [hm] at w
        walk_at "rd"
        refine xIf_T rfl ?_
        walk_at "rd"
        refine xIf_F rfl ?_
        walk_at "rd"
        refine xIf_F rfl ?_
        walk_at "rd"
        refine sf_Order_is_mixed T w 0 rfl fun H1 w1 => k H1 a.k ?_
        show W H H1 (orL A a s ++ R)
        unfold orL
        rw [hm]
        exact w1
      | false =>
        rw [hm] at k
        unfold orL at w
        rw [hm] at w
        walk_at "rd"
        refine xIf_T rfl ?_
        walk_at "rd"
        refine xIf_T rfl ?_
        walk_at "rd"
        refine st_call (of_Queue_entries ⟨a.q, s.q, _, rfl, (w.rot 1 3).now, fun H1 l w1 => ?_⟩)
        have w2 := w.tr w1
        clear w1
        walk_at "rd"
        refine st_but (fun x => decide (some x ≠ e)) w2 0 rfl (by omega) ?_ ?_
        · intro D n P H' h1 h2
          have hd : (!decide (V.int n = oV e)) = decide (some n ≠ e) := by
            rw [do_eq]
            by_cases z : e = some n
            · simp [z]
            · have z2 : ¬ some n = e := fun q => z q.symm
              simp [z, z2]
          have sc1 := scal_io n e
          walk_at "rd"
          refine xIf_2 (fun h => ?_) (fun h => h2 (by rw [← hd]; exact h))
          walk_at "rd"
          exact h1 (by rw [← hd]; exact h)
        · intro D H2 w3
          have hbl : (butE s.q.turn e).length ≤ 12 := Nat.le_trans (List.length_filter_le _ _) hq
          refine st_call (of_mixed ⟨a.dc, a.ddx, D, s.num, (butE s.q.turn e).map V.int, _, rfl, (w3.rot 6 1).now, ok.num, fun _ _ v => SqL.of (v.get 0 rfl), by rw [List.length_map]; omega, fun H3 dk w4 => ?_⟩)
          have w5 := w3.tr w4
          clear w4
          rw [mixL_map] at w5
          walk_at "rd"
          refine sf_Order_deck T w5 7 rfl fun H4 w6 => ?_
          walk_at "rd"
          refine xIf_F rfl ?_
          walk_at "rd"
          refine sf_Order_is_mixed T w6 7 rfl fun H5 w7 => k H5 dk ?_
          show W H H5 (orL A { a with k := dk } { mixO s e with mixed := true } ++ R)
          exact w7.pick 9 [7, 4, 5, 6, 1, 0]
theorem ok_Order_put (T : Txt K mg A) : FnOk P w K mg base (L2.CX P w) 2 A.f_Order_put A.d_Order_put P_Order_put (sp_Order_put A) := by
  refine T.F_Order_put.okX sc_Order_put (fun vs H Q E h => ?_) (fun cdv Ar outer s H vs Q E hr h => ?_)
  · unfold sp_Order_put at h; obtain ⟨a, s, x, p, R, rfl, _⟩ := h; rfl
  · unfold sp_Order_put at h; obtain ⟨a, s, x, p, R, rfl, w, ok, hz, k1, k2⟩ := h
    refine ⟨_, (pss_cons (ps_set (i := 3) sc_Order_put.nd rfl (by first | exact Or.inl rfl | exact Or.inr rfl) (my_meth (pe_fld (pv 0) rfl) T.c_Queue T.m_Queue_put (ok_Queue_put T) (hr.mono (by decide)) T.b_Queue_put passE (pa_cons (pv 1) (pa_cons (pv 2) pa_nil))))
      (pss_cons (my_if (pt_val (pe_fld (pv 0) rfl))
        (pss_one (ps_expr (pe_bm PySem.F.plainAttrs_list PySem.F.slot_list_insert PySem.F.type_list_insert my_insert (pe_fld (pv 0) rfl) (pa_cons (my_meth (pe_fld (pv 0) rfl) T.c_Dice T.m_Dice_below (ok_Dice_below T) (hr.mono (by decide)) T.b_Dice_below passE (pa_cons (pe_op op_add (pe_callB my_lenQ (by rfl) T.z_len PySem.boot_len (pa_cons (pe_fld (pv 0) rfl) pa_nil)) pe_int) pa_nil)) (pa_cons (pv 3) pa_nil)))))
        pss_nil)
      (pss_one (ps_ret (pv 3))))), ?_⟩
    have hdl := ok.len
    walk_at "rd"
    refine st_call (of_Queue_put ⟨a.q, s.q, x, p, _, rfl, (w.rot 1 3).now, ok.q, hz, fun hp H1 w1 => ?_, k2⟩)
    have w2 := w.tr w1
    clear w1
    have k1 := k1 hp
    unfold putO at k1
    walk_at "rd"
    refine xIf_2 (fun h => ?_) (fun h => ?_)
    · have h : s.mixed = true := h
      rw [if_pos h] at k1
      walk_at "rd"
      refine st_call (of_Dice_below ⟨a.dc, a.ddx, s.num, _, _, rfl, (w2.rot 4 1).now, ok.num, fun _ H2 w3 => ?_, fun z => absurd (by rw [List.length_map]; omega) z⟩)
      have w4 := w2.tr w3
      clear w3
      rw [List.length_map]
      have hd := dB_bd s.num (m := (s.deck.length : Int) + 1) (by omega)
      walk_at "rd"
      refine st_ins w4 5 rfl (by rw [List.length_map]; exact szL (by omega)) hd.1 (by omega) fun H3 w5 => ?_
      have e1 := insP_map V.int s.deck (dB s.num ((s.deck.length : Int) + 1)).toNat ((s.q.tunes.length : Int) + 1)
      unfold insP at e1
      rw [← e1] at w5
      exact ⟨_, rfl, k1 H3 (w5.pick 6 [4, 1, 2, 3, 0, 5])⟩
    · have h : ¬ s.mixed = true := by rw [show s.mixed = false from h]; exact Bool.false_ne_true
      rw [if_neg h] at k1
      exact ⟨_, rfl, k1 H1 (w2.pick 6 [3, 0, 1, 2, 4, 5])⟩
theorem ok_Order_remove (T : Txt K mg A) : FnOk P w K mg base (L2.CX P w) 3 A.f_Order_remove A.d_Order_remove P_Order_remove (sp_Order_remove A) := by
  refine T.F_Order_remove.okX sc_Order_remove (fun vs H Q E h => ?_) (fun cdv Ar outer s H vs Q E hr h => ?_)
  · unfold sp_Order_remove at h; obtain ⟨a, s, e, now, R, rfl, _⟩ := h; rfl
  · unfold sp_Order_remove at h; obtain ⟨a, s, e, now, R, rfl, w, ok, k1, k2⟩ := h
    refine ⟨_, (pss_cons (ps_set (i := 3) sc_Order_remove.nd rfl (by first | exact Or.inl rfl | exact Or.inr rfl) (pe_slice my_sl (my_meth0 (pe_fld (pv 0) rfl) T.c_Queue T.m_Queue_entries (ok_Queue_entries T) (hr.mono (by decide)) T.b_Queue_entries passE) (po_some (pe_op op_add (my_meth (pe_fld (pv 0) rfl) T.c_Queue T.m_Queue_place (ok_Queue_place T) (hr.mono (by decide)) T.b_Queue_place passE (pa_cons (pv 1) pa_nil)) pe_int)) po_none))
      (pss_cons (ps_expr (my_meth (pe_fld (pv 0) rfl) T.c_Queue T.m_Queue_remove (ok_Queue_remove T) (hr.mono (by decide)) T.b_Queue_remove passE (pa_cons (pv 1) pa_nil)))
      (pss_cons (my_if (pt_cmpR op_in_seq (pv 1) (pe_fld (pv 0) rfl) (by rfl))
        (pss_one (ps_expr (pe_bm PySem.F.plainAttrs_list PySem.F.slot_list_remove PySem.F.type_list_remove my_remove (pe_fld (pv 0) rfl) (pa_cons (pv 1) pa_nil))))
        pss_nil)
      (pss_one (my_if (PW.pt (my_or (pt_cmpR op_eq (pv 1) (pv 2) (nomark _)) (pw_or1 (PW.pt (my_and (pt_val (pe_fld (pv 0) rfl)) (pw_and1 (pt_cmpR op_eq (pv 1) (pe_fld (pv 0) rfl) (nomark _))))))))
        (pss_cons (my_fld (pv 0) pe_bl)
      (pss_one (my_fld (pv 0) (my_ifExp (pt_truth (pv 3) (by intro _; rfl)) (pe_ix ix_list (pv 3) pe_int (fun _ _ => rfl)) pe_non))))
        pss_nil))))), ?_⟩
    have hq := ok.q.sz
    walk_at "rd"
    refine st_call (of_Queue_entries ⟨a.q, s.q, _, rfl, (w.rot 1 3).now, fun H1 l w1 => ?_⟩)
    have w2 := w.tr w1
    clear w1
    walk_at "rd"
    refine st_call (of_Queue_place ⟨a.q, s.q, e, _, rfl, (w2.rot 1 3).now, fun he => ?_, fun he => k2 he H1 (w2.pick 7 [4, 1, 2, 3, 5, 6])⟩)
    have k1 := k1 he
    have hil := List.idxOf_lt_length_iff.mpr he
    walk_at "rd"
    refine st_new w2 fun m H2 w3 => ?_
    have ec : cutV (s.q.turn.map V.int) (some ((s.q.turn.idxOf e : Int) + 1)) none = (s.q.turn.drop (s.q.turn.idxOf e + 1)).map V.int := by
      unfold cutV
      rw [HT.sIx_none, show ((s.q.turn.idxOf e : Int) + 1) = ((s.q.turn.idxOf e + 1 : Nat) : Int) by push_cast; rfl, HT.sIx_nat, List.length_map, Nat.min_eq_left (by omega), ← List.map_drop, List.take_of_length_le (by rw [List.length_map, List.length_drop]; omega)]
    rw [ec] at w3
    walk_at "rd"
    refine st_call (of_Queue_remove ⟨a.q, s.q, e, _, rfl, (w3.rot 2 3).now, fun _ H3 w4 => ?_, fun z => absurd he z⟩)
    have w5 := w3.tr w4
    clear w4 w3 w2
    have w6 : W H H3 ((m, .lst ((s.q.turn.drop (s.q.turn.idxOf e + 1)).map V.int)) :: (orL A a { s with q := s.q.rem e } ++ R)) := w5.pick 8 [3, 5, 0, 1, 2, 6, 7]
    clear w5
    walk_at "rd"
    refine xIf_2 (fun h => ?_) (fun h => ?_)
    case' refine_1 =>
      have hm : e ∈ s.deck := by rw [inV_ints] at h; exact of_decide_eq_true h
      walk_at "rd"
      refine st_rem w6 6 rfl hm fun H4 w7 => ?_
    case' refine_2 =>
      have hm : e ∉ s.deck := by rw [inV_ints] at h; exact of_decide_eq_false h
      obtain ⟨H4, eH4⟩ : ∃ H4, H4 = H3 := ⟨_, rfl⟩
      have w7 : W H H4 ((m, .lst ((s.q.turn.drop (s.q.turn.idxOf e + 1)).map V.int)) :: (orL A a { s with q := s.q.rem e, deck := s.deck.erase e } ++ R)) := by
        rw [eH4, List.erase_of_not_mem hm]
        exact w6
      rw [← eH4]
    all_goals
      replace w7 : W H H4 ((m, .lst ((s.q.turn.drop (s.q.turn.idxOf e + 1)).map V.int)) :: (orL A a { s with q := s.q.rem e, deck := s.deck.erase e } ++ R)) := w7
      have sc1 := scal_io e now
      have sc2 := scal_io e s.behind
      walk_at "rd"
      rw [do_eq]
      by_cases hc : now = some e ∨ (s.gone = true ∧ s.behind = some e)
      case' neg =>
        refine xIf_F (decide_eq_false fun z => hc (.inl z)) ?_
        walk_at "rd"
        refine xIf_2 (fun h => ?_) (fun h => ?_)
        case' refine_1 =>
          walk_at "rd"
          rw [do_eq]
          refine xIf_F (decide_eq_false fun z => hc (.inr ⟨h, z⟩)) ?_
        case' refine_2 =>
          refine xIf_F rfl ?_
        all_goals
          refine k1 _ ?_
          unfold remO
          rw [if_neg hc, if_neg hc]
          exact w7.drop1
      case' pos =>
        by_cases hn : now = some e
        case' pos =>
          refine xIf_T (decide_eq_true hn) ?_
          refine xIf_T rfl ?_
        case' neg =>
          have hc2 := hc.resolve_left hn
          refine xIf_F (decide_eq_false hn) ?_
          walk_at "rd"
          refine xIf_T hc2.1 ?_
          walk_at "rd"
          rw [do_eq]
          refine xIf_T (decide_eq_true hc2.2) ?_
        all_goals
          walk_at "rd"
          refine sf_Order_is_gone T w7 1 rfl fun H5 w8 => ?_
          walk_at "rd"
          have eb : behindOf s.q.turn e = (s.q.turn.drop (s.q.turn.idxOf e + 1)).head? := by
            unfold behindOf
            rw [List.head?_drop]
          unfold remO at k1
          rw [if_pos hc, if_pos hc, eb] at k1
          generalize s.q.turn.drop (s.q.turn.idxOf e + 1) = lt at *
          cases lt with
          | nil =>
            refine xIf_F rfl ?_
            walk_at "rd"
            exact sf_Order_behind T w8 1 rfl fun H6 w9 => k1 H6 (W.drop1 w9)
          | cons x r =>
            refine xIf_T rfl ?_
            walk_at "rd"
            refine ⟨atI_nat rfl, ?_⟩
            walk_at "rd"
            exact sf_Order_behind T w8 1 rfl fun H6 w9 => k1 H6 (W.drop1 w9)
theorem idx_get {turn : List Int} {b : Int} (h : b ∈ turn) : turn[turn.idxOf b]? = some b := by
  have hl := List.idxOf_lt_length_iff.mpr h
  rw [List.getElem?_eq_getElem hl, List.getElem_idxOf hl]
theorem ok_Order_next_plain (T : Txt K mg A) : FnOk P w K mg base (L2.CX P w) 2 A.f_Order_next_plain A.d_Order_next_plain P_Order_next_plain (sp_Order_next_plain A) := by
  refine T.F_Order_next_plain.okX sc_Order_next_plain (fun vs H Q E h => ?_) (fun cdv Ar outer s H vs Q E hr h => ?_)
  · unfold sp_Order_next_plain at h; obtain ⟨a, s, e, R, rfl, _⟩ := h; rfl
  · unfold sp_Order_next_plain at h; obtain ⟨a, s, e, R, rfl, w, ok, k⟩ := h
    refine ⟨_, (pss_cons (ps_set (i := 2) sc_Order_next_plain.nd rfl (by first | exact Or.inl rfl | exact Or.inr rfl) (my_meth0 (pe_fld (pv 0) rfl) T.c_Queue T.m_Queue_entries (ok_Queue_entries T) (hr.mono (by decide)) T.b_Queue_entries passE))
      (pss_cons (ps_set (i := 3) sc_Order_next_plain.nd rfl (by first | exact Or.inl rfl | exact Or.inr rfl) (my_ifExp (pt_cmpR op_in_seq (pv 1) (pv 2) (by rfl)) (pe_op op_add (pe_bm PySem.F.plainAttrs_list PySem.F.slot_list_index PySem.F.type_list_index my_index (pv 2) (pa_cons (pv 1) pa_nil)) pe_int) pe_int))
      (pss_cons (my_if (PW.pt (my_and (pt_val (pe_fld (pv 0) rfl)) (pw_and1 (pt_cmpR op_notIn_seq (pv 1) (pv 2) (by rfl)))))
        (pss_one (ps_set (i := 3) sc_Order_next_plain.nd rfl (by first | exact Or.inl rfl | exact Or.inr rfl) (my_ifExp (pt_cmpR op_isN (pe_fld (pv 0) rfl) pe_non (nomark _)) (pe_callB my_lenQ (by rfl) T.z_len PySem.boot_len (pa_cons (pv 2) pa_nil)) (pe_bm PySem.F.plainAttrs_list PySem.F.slot_list_index PySem.F.type_list_index my_index (pv 2) (pa_cons (pe_fld (pv 0) rfl) pa_nil)))))
        pss_nil)
      (pss_cons (my_if (pt_cmpR op_lt (pv 3) (pe_callB my_lenQ (by rfl) T.z_len PySem.boot_len (pa_cons (pv 2) pa_nil)) (nomark _))
        (pss_one (ps_ret (pe_ix ix_list (pv 2) (pv 3) (fun _ _ => rfl))))
        pss_nil)
      (pss_one (ps_ret (my_ifExp (PW.pt (my_and (pt_cmpR op_eq (pe_fld (pv 0) rfl) pe_str (nomark _)) (pw_and1 (pt_truth (pv 2) (by intro _; rfl))))) (pe_ix ix_list (pv 2) pe_int (fun _ _ => rfl)) pe_non))))))), ?_⟩
    walk_at "rd"
    refine st_call (of_Queue_entries ⟨a.q, s.q, _, rfl, (w.rot 1 3).now, fun H1 l w1 => ?_⟩)
    have w2 := w.tr w1
    have w3 : W H H1 ((l, .lst (s.q.turn.map V.int)) :: (orL A a s ++ R)) := w2.pick 7 [0, 4, 1, 2, 3, 5, 6]
    clear w2 w1
    have k := k H1 w3.drop1
    have fl := flat_oV e
    have fb := flat_oV s.behind
    have hq := ok.q.sz
    walk_at "rd"
    by_cases hin : ∃ x, e = some x ∧ x ∈ s.q.turn
    case' pos =>
      refine xIf_T (by show inV (oV e) (s.q.turn.map V.int) = true; rw [inV_o]; exact decide_eq_true hin) ?_
      obtain ⟨x, rfl, hx⟩ := hin
      have hnt : (!inV (oV (some x)) (s.q.turn.map V.int)) = false := by rw [inV_o, decide_eq_true ⟨x, rfl, hx⟩]; rfl
      walk_at "rd"
      refine st_idxI (SqL.of (w3.get 0 rfl)) hx ?_
      walk_at "rd"
      obtain ⟨pl, epl, j, hj, hfr⟩ : ∃ pl : Int, pl = (s.q.turn.idxOf x : Int) + 1 ∧ ∃ j : Nat, pl = j ∧ fromO s (some x) = s.q.turn[j]? := ⟨_, rfl, s.q.turn.idxOf x + 1, by push_cast; rfl, by unfold fromO; simp only; rw [if_pos hx]; rfl⟩
      dsimp only
      rw [← epl]
      refine xIf_2 (fun h => ?_) (fun h => ?_)
      case' refine_1 =>
        walk_at "rd"
        refine xIf_F hnt ?_
      case' refine_2 =>
        refine xIf_F rfl ?_
    case' neg =>
      have hni : inV (oV e) (s.q.turn.map V.int) = false := by rw [inV_o]; exact decide_eq_false hin
      refine xIf_F hni ?_
      walk_at "rd"
      have hfo : fromO s e = if s.gone = true then s.behind else s.q.turn.head? := by
        unfold fromO
        cases e with
        | none => rfl
        | some x =>
          simp only
          rw [if_neg (fun z => hin ⟨x, rfl, z⟩)]
      refine xIf_2 (fun h => ?_) (fun h => ?_)
      case' refine_1 =>
        have hg : s.gone = true := h
        rw [if_pos hg] at hfo
        have hbh := ok.bh hg
        walk_at "rd"
        refine xIf_T (by show (!inV (oV e) (s.q.turn.map V.int)) = true; rw [hni]; rfl) ?_
        walk_at "rd"
        rcases hb : s.behind with _ | b
        case' none =>
          refine xIf_T rfl ?_
          walk_at "rd"
          obtain ⟨pl, epl, j, hj, hfr⟩ : ∃ pl : Int, pl = ((s.q.turn.map V.int).length : Int) ∧ ∃ j : Nat, pl = j ∧ fromO s e = s.q.turn[j]? := ⟨_, rfl, s.q.turn.length, by rw [List.length_map], by rw [hfo, hb, List.getElem?_eq_none (Nat.le_refl _)]⟩
          rw [← epl]
          rw [List.length_map] at epl
        case' some =>
          refine xIf_F rfl ?_
          walk_at "rd"
          refine st_idxV (SqL.of (w3.get 0 rfl)) (by rw [hb]; rfl) (hbh b hb) ?_
          obtain ⟨pl, epl, j, hj, hfr⟩ : ∃ pl : Int, pl = (s.q.turn.idxOf b : Int) ∧ ∃ j : Nat, pl = j ∧ fromO s e = s.q.turn[j]? := ⟨_, rfl, s.q.turn.idxOf b, rfl, by rw [hfo, hb, idx_get (hbh b hb)]⟩
          rw [← epl]
      case' refine_2 =>
        have hg : ¬ s.gone = true := by rw [show s.gone = false from h]; exact Bool.false_ne_true
        rw [if_neg hg] at hfo
        refine xIf_F rfl ?_
        obtain ⟨j, hj0, hfr⟩ : ∃ j : Nat, j = 0 ∧ fromO s e = s.q.turn[j]? := ⟨0, rfl, by rw [hfo, List.head?_eq_getElem?]⟩
    all_goals
      walk_at "rd"
      unfold plainN at k
      rw [hfr] at k
      first | rw [hj] | skip
      cases ht : s.q.turn[j]? with
      | some y =>
        have hjl := (List.getElem?_eq_some_iff.mp ht).1
        rw [ht] at k
        refine xIf_T (decide_eq_true (by first | omega | (rw [List.length_map]; omega))) ?_
        walk_at "rd"
        exact ⟨at_of (j := j) (by omega) (by rw [List.getElem?_map, ht]; rfl), k⟩
      | none =>
        have hjl := List.getElem?_eq_none_iff.mp ht
        rw [ht] at k
        refine xIf_F (decide_eq_false (by first | omega | (rw [List.length_map]; omega))) ?_
        walk_at "rd"
        refine xIf_2 (fun h => ?_) (fun h => ?_)
        · have ha : s.again = "all" := ds_t h
          simp only [if_pos ha] at k
          walk_at "rd"
          generalize s.q.turn = tn at *
          cases tn with
          | nil => exact xIf_F rfl k
          | cons y r =>
            refine xIf_T rfl ?_
            walk_at "rd"
            exact ⟨atI_nat rfl, k⟩
        · have ha : ¬ s.again = "all" := ds_f h
          simp only [if_neg ha] at k
          exact xIf_F rfl k
theorem cut_m1 {xs : List Int} (h : 1 ≤ xs.length) : cutV (xs.map V.int) (some (-1)) none = (xs.drop (xs.length - 1)).map V.int := by
  unfold cutV
  rw [HT.sIx_none, List.length_map, show HT.sIx xs.length 0 (some (-1)) = xs.length - 1 from by unfold HT.sIx; simp only; rw [if_pos (by decide)]; omega, ← List.map_drop, List.take_of_length_le (by rw [List.length_map, List.length_drop]; omega)]
theorem cut_1m1 {xs : List Int} (h : 2 ≤ xs.length) : cutV (xs.map V.int) (some 1) (some (-1)) = ((xs.drop 1).take (xs.length - 2)).map V.int := by
  unfold cutV
  rw [List.length_map, show HT.sIx xs.length 0 (some 1) = 1 from by unfold HT.sIx; simp only; rw [if_neg (by decide)]; show min 1 _ = 1; omega,
    show HT.sIx xs.length xs.length (some (-1)) = xs.length - 1 from by unfold HT.sIx; simp only; rw [if_pos (by decide)]; omega, ← List.map_drop, ← List.map_take]
  rfl
theorem cut_n1 {xs : List Int} (h : 1 ≤ xs.length) : cutV (xs.map V.int) none (some 1) = (xs.take 1).map V.int := by
  unfold cutV
  rw [List.length_map, HT.sIx_none, show HT.sIx xs.length xs.length (some 1) = 1 from by unfold HT.sIx; simp only; rw [if_neg (by decide)]; show min 1 _ = 1; omega, ← List.map_drop, ← List.map_take]
  rfl
theorem ok_Order_next_mixed (T : Txt K mg A) : FnOk P w K mg base (L2.CX P w) 3 A.f_Order_next_mixed A.d_Order_next_mixed P_Order_next_mixed (sp_Order_next_mixed A) := by
  refine T.F_Order_next_mixed.okX sc_Order_next_mixed (fun vs H Q E h => ?_) (fun cdv Ar outer s H vs Q E hr h => ?_)
  · unfold sp_Order_next_mixed at h; obtain ⟨a, s, e, R, rfl, _⟩ := h; rfl
  · unfold sp_Order_next_mixed at h; obtain ⟨a, s, e, R, rfl, w, ok, k⟩ := h
    refine ⟨_, (pss_cons (my_if (PW.pt (my_and (pt_not (pt_truth (pe_fld (pv 0) rfl) (by intro _; rfl))) (pw_and1 (pt_cmpR op_eq (pe_fld (pv 0) rfl) pe_str (nomark _)))))
        (pss_cons (my_fld (pv 0) (my_call (ok_mixed T) (hr.mono (by decide)) (by rfl) T.g_mixed T.k_mixed T.b_mixed passE (pa_cons (pe_fld (pv 0) rfl) (pa_cons (my_meth0 (pe_fld (pv 0) rfl) T.c_Queue T.m_Queue_entries (ok_Queue_entries T) (hr.mono (by decide)) T.b_Queue_entries passE) pa_nil))))
      (pss_one (my_if (PW.pt (my_and (pt_cmpR op_gt (pe_callB my_lenQ (by rfl) T.z_len PySem.boot_len (pa_cons (pe_fld (pv 0) rfl) pa_nil)) pe_int (nomark _)) (pw_and1 (pt_cmpR op_eq (pe_ix ix_list (pe_fld (pv 0) rfl) pe_int (fun _ _ => rfl)) (pv 1) (nomark _)))))
        (pss_one (my_fld (pv 0) (pe_op my_cat (pe_op my_cat (pe_slice my_sl (pe_fld (pv 0) rfl) (po_some (pe_un un_neg pe_int)) po_none) (pe_slice my_sl (pe_fld (pv 0) rfl) (po_some pe_int) (po_some (pe_un un_neg pe_int)))) (pe_slice my_sl (pe_fld (pv 0) rfl) po_none (po_some pe_int)))))
        pss_nil)))
        pss_nil)
      (pss_one (ps_ret (my_ifExp (pt_truth (pe_fld (pv 0) rfl) (by intro _; rfl)) (pe_bm PySem.F.plainAttrs_list PySem.F.slot_list_pop PySem.F.type_list_pop my_popAt (pe_fld (pv 0) rfl) (pa_cons pe_int pa_nil)) pe_non)))), ?_⟩
    have hq := ok.q.sz
    have hdl := ok.len
    have hnum := ok.num
    have sc1 := fun x => scal_io x e
    obtain ⟨q, num, mixed, again, deck, gone, behind⟩ := s
    have hq : q.turn.length ≤ 12 := hq
    have hdl : deck.length ≤ 12 := hdl
    have hnum : 0 ≤ num ∧ num < 6075 := hnum
    clear ok
    cases deck with
    | cons x r =>
      have er : refill ⟨q, num, mixed, again, x :: r, gone, behind⟩ e = ⟨q, num, mixed, again, x :: r, gone, behind⟩ := if_neg (fun z => nomatch z.1)
      rw [er] at k
      walk_at "rd"
      refine xIf_F rfl ?_
      refine xIf_F rfl ?_
      walk_at "rd"
      refine xIf_T rfl ?_
      walk_at "rd"
      exact st_pop0 w 5 rfl fun H1 w1 => k H1 a.k w1
    | nil =>
      walk_at "rd"
      refine xIf_T rfl ?_
      walk_at "rd"
      refine xIf_2 (fun h => ?_) (fun h => ?_)
      · have ha : again = "all" := ds_t h
        have er : refill ⟨q, num, mixed, again, [], gone, behind⟩ e = ⟨q, (mixL num q.turn).1, mixed, again, if 1 < (mixL num q.turn).2.length ∧ (mixL num q.turn).2.head? = e then swE (mixL num q.turn).2 else (mixL num q.turn).2, gone, behind⟩ := if_pos ⟨rfl, ha⟩
        rw [er] at k
        walk_at "rd"
        refine st_call (of_Queue_entries ⟨a.q, q, _, rfl, (w.rot 1 3).now, fun H1 l w1 => ?_⟩)
        have w2 := w.tr w1
        clear w1
        walk_at "rd"
        refine st_call (of_mixed ⟨a.dc, a.ddx, l, num, q.turn.map V.int, _, rfl, (w2.rot 5 1).now, hnum, fun _ _ v => SqL.of (v.get 0 rfl), by rw [List.length_map]; omega, fun H3 dk w4 => ?_⟩)
        have w5 := w2.tr w4
        clear w4 w2
        rw [mixL_map] at w5
        have hml := mixL_len num q.turn
        generalize mixL num q.turn = mm at *
        obtain ⟨n', ys⟩ := mm
        have hml : ys.length = q.turn.length := hml
        dsimp only at k
        walk_at "rd"
        refine sf_Order_deck T w5 6 rfl fun H4 w6 => ?_
        have w7 : W H H4 (orL A { a with k := dk } ⟨q, n', mixed, again, ys, gone, behind⟩ ++ R) := w6.pick 8 [6, 3, 4, 5, 1, 0]
        clear w6 w5
        walk_at "rd"
        rcases ys with _ | ⟨y, _ | ⟨z, r⟩⟩
        · refine xIf_F rfl ?_
          refine xIf_F rfl ?_
          walk_at "rd"
          refine xIf_F rfl ?_
          rw [if_neg (fun z => absurd z.1 (by decide))] at k
          exact k H4 dk w7
        · refine xIf_F rfl ?_
          refine xIf_F rfl ?_
          walk_at "rd"
          refine xIf_T rfl ?_
          walk_at "rd"
          rw [if_neg (fun z => absurd z.1 (by show ¬ 1 < 1; decide))] at k
          exact st_pop0 w7 5 rfl fun H5 w8 => k H5 dk w8
        · refine xIf_T (decide_eq_true (by show (1 : Int) < ((r.map V.int).length + 1 + 1 : Nat); omega)) ?_
          have sc2 := sc1 y
          have hlen : (y :: z :: r).length = q.turn.length := hml
          rw [List.length_cons, List.length_cons] at hlen
          walk_at "rd"
          refine ⟨atI_nat rfl, ?_⟩
          walk_at "rd"
          rw [do_eq]
          by_cases he : e = some y
          · refine xIf_T (decide_eq_true he) ?_
            rw [if_pos ⟨by rw [List.length_cons, List.length_cons]; omega, he.symm⟩] at k
            unfold swE at k
            have hle : 2 ≤ (y :: z :: r).length := by rw [List.length_cons, List.length_cons]; omega
            generalize hys : y :: z :: r = ys at *
            have w7 : W H H4 (orL A { a with k := dk } ⟨q, n', mixed, again, ys, gone, behind⟩ ++ R) := w7
            walk_at "rd"
            refine st_new w7 fun l1 H5 w8 => ?_
            replace w8 : W H H5 ((l1, .lst ((ys.drop (ys.length - 1)).map V.int)) :: (orL A { a with k := dk } ⟨q, n', mixed, again, ys, gone, behind⟩ ++ R)) := by
              rw [← cut_m1 (by omega)]; exact w8
            walk_at "rd"
            refine st_new w8 fun l2 H6 w9 => ?_
            replace w9 : W H H6 ((l2, .lst (((ys.drop 1).take (ys.length - 2)).map V.int)) :: (l1, .lst ((ys.drop (ys.length - 1)).map V.int)) :: (orL A { a with k := dk } ⟨q, n', mixed, again, ys, gone, behind⟩ ++ R)) := by
              rw [← cut_1m1 hle]; exact w9
            walk_at "rd"
            refine st_new w9 fun l3 H7 w10 => ?_
            walk_at "rd"
            refine st_new w10 fun l4 H8 w11 => ?_
            replace w11 : W H H8 ((l4, .lst ((ys.take 1).map V.int)) :: (l3, .lst ((ys.drop (ys.length - 1)).map V.int ++ ((ys.drop 1).take (ys.length - 2)).map V.int)) :: (l2, .lst (((ys.drop 1).take (ys.length - 2)).map V.int)) :: (l1, .lst ((ys.drop (ys.length - 1)).map V.int)) :: (orL A { a with k := dk } ⟨q, n', mixed, again, ys, gone, behind⟩ ++ R)) := by
              rw [← cut_n1 (by omega)]; exact w11
            walk_at "rd"
            refine st_new w11 fun l5 H9 w12 => ?_
            walk_at "rd"
            refine sf_Order_deck T w12 5 rfl fun H10 w13 => ?_
            rw [← List.map_append, ← List.map_append] at w13
            have w14 : W H H10 (orL A { a with k := l5 } ⟨q, n', mixed, again, ys.drop (ys.length - 1) ++ (ys.drop 1).take (ys.length - 2) ++ ys.take 1, gone, behind⟩ ++ R) := w13.pick 11 [5, 6, 7, 8, 9, 0]
            clear w13 w12 w11 w10 w9 w8 w7
            have hnn : ys.drop (ys.length - 1) ++ (ys.drop 1).take (ys.length - 2) ++ ys.take 1 ≠ [] := fun z => by
              have := congrArg List.length z
              simp only [List.length_append, List.length_drop, List.length_take, List.length_nil] at this
              omega
            generalize ys.drop (ys.length - 1) ++ (ys.drop 1).take (ys.length - 2) ++ ys.take 1 = ds at *
            cases ds with
            | nil => exact absurd rfl hnn
            | cons d ds =>
              walk_at "rd"
              refine xIf_T rfl ?_
              walk_at "rd"
              exact st_pop0 w14 5 rfl fun H11 w15 => k H11 l5 w15
          · refine xIf_F (decide_eq_false he) ?_
            rw [if_neg (fun z => he z.2.symm)] at k
            walk_at "rd"
            refine xIf_T rfl ?_
            walk_at "rd"
            exact st_pop0 w7 5 rfl fun H5 w8 => k H5 dk w8
      · have ha : again ≠ "all" := ds_f h
        have er : refill ⟨q, num, mixed, again, [], gone, behind⟩ e = ⟨q, num, mixed, again, [], gone, behind⟩ := if_neg (fun z => ha z.2)
        rw [er] at k
        walk_at "rd"
        refine xIf_F rfl ?_
        exact k H a.k w
theorem ok_Order_skip (T : Txt K mg A) : FnOk P w K mg base (L2.CX P w) 4 A.f_Order_skip A.d_Order_skip P_Order_skip (sp_Order_skip A) := by
  refine T.F_Order_skip.okX sc_Order_skip (fun vs H Q E h => ?_) (fun cdv Ar outer s H vs Q E hr h => ?_)
  · unfold sp_Order_skip at h; obtain ⟨a, s, e, R, rfl, _⟩ := h; rfl
  · unfold sp_Order_skip at h; obtain ⟨a, s, e, R, rfl, w, ok, k⟩ := h
    refine ⟨_, (pss_one (ps_ret (my_ifExp (pt_val (pe_fld (pv 0) rfl)) (my_meth (pv 0) T.c_Order T.m_Order_next_mixed (ok_Order_next_mixed T) (hr.mono (by decide)) T.b_Order_next_mixed passE (pa_cons (pv 1) pa_nil)) (my_meth (pv 0) T.c_Order T.m_Order_next_plain (ok_Order_next_plain T) (hr.mono (by decide)) T.b_Order_next_plain passE (pa_cons (pv 1) pa_nil))))), ?_⟩
    unfold skipV skipS at k
    walk_at "rd"
    refine xIf_2 (fun h => ?_) (fun h => ?_)
    · have h : s.mixed = true := h
      rw [if_pos h, if_pos h] at k
      walk_at "rd"
      exact st_call (of_Order_next_mixed ⟨a, s, e, R, rfl, w, ok, k⟩)
    · have h : ¬ s.mixed = true := by rw [show s.mixed = false from h]; exact Bool.false_ne_true
      rw [if_neg h, if_neg h] at k
      walk_at "rd"
      exact st_call (of_Order_next_plain ⟨a, s, e, R, rfl, w, ok, fun H1 w1 => k H1 a.k w1⟩)
theorem ok_Order_after (T : Txt K mg A) : FnOk P w K mg base (L2.CX P w) 5 A.f_Order_after A.d_Order_after P_Order_after (sp_Order_after A) := by
  refine T.F_Order_after.okX sc_Order_after (fun vs H Q E h => ?_) (fun cdv Ar outer s H vs Q E hr h => ?_)
  · unfold sp_Order_after at h; obtain ⟨a, s, e, R, rfl, _⟩ := h; rfl
  · unfold sp_Order_after at h; obtain ⟨a, s, e, R, rfl, w, ok, k⟩ := h
    refine ⟨_, (pss_cons (my_if (PW.pt (my_and (pt_cmpR op_eq (pe_fld (pv 0) rfl) pe_str (nomark _)) (pw_and1 (pt_cmpR op_in_seq (pv 1) (my_meth0 (pe_fld (pv 0) rfl) T.c_Queue T.m_Queue_entries (ok_Queue_entries T) (hr.mono (by decide)) T.b_Queue_entries passE) (by rfl)))))
        (pss_one (ps_ret (pv 1)))
        pss_nil)
      (pss_one (ps_ret (my_meth (pv 0) T.c_Order T.m_Order_skip (ok_Order_skip T) (hr.mono (by decide)) T.b_Order_skip passE (pa_cons (pv 1) pa_nil))))), ?_⟩
    have fl := flat_oV e
    unfold afterV afterS at k
    walk_at "rd"
    refine xIf_2 (fun h => ?_) (fun h => ?_)
    · have ha : s.again = "one" := ds_t h
      walk_at "rd"
      refine st_call (of_Queue_entries ⟨a.q, s.q, _, rfl, (w.rot 1 3).now, fun H1 l w1 => ?_⟩)
      have w2 : W H H1 (orL A a s ++ R) := (w.tr w1).pick 7 [4, 1, 2, 3, 5, 6]
      have w3 := w.tr w1
      walk_at "rd"
      refine xIf_2 (fun h => ?_) (fun h => ?_)
      · have hin : ∃ x, e = some x ∧ x ∈ s.q.turn := by
          have h : inV (oV e) (s.q.turn.map V.int) = true := h
          rw [inV_o] at h
          exact of_decide_eq_true h
        rw [if_pos ⟨ha, hin⟩, if_pos ⟨ha, hin⟩] at k
        walk_at "rd"
        exact k H1 a.k w2
      · have hin : ¬ ∃ x, e = some x ∧ x ∈ s.q.turn := by
          have h : inV (oV e) (s.q.turn.map V.int) = false := h
          rw [inV_o] at h
          exact of_decide_eq_false h
        rw [if_neg (fun z => hin z.2), if_neg (fun z => hin z.2)] at k
        walk_at "rd"
        exact st_call (of_Order_skip ⟨a, s, e, R, rfl, w2.now, ok, fun H2 k' w4 => k H2 k' (w2.tr w4)⟩)
    · have ha : s.again ≠ "one" := ds_f h
      rw [if_neg (fun z => ha z.1), if_neg (fun z => ha z.1)] at k
      refine xIf_F rfl ?_
      walk_at "rd"
      exact st_call (of_Order_skip ⟨a, s, e, R, rfl, w, ok, k⟩)
theorem ok_Order_first (T : Txt K mg A) : FnOk P w K mg base (L2.CX P w) 3 A.f_Order_first A.d_Order_first P_Order_first (sp_Order_first A) := by
  refine T.F_Order_first.okX sc_Order_first (fun vs H Q E h => ?_) (fun cdv Ar outer s H vs Q E hr h => ?_)
  · unfold sp_Order_first at h; obtain ⟨a, s, R, rfl, _⟩ := h; rfl
  · unfold sp_Order_first at h; obtain ⟨a, s, R, rfl, w, ok, k⟩ := h
    refine ⟨_, (pss_cons (my_if (pt_not (pt_val (pe_fld (pv 0) rfl)))
        (pss_one (ps_ret (my_ifExp (pt_truth (my_meth0 (pe_fld (pv 0) rfl) T.c_Queue T.m_Queue_entries (ok_Queue_entries T) (hr.mono (by decide)) T.b_Queue_entries passE) (by intro _; rfl)) (pe_ix ix_list (my_meth0 (pe_fld (pv 0) rfl) T.c_Queue T.m_Queue_entries (ok_Queue_entries T) (hr.mono (by decide)) T.b_Queue_entries passE) pe_int (fun _ _ => rfl)) pe_non)))
        pss_nil)
      (pss_cons (my_if (pt_not (pt_truth (pe_fld (pv 0) rfl) (by intro _; rfl)))
        (pss_one (my_fld (pv 0) (my_call (ok_mixed T) (hr.mono (by decide)) (by rfl) T.g_mixed T.k_mixed T.b_mixed passE (pa_cons (pe_fld (pv 0) rfl) (pa_cons (my_meth0 (pe_fld (pv 0) rfl) T.c_Queue T.m_Queue_entries (ok_Queue_entries T) (hr.mono (by decide)) T.b_Queue_entries passE) pa_nil)))))
        pss_nil)
      (pss_one (ps_ret (my_ifExp (pt_truth (pe_fld (pv 0) rfl) (by intro _; rfl)) (pe_bm PySem.F.plainAttrs_list PySem.F.slot_list_pop PySem.F.type_list_pop my_popAt (pe_fld (pv 0) rfl) (pa_cons pe_int pa_nil)) pe_non))))), ?_⟩
    have hq := ok.q.sz
    have hnum := ok.num
    obtain ⟨q, num, mixed, again, deck, gone, behind⟩ := s
    have hq : q.turn.length ≤ 12 := hq
    have hnum : 0 ≤ num ∧ num < 6075 := hnum
    clear ok
    unfold firstV firstS at k
    cases mixed with
    | false =>
      walk_at "rd"
      refine xIf_T rfl ?_
      walk_at "rd"
      refine st_call (of_Queue_entries ⟨a.q, q, _, rfl, (w.rot 1 3).now, fun H1 l w1 => ?_⟩)
      have w2 := w.tr w1
      clear w1
      walk_at "rd"
      have w3 : W H H1 (orL A a ⟨q, num, false, again, deck, gone, behind⟩ ++ R) := w2.pick 7 [4, 1, 2, 3, 5, 6]
      obtain ⟨tunes, turn⟩ := q
      cases turn with
      | nil =>
        refine xIf_F rfl ?_
        exact k H1 a.k w3
      | cons x r =>
        refine xIf_T rfl ?_
        walk_at "rd"
        refine st_call (of_Queue_entries ⟨a.q, ⟨tunes, x :: r⟩, _, rfl, (w3.rot 1 3).now, fun H2 l2 w4 => ?_⟩)
        have w5 := w3.tr w4
        clear w4
        walk_at "rd"
        refine ⟨atI_nat rfl, ?_⟩
        exact k H2 a.k (w5.pick 7 [4, 1, 2, 3, 5, 6])
    | true =>
      rw [if_pos rfl, if_pos rfl] at k
      walk_at "rd"
      refine xIf_F rfl ?_
      walk_at "rd"
      cases deck with
      | cons x r =>
        have er : fillF ⟨q, num, true, again, x :: r, gone, behind⟩ = ⟨q, num, true, again, x :: r, gone, behind⟩ := if_neg (fun z => nomatch z)
        rw [er] at k
        refine xIf_F rfl ?_
        walk_at "rd"
        refine xIf_T rfl ?_
        walk_at "rd"
        exact st_pop0 w 5 rfl fun H1 w1 => k H1 a.k w1
      | nil =>
        have er : fillF ⟨q, num, true, again, [], gone, behind⟩ = ⟨q, (mixL num q.turn).1, true, again, (mixL num q.turn).2, gone, behind⟩ := if_pos rfl
        rw [er] at k
        refine xIf_T rfl ?_
        walk_at "rd"
        refine st_call (of_Queue_entries ⟨a.q, q, _, rfl, (w.rot 1 3).now, fun H1 l w1 => ?_⟩)
        have w2 := w.tr w1
        clear w1
        walk_at "rd"
        refine st_call (of_mixed ⟨a.dc, a.ddx, l, num, q.turn.map V.int, _, rfl, (w2.rot 5 1).now, hnum, fun _ _ v => SqL.of (v.get 0 rfl), by rw [List.length_map]; omega, fun H3 dk w4 => ?_⟩)
        have w5 := w2.tr w4
        clear w4 w2
        rw [mixL_map] at w5
        generalize mixL num q.turn = mm at *
        obtain ⟨n', ys⟩ := mm
        dsimp only at k
        walk_at "rd"
        refine sf_Order_deck T w5 6 rfl fun H4 w6 => ?_
        have w7 : W H H4 (orL A { a with k := dk } ⟨q, n', true, again, ys, gone, behind⟩ ++ R) := w6.pick 8 [6, 3, 4, 5, 1, 0]
        clear w6 w5
        walk_at "rd"
        cases ys with
        | nil =>
          refine xIf_F rfl ?_
          exact k H4 dk w7
        | cons y r =>
          refine xIf_T rfl ?_
          walk_at "rd"
          exact st_pop0 w7 5 rfl fun H5 w8 => k H5 dk w8
theorem ok_Order_began (T : Txt K mg A) : FnOk P w K mg base (L2.CX P w) 2 A.f_Order_began A.d_Order_began P_Order_began (sp_Order_began A) := by
  refine T.F_Order_began.okX sc_Order_began (fun vs H Q E h => ?_) (fun cdv Ar outer s H vs Q E hr h => ?_)
  · unfold sp_Order_began at h; obtain ⟨a, s, e, R, rfl, _⟩ := h; rfl
  · unfold sp_Order_began at h; obtain ⟨a, s, e, R, rfl, w, ok, k⟩ := h
    refine ⟨_, (pss_cons (my_if (pt_cmpR op_in_seq (pv 1) (my_meth0 (pe_fld (pv 0) rfl) T.c_Queue T.m_Queue_entries (ok_Queue_entries T) (hr.mono (by decide)) T.b_Queue_entries passE) (by rfl))
        (pss_one (my_fld (pv 0) pe_bl))
        pss_nil)
      (pss_one (my_if (pt_cmpR op_in_seq (pv 1) (pe_fld (pv 0) rfl) (by rfl))
        (pss_one (ps_expr (pe_bm PySem.F.plainAttrs_list PySem.F.slot_list_remove PySem.F.type_list_remove my_remove (pe_fld (pv 0) rfl) (pa_cons (pv 1) pa_nil))))
        pss_nil))), ?_⟩
    unfold beganO at k
    walk_at "rd"
    refine st_call (of_Queue_entries ⟨a.q, s.q, _, rfl, (w.rot 1 3).now, fun H1 l w1 => ?_⟩)
    have w2 := w.tr w1
    clear w1
    walk_at "rd"
    refine xIf_2 (fun h => ?_) (fun h => ?_)
    case' refine_1 =>
      have hm : e ∈ s.q.turn := by
        have h : inV (V.int e) (s.q.turn.map V.int) = true := h
        rw [inV_ints] at h; exact of_decide_eq_true h
      rw [if_pos hm] at k
      walk_at "rd"
      refine sf_Order_is_gone T w2 4 rfl fun H2 w3 => ?_
      have w4 : W H H2 (orL A a { s with gone := false } ++ R) := w3.pick 7 [4, 1, 2, 3, 5, 6]
    case' refine_2 =>
      have hm : e ∉ s.q.turn := by
        have h : inV (V.int e) (s.q.turn.map V.int) = false := h
        rw [inV_ints] at h; exact of_decide_eq_false h
      rw [if_neg hm] at k
      have w4 : W H H1 (orL A a s ++ R) := w2.pick 7 [4, 1, 2, 3, 5, 6]
    all_goals
      walk_at "rd"
      refine xIf_2 (fun h => ?_) (fun h => ?_)
      · have hd : e ∈ s.deck := by
          have h : inV (V.int e) (s.deck.map V.int) = true := h
          rw [inV_ints] at h; exact of_decide_eq_true h
        walk_at "rd"
        exact st_rem w4 5 rfl hd fun H3 w5 => k H3 w5
      · have hd : e ∉ s.deck := by
          have h : inV (V.int e) (s.deck.map V.int) = false := h
          rw [inV_ints] at h; exact of_decide_eq_false h
        rw [List.erase_of_not_mem hd] at k
        exact k _ w4
end
end TR

namespace TR
open PySem L2 PyProof.Rows
/-! ### shelves -/
def small : Str := "abcdefghijklmnopqrstuvwxyz"
def okN (x : Str) : Bool := decide (1 ≤ (x.length : Int)) && decide ((x.length : Int) ≤ 6) && (x.cps.toList.map fun c => decide (c ∈ small.cps.toList)).all id
abbrev Sf := List (Str × Int)
def sfK (s : Sf) : List (Key × V) := s.map fun p => (Sum.inr p.1, V.int p.2)
theorem sfK_len (s : Sf) : (sfK s).length = s.length := by unfold sfK; rw [List.length_map]
theorem sfK_keys (s : Sf) : (sfK s).map (·.1) = (s.map (·.1)).map Sum.inr := by unfold sfK; rw [List.map_map, List.map_map]; rfl
structure SA where
  q : Addr
  dx : Addr
  d : Addr
def sL (A : Ads) (a : SA) (s : Sf) : List Ent := [(a.q, .ins A.c_Shelf a.dx (fl_Shelf (.ref a.d))), (a.d, .dK (sfK s))]
def Sf.val (s : Sf) (x : Str) : Option Int := s.lookup x
theorem sfK_val (s : Sf) (x : Str) : valV (sfK s) (Sum.inr x) = (s.lookup x).map V.int := by
  induction s with
  | nil => rfl
  | cons p r ih =>
    show valV ((Sum.inr p.1, V.int p.2) :: sfK r) (Sum.inr x) = _
    rw [List.lookup_cons]
    by_cases h : p.1 = x
    · rw [valV_pos (by rw [h]), h, beq_self_eq_true]; rfl
    · have e2 : (x == p.1) = false := by simpa using fun z : x = p.1 => h z.symm
      rw [valV_neg (fun z => h (Sum.inr.inj z)), e2, ih]
theorem sfK_put {s : Sf} {x : Str} {n : Int} (h : s.lookup x = none) : putK (sfK s) (Sum.inr x) (.int n) = sfK (s ++ [(x, n)]) := by
  rw [putK_new _ (by rw [sfK_val, h]; rfl)]
  unfold sfK
  rw [List.map_append]
  rfl
@[irreducible] def sp_look_name (A : Ads) : Sp := fun vs H Q E => ∃ (x : Str) (R : List Ent), vs = [.str x] ∧ W H H R ∧ x.length < 1000 ∧ (okN x = true → ∀ H', W H H' R → Q .non H') ∧ (okN x = false → ∀ H', W H H' R → E (.ref A.c_BadTune) none H')
theorem of_look_name {A : Ads} {vs : List V} {H : Hp} {Q : VK} {E : XK} (h :  ∃ (x : Str) (R : List Ent), vs = [.str x] ∧ W H H R ∧ x.length < 1000 ∧ (okN x = true → ∀ H', W H H' R → Q .non H') ∧ (okN x = false → ∀ H', W H H' R → E (.ref A.c_BadTune) none H')) : sp_look_name A vs H Q E := by unfold sp_look_name; exact h
@[irreducible] def sp_Shelf_init (A : Ads) : Sp := fun vs H Q _ => ∃ (q dx : Addr) (R : List Ent), vs = [.ref q] ∧ W H H ((q, .ins A.c_Shelf dx []) :: R) ∧ ∀ H' d, W H H' (sL A ⟨q, dx, d⟩ [] ++ R) → Q .non H'
theorem of_Shelf_init {A : Ads} {vs : List V} {H : Hp} {Q : VK} {E : XK} (h :  ∃ (q dx : Addr) (R : List Ent), vs = [.ref q] ∧ W H H ((q, .ins A.c_Shelf dx []) :: R) ∧ ∀ H' d, W H H' (sL A ⟨q, dx, d⟩ [] ++ R) → Q .non H') : sp_Shelf_init A vs H Q E := by unfold sp_Shelf_init; exact h
@[irreducible] def sp_Shelf_add (A : Ads) : Sp := fun vs H Q E => ∃ (a : SA) (s : Sf) (x : Str) (n : Int) (R : List Ent), vs = [.ref a.q, .str x, .int n] ∧ W H H (sL A a s ++ R) ∧ x.length < 1000 ∧ s.length < 1000 ∧
  (okN x = true → s.lookup x = none → s.length ≠ 6 → 1 ≤ n ∧ n ≤ 40 → ∀ H', W H H' (sL A a (s ++ [(x, n)]) ++ R) → Q .non H') ∧
  (¬ (okN x = true ∧ s.lookup x = none ∧ s.length ≠ 6) → ∀ H', W H H' (sL A a s ++ R) → E (.ref A.c_BadTune) none H') ∧
  (okN x = true → s.lookup x = none → s.length ≠ 6 → ¬ (1 ≤ n ∧ n ≤ 40) → ∀ H', W H H' (sL A a s ++ R) → E (.ref A.c_BadNumber) none H')
theorem of_Shelf_add {A : Ads} {vs : List V} {H : Hp} {Q : VK} {E : XK} (h :  ∃ (a : SA) (s : Sf) (x : Str) (n : Int) (R : List Ent), vs = [.ref a.q, .str x, .int n] ∧ W H H (sL A a s ++ R) ∧ x.length < 1000 ∧ s.length < 1000 ∧
  (okN x = true → s.lookup x = none → s.length ≠ 6 → 1 ≤ n ∧ n ≤ 40 → ∀ H', W H H' (sL A a (s ++ [(x, n)]) ++ R) → Q .non H') ∧
  (¬ (okN x = true ∧ s.lookup x = none ∧ s.length ≠ 6) → ∀ H', W H H' (sL A a s ++ R) → E (.ref A.c_BadTune) none H') ∧
  (okN x = true → s.lookup x = none → s.length ≠ 6 → ¬ (1 ≤ n ∧ n ≤ 40) → ∀ H', W H H' (sL A a s ++ R) → E (.ref A.c_BadNumber) none H')) : sp_Shelf_add A vs H Q E := by unfold sp_Shelf_add; exact h
@[irreducible] def sp_Shelf_need (A : Ads) : Sp := fun vs H Q E => ∃ (a : SA) (s : Sf) (x : Str) (R : List Ent), vs = [.ref a.q, .str x] ∧ W H H (sL A a s ++ R) ∧ (s.lookup x ≠ none → Q .non H) ∧ (s.lookup x = none → E (.ref A.c_BadTune) none H)
theorem of_Shelf_need {A : Ads} {vs : List V} {H : Hp} {Q : VK} {E : XK} (h :  ∃ (a : SA) (s : Sf) (x : Str) (R : List Ent), vs = [.ref a.q, .str x] ∧ W H H (sL A a s ++ R) ∧ (s.lookup x ≠ none → Q .non H) ∧ (s.lookup x = none → E (.ref A.c_BadTune) none H)) : sp_Shelf_need A vs H Q E := by unfold sp_Shelf_need; exact h
@[irreducible] def sp_Shelf_long (A : Ads) : Sp := fun vs H Q E => ∃ (a : SA) (s : Sf) (x : Str) (R : List Ent), vs = [.ref a.q, .str x] ∧ W H H (sL A a s ++ R) ∧ (∀ n, s.lookup x = some n → Q (.int n) H) ∧ (s.lookup x = none → E (.ref A.c_BadTune) none H)
theorem of_Shelf_long {A : Ads} {vs : List V} {H : Hp} {Q : VK} {E : XK} (h :  ∃ (a : SA) (s : Sf) (x : Str) (R : List Ent), vs = [.ref a.q, .str x] ∧ W H H (sL A a s ++ R) ∧ (∀ n, s.lookup x = some n → Q (.int n) H) ∧ (s.lookup x = none → E (.ref A.c_BadTune) none H)) : sp_Shelf_long A vs H Q E := by unfold sp_Shelf_long; exact h
@[irreducible] def sp_Shelf_names (A : Ads) : Sp := fun vs H Q _ => ∃ (a : SA) (s : Sf) (R : List Ent), vs = [.ref a.q] ∧ W H H (sL A a s ++ R) ∧ s.length < 64 ∧ ∀ (ys : List Str) p H', ys.Perm (s.map (·.1)) → sortedS ys = true → W H H' ((p, .lst (ys.map V.str)) :: (sL A a s ++ R)) → Q (.ref p) H'
theorem of_Shelf_names {A : Ads} {vs : List V} {H : Hp} {Q : VK} {E : XK} (h :  ∃ (a : SA) (s : Sf) (R : List Ent), vs = [.ref a.q] ∧ W H H (sL A a s ++ R) ∧ s.length < 64 ∧ ∀ (ys : List Str) p H', ys.Perm (s.map (·.1)) → sortedS ys = true → W H H' ((p, .lst (ys.map V.str)) :: (sL A a s ++ R)) → Q (.ref p) H') : sp_Shelf_names A vs H Q E := by unfold sp_Shelf_names; exact h
section
variable {P : Program} {w : World} {K : PySem.W.Frag} {mg : Str → Option Value} {base : Heap} {A : Ads}
theorem ok_look_name (T : Txt K mg A) : FnOk P w K mg base (L2.CX P w) 1 A.f_look_name A.d_look_name P_look_name (sp_look_name A) := by
  refine T.F_look_name.okX sc_look_name (fun vs H Q E h => ?_) (fun cdv Ar outer s H vs Q E hr h => ?_)
  · unfold sp_look_name at h; obtain ⟨x, R, rfl, _⟩ := h; rfl
  · unfold sp_look_name at h; obtain ⟨x, R, rfl, w, hx, k1, k2⟩ := h
    refine ⟨_, (pss_one (my_if (PW.pt (my_or (pt_not (my_chIT op_le op_le pe_int (pe_callB my_lenSQ (by rfl) T.z_len PySem.boot_len (pa_cons (pv 0) pa_nil)) (my_globI T.gi_MOST_NAME (by rfl)) still_c (still_lenS still_v) still_c)) (pw_or1 (pt_not (pt_val (pe_callB (cr_all rfl) (by rfl) T.z_all (by decide +kernel) (pa_cons (my_lc (own := [("sign", 1)]) rfl sc_look_name.nd (pi_str (pv 0)) (blkOk_by (own := [("sign", 1)]) (N := N_look_name) (sc := defScope s_look_name) (by decide +kernel)) (fun _ _ _ _ _ => (pg_name (i := 1) sc_look_name.nd rfl (by first | exact Or.inl rfl | exact Or.inr rfl))) (fun _ _ _ _ _ => pts_nil) (fun _ _ _ _ _ => (pe_cmpR op_in_sign (pv 1) (my_globS T.gi_SMALL (by rfl)) (by rfl)))) pa_nil)))))))
        (pss_one (ps_raise rfl takesE (pmk_own PySem.F.excBase_ValueError T.x_BadTune T.g_BadTune T.k_BadTune (raises_own T.r_BadTune T.t_BadTune) (by rfl))))
        pss_nil)), ?_⟩
    have hxs : x.length ≤ sizeLine := szE (by omega)
    walk_at "rd"
    refine xIf_2 (fun h => ?_) (fun h => ?_)
    · refine xIf_T rfl (k2 ?_ _ w)
      have h1 := nb_t h
      unfold okN
      by_cases a1 : 1 ≤ (x.length : Int)
      · have a2 : ¬ (x.length : Int) ≤ 6 := fun z => h1 ⟨a1, z⟩
        rw [decide_eq_false a2, Bool.and_false, Bool.false_and]
      · rw [decide_eq_false a1, Bool.false_and, Bool.false_and]
    · have h1 := nb_f h
      walk_at "rd"
      refine st_lcS (fun D i H' => W H H' ((D, .lst (((x.cps.toList.take i).map fun c => decide (c ∈ small.cps.toList)).map V.bl)) :: R)) w (fun D H' w1 => w1) ?_ ?_
      · intro D i c H' hc w1
        walk_at "rd"
        refine xIf_T rfl ?_
        walk_at "rd"
        have hi := (List.getElem?_eq_some_iff.mp hc).1
        have hxl : x.cps.toList.length = x.length := by simp [Str.length]
        refine st_acc w1 0 rfl (by walk_at "sz") fun H2 w2 => ?_
        have e : (x.cps.toList.take (i + 1)) = x.cps.toList.take i ++ [c] := by rw [List.take_succ, hc]; rfl
        show W H H2 _
        rw [e, List.map_append, List.map_append]
        exact w2
      · intro D H' w1
        rw [List.take_length] at w1
        walk_at "rd"
        refine xIf_2 (fun h => k2 ?_ _ w1.drop1) (fun h => k1 ?_ _ w1.drop1)
        · unfold okN
          rw [decide_eq_true h1.1, decide_eq_true h1.2]
          simpa using h
        · unfold okN
          rw [decide_eq_true h1.1, decide_eq_true h1.2]
          simpa using h
theorem ok_Shelf_init__ (T : Txt K mg A) : FnOk P w K mg base (L2.CX P w) 1 A.f_Shelf_init__ A.d_Shelf_init__ P_Shelf_init__ (sp_Shelf_init A) := by
  refine T.F_Shelf_init__.okX sc_Shelf_init__ (fun vs H Q E h => ?_) (fun cdv Ar outer s H vs Q E hr h => ?_)
  · unfold sp_Shelf_init at h; obtain ⟨q, dx, R, rfl, _⟩ := h; rfl
  · unfold sp_Shelf_init at h; obtain ⟨q, dx, R, rfl, w, k⟩ := h
    refine ⟨_, (pss_one (my_fld (pv 0) my_dnew)), ?_⟩
    refine st_new w fun d H1 w1 => ?_
    walk_at "rd"
    refine st_fld w1 1 rfl T.c_Shelf T.n_Shelf_longs (by decide) fun H2 w2 => ?_
    exact k H2 d (w2.rot 1 1)
theorem ok_Shelf_add (T : Txt K mg A) : FnOk P w K mg base (L2.CX P w) 2 A.f_Shelf_add A.d_Shelf_add P_Shelf_add (sp_Shelf_add A) := by
  refine T.F_Shelf_add.okX sc_Shelf_add (fun vs H Q E h => ?_) (fun cdv Ar outer s H vs Q E hr h => ?_)
  · unfold sp_Shelf_add at h; obtain ⟨a, s, x, n, R, rfl, _⟩ := h; rfl
  · unfold sp_Shelf_add at h; obtain ⟨a, s, x, n, R, rfl, w, hx, hz, k1, k2, k3⟩ := h
    refine ⟨_, (pss_cons (ps_expr (my_call (ok_look_name T) (hr.mono (by decide)) (by rfl) T.g_look_name T.k_look_name T.b_look_name passE (pa_cons (pv 1) pa_nil)))
      (pss_cons (my_if (PW.pt (my_or (pt_cmp (pc_din (hu_of hr) (pv 1) (pe_fld (pv 0) rfl)) (by rfl)) (pw_or1 (pt_cmpR op_eq (pe_callB call_lenD (by rfl) T.z_len PySem.boot_len (pa_cons (pe_fld (pv 0) rfl) pa_nil)) (my_globI T.gi_MOST_TUNES (by rfl)) (nomark _)))))
        (pss_one (ps_raise rfl takesE (pmk_own PySem.F.excBase_ValueError T.x_BadTune T.g_BadTune T.k_BadTune (raises_own T.r_BadTune T.t_BadTune) (by rfl))))
        pss_nil)
      (pss_cons (my_if (pt_not (my_chIT op_le op_le pe_int (pv 2) (my_globI T.gi_MOST_LONG (by rfl)) still_c still_v still_c))
        (pss_one (ps_raise rfl takesE (pmk_own PySem.F.excBase_ValueError T.x_BadNumber T.g_BadNumber T.k_BadNumber (raises_own T.r_BadNumber T.t_BadNumber) (by rfl))))
        pss_nil)
      (pss_one (my_dput (hu_of hr) (pe_fld (pv 0) rfl) (pv 1) (pv 2)))))), ?_⟩
    walk_at "rd"
    refine st_call (of_look_name ⟨x, _, rfl, w, hx, fun hn H1 w1 => ?_, fun hn H1 w1 => k2 (fun z => by rw [hn] at z; cases z.1) _ w1⟩)
    walk_at "rd"
    rw [sfK_val]
    cases e : s.lookup x with
    | some m => exact xIf_T rfl (xIf_T rfl (k2 (fun z => by rw [e] at z; cases z.2.1) _ w1))
    | none =>
      refine xIf_F rfl ?_
      walk_at "rd"
      rw [sfK_len]
      refine xIf_2 (fun h => ?_) (fun h => ?_)
      · have h6 := de_t h
        exact k2 (fun z => z.2.2 (by omega)) _ w1
      · have h6 := de_f h
        walk_at "rd"
        refine xIf_2 (fun h => k3 hn e (by omega) (nb_t h) _ w1) (fun h => ?_)
        have h1 := nb_f h
        walk_at "rd"
        refine st_dput w1 1 (key := Sum.inr _) rfl rfl (by rw [sfK_len]; exact szL (by omega)) fun H2 w2 => ?_
        refine k1 hn e (by omega) h1 _ ?_
        rw [sfK_put e] at w2
        exact w2
theorem ok_Shelf_need (T : Txt K mg A) : FnOk P w K mg base (L2.CX P w) 1 A.f_Shelf_need A.d_Shelf_need P_Shelf_need (sp_Shelf_need A) := by
  refine T.F_Shelf_need.okX sc_Shelf_need (fun vs H Q E h => ?_) (fun cdv Ar outer s H vs Q E hr h => ?_)
  · unfold sp_Shelf_need at h; obtain ⟨a, s, x, R, rfl, _⟩ := h; rfl
  · unfold sp_Shelf_need at h; obtain ⟨a, s, x, R, rfl, w, k1, k2⟩ := h
    refine ⟨_, (pss_one (my_if (pt_cmp (pc_dnotin (hu_of hr) (pv 1) (pe_fld (pv 0) rfl)) (by rfl))
        (pss_one (ps_raise rfl takesE (pmk_own PySem.F.excBase_ValueError T.x_BadTune T.g_BadTune T.k_BadTune (raises_own T.r_BadTune T.t_BadTune) (by rfl))))
        pss_nil)), ?_⟩
    walk_at "rd"
    rw [sfK_val]
    cases e : s.lookup x with
    | none => exact xIf_T rfl (k2 e)
    | some m => exact xIf_F rfl (k1 (by rw [e]; exact fun z => nomatch z))
theorem ok_Shelf_long (T : Txt K mg A) : FnOk P w K mg base (L2.CX P w) 2 A.f_Shelf_long A.d_Shelf_long P_Shelf_long (sp_Shelf_long A) := by
  refine T.F_Shelf_long.okX sc_Shelf_long (fun vs H Q E h => ?_) (fun cdv Ar outer s H vs Q E hr h => ?_)
  · unfold sp_Shelf_long at h; obtain ⟨a, s, x, R, rfl, _⟩ := h; rfl
  · unfold sp_Shelf_long at h; obtain ⟨a, s, x, R, rfl, w, k1, k2⟩ := h
    refine ⟨_, (pss_cons (ps_expr (my_meth (pv 0) T.c_Shelf T.m_Shelf_need (ok_Shelf_need T) (hr.mono (by decide)) T.b_Shelf_need passE (pa_cons (pv 1) pa_nil)))
      (pss_one (ps_ret (pe_dget (hu_of hr) (pe_fld (pv 0) rfl) (pv 1) (fun _ _ => rfl))))), ?_⟩
    walk_at "rd"
    refine st_call (of_Shelf_need ⟨a, s, x, R, rfl, w, fun hn => ?_, k2⟩)
    cases e : s.lookup x with
    | none => exact absurd e hn
    | some m =>
      walk_at "rd"
      refine ⟨?_, k1 m e⟩
      have hv := sfK_val s x
      rw [e] at hv
      show DGet H a.d (.str x) (some (.int m))
      rw [show some (V.int m) = valV (sfK s) (Sum.inr x) from hv.symm]
      exact DGet.k (k := Sum.inr x) (w.get 1 rfl)
theorem ok_Shelf_names (T : Txt K mg A) : FnOk P w K mg base (L2.CX P w) 1 A.f_Shelf_names A.d_Shelf_names P_Shelf_names (sp_Shelf_names A) := by
  refine T.F_Shelf_names.okX sc_Shelf_names (fun vs H Q E h => ?_) (fun cdv Ar outer s H vs Q E hr h => ?_)
  · unfold sp_Shelf_names at h; obtain ⟨a, s, R, rfl, _⟩ := h; rfl
  · unfold sp_Shelf_names at h; obtain ⟨a, s, R, rfl, w, hz, k⟩ := h
    refine ⟨_, (pss_one (ps_ret (my_sortedKeys rfl (by rfl) T.z_sorted (pe_fld (pv 0) rfl)))), ?_⟩
    walk_at "rd"
    exact st_sortD w 1 rfl (sfK_keys s) (by rw [List.length_map]; exact hz) k
end
end TR
namespace TR
open PySem L2
/-! ### players, as plain data -/
structure Pl where
  ov : Int
  o : Or
  time : Int
  now : Option Int
  spot : Int
  old : Option (Int × Int × Int)
  soon : List Int
  past : List Int
  rows : List (Int × Int)
  plays : Bool
  stops : Bool
  sleep : Option Int
def longO (f : Sf) (o : Or) (e : Int) : Int := (f.lookup (o.q.tune e)).getD 0
def pl0 (ov n : Int) : Pl := ⟨ov, order0 n, 0, none, 0, none, [], [], [], false, false, none⟩
def nextV (s : Pl) (l : Bool) : Option Int := match s.soon with
  | x :: _ => some x
  | [] => if l = true then skipV s.o s.now else afterV s.o s.now
def nextS (s : Pl) (l : Bool) : Pl := match s.soon with
  | _ :: r => { s with soon := r }
  | [] => { s with o := if l = true then skipS s.o s.now else afterS s.o s.now }
def oldJ (f : Sf) (s : Pl) (j : Bool) : Option (Int × Int × Int) := if j = true then s.now.map fun n => (n, s.spot, longO f s.o n - s.spot) else none
def beginP (f : Sf) (s : Pl) (e : Option Int) (j : Bool) : Pl := match e with
  | none => { s with old := oldJ f s j, now := none, spot := 0 }
  | some x => { s with old := oldJ f s j, now := some x, spot := 0, o := beganO s.o x, rows := s.rows ++ [(s.time, x)] }
def pushN (s : Pl) : Pl := match s.now with
  | none => s
  | some n => { s with past := s.past ++ [n] }
def playP (f : Sf) (s : Pl) (e : Int) : Pl := { beginP f (pushN s) (some e) false with plays := true }
def resumeP (f : Sf) (s : Pl) : Pl := match s.now with
  | some _ => { s with plays := true }
  | none => match s.soon with
    | x :: r => { beginP f { s with soon := r } (some x) false with plays := true }
    | [] => match firstV s.o with
      | none => { s with o := firstS s.o, plays := false }
      | some x => { beginP f { s with o := firstS s.o } (some x) false with plays := true }
def skipP (f : Sf) (s : Pl) : Pl := { beginP f (pushN (nextS s true)) (nextV s true) false with plays := s.plays && (nextV s true).isSome }
def dropT (turn past : List Int) : List Int := (past.reverse.dropWhile fun x => decide (x ∉ turn)).reverse
def backSoon (s : Pl) : List Int := match s.now with
  | none => s.soon
  | some n => if n ∈ s.o.q.turn then n :: s.soon else s.soon
def againP (f : Sf) (s : Pl) : Pl := match s.now with
  | none => s
  | some n => beginP f s (some n) false
def backP (f : Sf) (s : Pl) : Pl := match (dropT s.o.q.turn s.past).getLast? with
  | none => againP f { s with past := dropT s.o.q.turn s.past }
  | some y => if 3 < s.spot then againP f { s with past := dropT s.o.q.turn s.past }
    else beginP f { s with past := (dropT s.o.q.turn s.past).dropLast, soon := backSoon s } (some y) false
def seekP (s : Pl) (n : Int) : Pl := { s with spot := n, old := none }
def joinL (f : Sf) (s : Pl) (n x : Int) : Int := mn2 (mn2 s.ov (longO f s.o n / 2)) (longO f s.o x / 2)
def foundP (s : Pl) : Option Int := if s.stops = true then none else nextV s false
def goOn (f : Sf) (s : Pl) (n x : Int) : Pl := beginP f { nextS s false with past := s.past ++ [n] } (some x) (decide (s.spot < longO f s.o n))
def endP (f : Sf) (s : Pl) (n : Int) : Pl := { beginP f { s with past := s.past ++ [n] } none false with plays := false, stops := false }
def turnP (f : Sf) (s : Pl) : Pl := match s.now with
  | none => s
  | some n => match foundP s with
    | some x => if longO f s.o n - joinL f s n x ≤ s.spot then goOn f s n x else s
    | none => if longO f s.o n ≤ s.spot then endP f s n else s
def oldP (f : Sf) (s : Pl) : Option (Int × Int × Int) := match s.old with
  | none => none
  | some (e, p, l) => if p + 1 < longO f s.o e then some (e, p + 1, l) else none
def sleepP (s : Pl) : Pl := match s.sleep with
  | none => s
  | some k => if k - 1 = 0 then { s with sleep := none, plays := false } else { s with sleep := some (k - 1) }
def preP (f : Sf) (s : Pl) : Pl := { s with time := s.time + 1, spot := s.spot + 1, old := oldP f s }
def stepP (f : Sf) (s : Pl) : Pl := sleepP (turnP f (preP f s))
def tick1 (f : Sf) (s : Pl) : Pl := if s.plays = true then stepP f s else s
def tickP (f : Sf) : Nat → Pl → Pl
  | 0, s => s
  | n + 1, s => tickP f n (tick1 f s)
def soundsP (f : Sf) (s : Pl) : List (Int × Int × Int × Int) := match s.now with
  | none => []
  | some n => match s.old with
    | none => [(n, s.spot, 1, 1)]
    | some (e, p, w) => [(e, p, longO f s.o e - p, w), (n, s.spot, w - (longO f s.o e - p), w)]
def addP (s : Pl) (x : Str) (p : Int) : Pl := { s with o := putO s.o x p }
def removeP (s : Pl) (e : Int) : Pl := { s with o := remO s.o e s.now, soon := s.soon.filter fun x => !decide (V.int x = V.int e) }
def moveP (s : Pl) (e p : Int) : Pl := { s with o := movO s.o e p }
def soonP (s : Pl) (e : Int) : Pl := { s with soon := s.soon ++ [e] }
def againS (s : Pl) (x : Str) : Pl := { s with o := { s.o with again := x } }
def mixedP (s : Pl) (b : Bool) : Pl := { s with o := setM s.o b s.now }
/-- steps till so many rows are there, or it ends -/
def goP (f : Sf) (n : Nat) : Nat → Pl → Pl
  | 0, s => s
  | m + 1, s => if s.plays = true ∧ s.rows.length < n then goP f n m (stepP f s) else s
def wakeP (s : Pl) : Pl := { s with sleep := none, plays := s.now.isSome }
def aheadFuel : Nat := 1000
def aheadS (f : Sf) (s : Pl) (m : Nat) : Pl := goP f (s.rows.length + m) aheadFuel (wakeP s)
def aheadP (f : Sf) (s : Pl) (m : Nat) : List (Int × Int) := ((aheadS f s m).rows.drop s.rows.length).map fun p => (p.1 - s.time, p.2)
/-! what holds -/
def Or.has (o : Or) (e : Int) : Prop := 1 ≤ e ∧ e ≤ o.q.tunes.length
/-- an entry whose tune is on the shelf -/
structure Kn (f : Sf) (o : Or) (e : Int) : Prop where
  has : o.has e
  lk : f.lookup (o.q.tune e) = some (longO f o e)
  lo : 1 ≤ longO f o e
  hi : longO f o e ≤ 40
def TnOk (f : Sf) (o : Or) : Prop := ∀ x ∈ o.q.tunes, ∃ n, f.lookup x = some n ∧ 1 ≤ n ∧ n ≤ 40
theorem TnOk.kn {f : Sf} {o : Or} (h : TnOk f o) {e : Int} (he : o.has e) : Kn f o e := by
  have hm : o.q.tune e ∈ o.q.tunes := by
    unfold Qu.tune
    have hl : (e - 1).toNat < o.q.tunes.length := by have := he.1; have := he.2; omega
    rw [List.getD_eq_getElem?_getD, List.getElem?_eq_getElem hl]
    exact List.getElem_mem hl
  obtain ⟨n, h1, h2, h3⟩ := h _ hm
  have e1 : longO f o e = n := by unfold longO; rw [h1]; rfl
  exact ⟨he, by rw [h1, e1], by rw [e1]; exact h2, by rw [e1]; exact h3⟩
/-- d: by how much the spot may be beyond the last one -/
structure Pl.OkB (f : Sf) (d : Int) (s : Pl) : Prop where
  o : s.o.Ok
  ov : 0 ≤ s.ov ∧ s.ov ≤ 9
  tn : TnOk f s.o
  nw : ∀ n, s.now = some n → s.o.has n ∧ 0 ≤ s.spot ∧ s.spot < longO f s.o n + d
  n0 : s.now = none → s.spot = 0 ∧ s.plays = false
  od : ∀ e p l, s.old = some (e, p, l) → s.o.has e
  sn : ∀ e ∈ s.soon, e ∈ s.o.q.turn
  ps : ∀ e ∈ s.past, s.o.has e
  sl : ∀ k, s.sleep = some k → 1 ≤ k
abbrev Pl.Ok (f : Sf) (s : Pl) : Prop := s.OkB f 0
structure Sz (s : Pl) (n : Nat) : Prop where
  r : s.rows.length ≤ n
  p : s.past.length ≤ n
  s : s.soon.length ≤ n
theorem Or.Ok.has {o : Or} (h : o.Ok) {e : Int} (he : e ∈ o.q.turn) : o.has e := h.q.bd e he
theorem skipV_mem {o : Or} (h : o.Ok) {e : Option Int} {x : Int} (hx : skipV o e = some x) : x ∈ o.q.turn := by
  unfold skipV at hx
  split at hx
  · have h1 := (h.refill e).sub x (List.mem_of_mem_head? hx)
    have h2 : (refill o e).q = o.q := by unfold refill; split <;> rfl
    rw [h2] at h1
    exact h1
  · unfold plainN at hx
    have tl : ∀ g : Option Int, (if o.gone = true then o.behind else o.q.turn.head?) = g → g = some x → x ∈ o.q.turn := by
      intro g hg hx
      rw [hx] at hg
      split at hg
      · rename_i hgo
        exact h.bh hgo x hg
      · exact List.mem_of_mem_head? hg
    have fr : ∀ y, fromO o e = some y → y = x → x ∈ o.q.turn := by
      intro y hy e1
      subst e1
      unfold fromO at hy
      cases e with
      | none => exact tl _ rfl hy
      | some z =>
        simp only at hy
        split at hy
        · exact behindOf_mem hy
        · exact tl _ rfl hy
    cases hf : fromO o e with
    | some y => rw [hf] at hx; exact fr y hf (Option.some.inj hx)
    | none =>
      rw [hf] at hx
      simp only at hx
      split at hx
      · exact List.mem_of_mem_head? hx
      · cases hx
theorem afterV_mem {o : Or} (h : o.Ok) {e : Option Int} {x : Int} (hx : afterV o e = some x) : x ∈ o.q.turn := by
  unfold afterV at hx
  split at hx
  · rename_i h1
    obtain ⟨_, y, hy, hm⟩ := h1
    rw [hy] at hx
    cases hx
    exact hm
  · exact skipV_mem h hx
theorem firstV_mem {o : Or} (h : o.Ok) {x : Int} (hx : firstV o = some x) : x ∈ o.q.turn := by
  unfold firstV at hx
  split at hx
  · have h1 := h.fill.sub x (List.mem_of_mem_head? hx)
    have h2 : (fillF o).q = o.q := by unfold fillF; split <;> rfl
    rw [h2] at h1
    exact h1
  · exact List.mem_of_mem_head? hx
theorem skipS_q (o : Or) (e : Option Int) : (skipS o e).q = o.q := by
  unfold skipS
  split
  · show (refill o e).q = o.q
    unfold refill; split <;> rfl
  · rfl
theorem afterS_q (o : Or) (e : Option Int) : (afterS o e).q = o.q := by
  unfold afterS
  split
  · rfl
  · exact skipS_q o e
theorem firstS_q (o : Or) : (firstS o).q = o.q := by
  unfold firstS
  split
  · show (fillF o).q = o.q
    unfold fillF; split <;> rfl
  · rfl
theorem longO_q {f : Sf} {o o' : Or} (h : o'.q = o.q) (e : Int) : longO f o' e = longO f o e := by unfold longO; rw [h]
theorem has_q {o o' : Or} (h : o'.q = o.q) {e : Int} (he : o.has e) : o'.has e := by unfold Or.has; rw [h]; exact he
theorem nextV_mem {s : Pl} (h : s.o.Ok) (hs : ∀ e ∈ s.soon, e ∈ s.o.q.turn) {l : Bool} {x : Int} (hx : nextV s l = some x) : x ∈ s.o.q.turn := by
  unfold nextV at hx
  split at hx
  · rename_i y r e
    cases hx
    exact hs _ (by rw [e]; exact List.mem_cons_self)
  · split at hx
    · exact skipV_mem h hx
    · exact afterV_mem h hx
theorem nextS_o (s : Pl) (l : Bool) : (nextS s l).o.q = s.o.q := by
  unfold nextS
  split
  · rfl
  · show (if l = true then skipS s.o s.now else afterS s.o s.now).q = s.o.q
    split
    · exact skipS_q _ _
    · exact afterS_q _ _
theorem nextS_ok {s : Pl} (h : s.o.Ok) (l : Bool) : (nextS s l).o.Ok := by
  unfold nextS
  split
  · exact h
  · show (if l = true then skipS s.o s.now else afterS s.o s.now).Ok
    split
    · exact h.skip _
    · exact h.after _
theorem nextS_soon (s : Pl) (l : Bool) : ∀ e ∈ (nextS s l).soon, e ∈ s.soon := by
  intro e he
  unfold nextS at he
  split at he
  · rename_i y r e1
    rw [e1]
    exact List.mem_cons_of_mem _ he
  · exact he
theorem nextS_same (s : Pl) (l : Bool) : nextS s l = { s with o := (nextS s l).o, soon := (nextS s l).soon } := by unfold nextS; split <;> rfl
/-- a change of the order that leaves the queue -/
theorem Pl.OkB.order {f : Sf} {d : Int} {s : Pl} (h : s.OkB f d) {o : Or} (ho : o.Ok) (hq : o.q = s.o.q) : ({ s with o := o } : Pl).OkB f d :=
  ⟨ho, h.ov, (fun x hx => h.tn x (by rw [← hq]; exact hx)), (fun n hn => ⟨has_q hq (h.nw n hn).1, (h.nw n hn).2.1, by show _ < longO f o n + d; rw [longO_q hq]; exact (h.nw n hn).2.2⟩), h.n0,
    (fun e p l e1 => has_q hq (h.od e p l e1)), (fun e he => by show e ∈ o.q.turn; rw [hq]; exact h.sn e he), (fun e he => has_q hq (h.ps e he)), h.sl⟩
theorem Pl.OkB.soon {f : Sf} {d : Int} {s : Pl} (h : s.OkB f d) {xs : List Int} (hx : ∀ e ∈ xs, e ∈ s.o.q.turn) : ({ s with soon := xs } : Pl).OkB f d := ⟨h.o, h.ov, h.tn, h.nw, h.n0, h.od, hx, h.ps, h.sl⟩
theorem Pl.OkB.past {f : Sf} {d : Int} {s : Pl} (h : s.OkB f d) {xs : List Int} (hx : ∀ e ∈ xs, s.o.has e) : ({ s with past := xs } : Pl).OkB f d := ⟨h.o, h.ov, h.tn, h.nw, h.n0, h.od, h.sn, hx, h.sl⟩
theorem Pl.OkB.next {f : Sf} {d : Int} {s : Pl} (h : s.OkB f d) (l : Bool) : (nextS s l).OkB f d := by
  have h1 := (h.order (nextS_ok h.o l) (nextS_o s l)).soon (xs := (nextS s l).soon) (fun e he => by show e ∈ (nextS s l).o.q.turn; rw [nextS_o]; exact h.sn e (nextS_soon s l e he))
  rw [nextS_same]
  exact h1
theorem Pl.OkB.push {f : Sf} {d : Int} {s : Pl} (h : s.OkB f d) : (pushN s).OkB f d := by
  unfold pushN
  split
  · exact h
  · rename_i n hn
    refine h.past fun e he => ?_
    rcases List.mem_append.mp he with q | q
    · exact h.ps e q
    · rw [List.mem_singleton.mp q]
      exact (h.nw n hn).1
/-- an entry begins; d gives way to 0 -/
theorem Pl.OkB.begin {f : Sf} {d : Int} {s : Pl} (h : s.OkB f d) {x : Int} (hx : s.o.has x) (j : Bool) : (beginP f s (some x) j).Ok f := by
  have hq : (beganO s.o x).q = s.o.q := rfl
  have hk := h.tn.kn hx
  refine ⟨h.o.began x, h.ov, h.tn, ?_, (fun z => nomatch z), ?_, h.sn, h.ps, h.sl⟩
  · intro n hn
    cases hn
    exact ⟨hx, Int.le_refl 0, by show (0 : Int) < longO f s.o x + 0; have := hk.lo; omega⟩
  · intro e p l he
    have he : oldJ f s j = some (e, p, l) := he
    unfold oldJ at he
    split at he
    · cases hn : s.now with
      | none => rw [hn] at he; cases he
      | some n =>
        rw [hn] at he
        cases he
        exact (h.nw e hn).1
    · cases he
theorem Pl.OkB.plays {f : Sf} {d : Int} {s : Pl} (h : s.OkB f d) {b c : Bool} (hb : s.now = none → b = false) : ({ s with plays := b, stops := c } : Pl).OkB f d := ⟨h.o, h.ov, h.tn, h.nw, (fun z => ⟨(h.n0 z).1, hb z⟩), h.od, h.sn, h.ps, h.sl⟩
theorem Pl.OkB.plays1 {f : Sf} {d : Int} {s : Pl} (h : s.OkB f d) {b : Bool} (hb : s.now = none → b = false) : ({ s with plays := b } : Pl).OkB f d := ⟨h.o, h.ov, h.tn, h.nw, (fun z => ⟨(h.n0 z).1, hb z⟩), h.od, h.sn, h.ps, h.sl⟩
/-- nothing is now -/
theorem Pl.OkB.rest {f : Sf} {d : Int} {s : Pl} (h : s.OkB f d) (c : Bool) : ({ beginP f s none false with plays := false, stops := c } : Pl).Ok f :=
  ⟨h.o, h.ov, h.tn, (fun n z => nomatch z), (fun _ => ⟨rfl, rfl⟩), (fun e p l z => nomatch z), h.sn, h.ps, h.sl⟩
theorem Pl.Ok.play {f : Sf} {s : Pl} (h : s.Ok f) {e : Int} (he : e ∈ s.o.q.turn) : (playP f s e).Ok f := by
  have h1 : (pushN s).o = s.o := by unfold pushN; split <;> rfl
  exact (h.push.begin (x := e) (by rw [h1]; exact h.o.has he) false).plays1 fun z => nomatch z
theorem Pl.Ok.resume {f : Sf} {s : Pl} (h : s.Ok f) : (resumeP f s).Ok f := by
  unfold resumeP
  split
  · rename_i n hn
    exact h.plays1 fun z => by rw [hn] at z; cases z
  · split
    · rename_i x r e
      have h2 := h.soon (xs := r) fun y hy => h.sn y (by rw [e]; exact List.mem_cons_of_mem _ hy)
      exact (h2.begin (x := x) (h.o.has (h.sn x (by rw [e]; exact List.mem_cons_self))) false).plays1 fun z => nomatch z
    · have h2 := h.order h.o.first (firstS_q s.o)
      split
      · exact h2.plays1 fun _ => rfl
      · rename_i x hx
        exact (h2.begin (x := x) (has_q (firstS_q s.o) (h.o.has (firstV_mem h.o hx))) false).plays1 fun z => nomatch z
theorem Pl.Ok.skip {f : Sf} {s : Pl} (h : s.Ok f) : (skipP f s).Ok f := by
  unfold skipP
  have h1 := (Pl.OkB.next h true).push
  have eo : (pushN (nextS s true)).o = (nextS s true).o := by unfold pushN; split <;> rfl
  cases hv : nextV s true with
  | none =>
    have e : ({ beginP f (pushN (nextS s true)) none false with plays := s.plays && (none : Option Int).isSome } : Pl) = { beginP f (pushN (nextS s true)) none false with plays := false, stops := (beginP f (pushN (nextS s true)) none false).stops } := by
      simp
    rw [e]
    exact h1.rest _
  | some x =>
    have hx := h.o.has (nextV_mem h.o h.sn hv)
    exact (h1.begin (x := x) (by rw [eo]; exact has_q (nextS_o s true) hx) false).plays1 fun z => nomatch z
theorem dropT_mem {turn past : List Int} {e : Int} (h : e ∈ dropT turn past) : e ∈ past := by
  unfold dropT at h
  rw [List.mem_reverse] at h
  exact List.mem_reverse.mp ((List.dropWhile_sublist _).subset h)
theorem dropT_last {turn past : List Int} {y : Int} (h : (dropT turn past).getLast? = some y) : y ∈ turn := by
  unfold dropT at h
  rw [List.getLast?_reverse] at h
  have h2 := List.head?_dropWhile_not (fun x => decide (x ∉ turn)) past.reverse
  rw [h] at h2
  simpa using h2
theorem Pl.OkB.againP {f : Sf} {s : Pl} (h : s.Ok f) : (againP f s).Ok f := by
  unfold TR.againP
  split
  · exact h
  · rename_i n hn
    exact Pl.OkB.begin h (h.nw n hn).1 false
theorem Pl.Ok.back {f : Sf} {s : Pl} (h : s.Ok f) : (backP f s).Ok f := by
  have h1 := Pl.OkB.past h (xs := dropT s.o.q.turn s.past) fun e he => h.ps e (dropT_mem he)
  unfold backP
  split
  · exact h1.againP
  · rename_i y hy
    split
    · exact h1.againP
    · have h2 := Pl.OkB.past h (xs := (dropT s.o.q.turn s.past).dropLast) fun e he => h.ps e (dropT_mem (List.dropLast_subset _ he))
      have h3 := h2.soon (xs := backSoon s) fun e he => by
        unfold backSoon at he
        split at he
        · exact h.sn e he
        · split at he
          · rcases List.mem_cons.mp he with rfl | he
            · assumption
            · exact h.sn e he
          · exact h.sn e he
      exact h3.begin (x := y) (h.o.has (dropT_last hy)) false
theorem Pl.Ok.seek {f : Sf} {s : Pl} (h : s.Ok f) {n x : Int} (hn : s.now = some n) (h0 : 0 ≤ x) (h1 : x < longO f s.o n) : (seekP s x).Ok f :=
  ⟨h.o, h.ov, h.tn, (fun m hm => by have hm : s.now = some m := hm; rw [hn] at hm; cases hm; exact ⟨(h.nw n hn).1, h0, by show x < longO f s.o n + 0; omega⟩), (fun z => by have z : s.now = none := z; rw [hn] at z; cases z), (fun e p l z => nomatch z), h.sn, h.ps, h.sl⟩
theorem Pl.Ok.sleep {f : Sf} {s : Pl} (h : s.Ok f) {m : Option Int} (hm : ∀ k, m = some k → 1 ≤ k) : ({ s with sleep := m } : Pl).Ok f := ⟨h.o, h.ov, h.tn, h.nw, h.n0, h.od, h.sn, h.ps, hm⟩
theorem Pl.OkB.sleepP {f : Sf} {s : Pl} (h : s.Ok f) : (sleepP s).Ok f := by
  unfold TR.sleepP
  split
  · exact h
  · rename_i k hk
    split
    · have h1 : ({ s with sleep := none } : Pl).Ok f := Pl.Ok.sleep h fun _ z => nomatch z
      exact Pl.OkB.plays1 h1 fun _ => rfl
    · refine Pl.Ok.sleep h fun j hj => ?_
      cases hj
      have := h.sl k hk
      omega
theorem mn2_le (i j : Int) : mn2 i j ≤ i ∧ mn2 i j ≤ j := by unfold mn2; split <;> omega
theorem mn2_ge {i j m : Int} (h1 : m ≤ i) (h2 : m ≤ j) : m ≤ mn2 i j := by unfold mn2; split <;> omega
theorem joinL_nn {f : Sf} {s : Pl} {n x : Int} (ho : 0 ≤ s.ov) (h1 : 1 ≤ longO f s.o n) (h2 : 1 ≤ longO f s.o x) : 0 ≤ joinL f s n x := mn2_ge (mn2_ge ho (by omega)) (by omega)
theorem Pl.OkB.turn {f : Sf} {s : Pl} (h : s.OkB f 1) : (turnP f s).Ok f := by
  unfold turnP
  split
  · rename_i hn
    exact ⟨h.o, h.ov, h.tn, (fun n z => by rw [hn] at z; cases z), h.n0, h.od, h.sn, h.ps, h.sl⟩
  · rename_i n hn
    have hk := h.tn.kn (h.nw n hn).1
    have lt : s.spot < longO f s.o n → s.Ok f := fun hlt => ⟨h.o, h.ov, h.tn, (fun m hm => by rw [hn] at hm; cases hm; exact ⟨(h.nw n hn).1, (h.nw n hn).2.1, by omega⟩), h.n0, h.od, h.sn, h.ps, h.sl⟩
    have hp : ∀ e ∈ s.past ++ [n], s.o.has e := fun e he => by
      rcases List.mem_append.mp he with q | q
      · exact h.ps e q
      · rw [List.mem_singleton.mp q]
        exact hk.has
    split
    · rename_i x hx
      have hxm : x ∈ s.o.q.turn := by
        unfold foundP at hx
        split at hx
        · cases hx
        · exact nextV_mem h.o h.sn hx
      have hkx := h.tn.kn (h.o.has hxm)
      split
      · unfold goOn
        have h2 := (h.next false).past (xs := s.past ++ [n]) fun e he => has_q (nextS_o s false) (hp e he)
        exact h2.begin (x := x) (has_q (nextS_o s false) hkx.has) _
      · rename_i hle
        have := joinL_nn (f := f) (s := s) (n := n) (x := x) h.ov.1 hk.lo hkx.lo
        exact lt (by omega)
    · split
      · exact (h.past hp).rest false
      · exact lt (by omega)
theorem Pl.Ok.pre {f : Sf} {s : Pl} (h : s.Ok f) (hp : s.now ≠ none) : (preP f s).OkB f 1 := by
  refine ⟨h.o, h.ov, h.tn, ?_, (fun z => absurd z hp), ?_, h.sn, h.ps, h.sl⟩
  · intro n hn
    obtain ⟨a, b, c⟩ := h.nw n hn
    exact ⟨a, by show 0 ≤ s.spot + 1; omega, by show s.spot + 1 < longO f s.o n + 1; omega⟩
  · intro e p l he
    have he : oldP f s = some (e, p, l) := he
    unfold oldP at he
    split at he
    · cases he
    · rename_i e2 p2 l2 h2
      split at he
      · cases he
        exact h.od _ _ _ h2
      · cases he
theorem Pl.Ok.now_of {f : Sf} {s : Pl} (h : s.Ok f) (hp : s.plays = true) : ∃ n, s.now = some n := by
  cases hn : s.now with
  | none => have := (h.n0 hn).2; rw [hp] at this; cases this
  | some n => exact ⟨n, rfl⟩
theorem Pl.Ok.step {f : Sf} {s : Pl} (h : s.Ok f) (hp : s.plays = true) : (stepP f s).Ok f := by
  obtain ⟨n, hn⟩ := h.now_of hp
  exact (Pl.Ok.pre h (by rw [hn]; exact fun z => nomatch z)).turn.sleepP
theorem Pl.Ok.tick1 {f : Sf} {s : Pl} (h : s.Ok f) : (tick1 f s).Ok f := by
  unfold TR.tick1
  split
  · rename_i hp; exact h.step hp
  · exact h
theorem Pl.Ok.tick {f : Sf} : ∀ (n : Nat) {s : Pl}, s.Ok f → (tickP f n s).Ok f
  | 0, _, h => h
  | n + 1, _, h => Pl.Ok.tick n h.tick1
theorem Pl.Ok.wake {f : Sf} {s : Pl} (h : s.Ok f) : (wakeP s).Ok f :=
  ⟨h.o, h.ov, h.tn, h.nw, (fun z => ⟨(h.n0 z).1, by show s.now.isSome = false; rw [show s.now = none from z]; rfl⟩), h.od, h.sn, h.ps, (fun _ z => nomatch z)⟩
theorem ok_pl0 {f : Sf} {ov n : Int} (h1 : 0 ≤ ov ∧ ov ≤ 9) (h2 : 0 ≤ n ∧ n < 6075) : (pl0 ov n).Ok f :=
  ⟨ok0 h2, h1, (fun x hx => nomatch hx), (fun _ z => nomatch z), (fun _ => ⟨rfl, rfl⟩), (fun _ _ _ z => nomatch z), (fun _ z => nomatch z), (fun _ z => nomatch z), (fun _ z => nomatch z)⟩
theorem putO_q (o : Or) (x : Str) (p : Int) : (putO o x p).q = o.q.put x p := by unfold putO; split <;> rfl
theorem tune_put {q : Qu} {x : Str} {p e : Int} (h1 : 1 ≤ e) (h2 : e ≤ q.tunes.length) : (q.put x p).tune e = q.tune e := by
  unfold Qu.tune Qu.put
  simp only
  rw [List.getD_eq_getElem?_getD, List.getD_eq_getElem?_getD, List.getElem?_append_left (by omega)]
theorem has_put {o : Or} {x : Str} {p e : Int} (h : o.has e) : (putO o x p).has e := by
  unfold Or.has
  rw [putO_q]
  unfold Qu.put
  simp only [List.length_append, List.length_singleton]
  exact ⟨h.1, by have := h.2; push_cast; omega⟩
theorem Pl.Ok.add {f : Sf} {s : Pl} (h : s.Ok f) {x : Str} {p : Int} (hx : ∃ n, f.lookup x = some n ∧ 1 ≤ n ∧ n ≤ 40) (h2 : s.o.q.turn.length ≠ 12) (h3 : s.o.q.tunes.length < 1000) : (addP s x p).Ok f := by
  refine ⟨h.o.put x h2 h3, h.ov, ?_, ?_, h.n0, (fun e a l z => has_put (h.od e a l z)), ?_, (fun e he => has_put (h.ps e he)), h.sl⟩
  · intro y hy
    have hy : y ∈ (putO s.o x p).q.tunes := hy
    rw [putO_q] at hy
    rcases List.mem_append.mp hy with q | q
    · exact h.tn y q
    · rw [List.mem_singleton.mp q]; exact hx
  · intro n hn
    obtain ⟨a, b, c⟩ := h.nw n hn
    refine ⟨has_put a, b, ?_⟩
    show s.spot < longO f (putO s.o x p) n + 0
    unfold longO
    rw [putO_q, tune_put a.1 a.2]
    exact c
  · intro e he
    show e ∈ (putO s.o x p).q.turn
    rw [putO_q]
    exact mem_insP.mpr (.inr (h.sn e he))
theorem Pl.Ok.remove {f : Sf} {s : Pl} (h : s.Ok f) {e : Int} (he : e ∈ s.o.q.turn) : (removeP s e).Ok f := by
  refine ⟨h.o.rem he _, h.ov, h.tn, h.nw, h.n0, h.od, ?_, h.ps, h.sl⟩
  intro x hx
  have hx := List.mem_filter.mp hx
  have hne : x ≠ e := fun z => by
    have := hx.2
    rw [z] at this
    simp at this
  exact (List.Nodup.mem_erase_iff h.o.q.nd).mpr ⟨hne, h.sn x hx.1⟩
theorem Pl.Ok.move {f : Sf} {s : Pl} (h : s.Ok f) {e p : Int} (he : e ∈ s.o.q.turn) : (moveP s e p).Ok f := by
  refine ⟨h.o.mov he, h.ov, h.tn, h.nw, h.n0, h.od, ?_, h.ps, h.sl⟩
  intro x hx
  by_cases z : x = e
  · exact mem_insP.mpr (.inl z)
  · exact mem_insP.mpr (.inr ((List.Nodup.mem_erase_iff h.o.q.nd).mpr ⟨z, h.sn x hx⟩))
theorem Pl.Ok.playSoon {f : Sf} {s : Pl} (h : s.Ok f) {e : Int} (he : e ∈ s.o.q.turn) : (soonP s e).Ok f := Pl.OkB.soon h fun x hx => by
  rcases List.mem_append.mp hx with q | q
  · exact h.sn x q
  · rw [List.mem_singleton.mp q]; exact he
theorem Pl.Ok.again {f : Sf} {s : Pl} (h : s.Ok f) (x : Str) : (againS s x).Ok f := Pl.OkB.order h (o := { s.o with again := x }) ⟨h.o.q, h.o.num, h.o.nd, h.o.sub, h.o.bh⟩ rfl
theorem setM_q (o : Or) (b : Bool) (e : Option Int) : (setM o b e).q = o.q := by
  unfold setM
  split
  · split <;> rfl
  · rfl
theorem Pl.Ok.mixed {f : Sf} {s : Pl} (h : s.Ok f) (b : Bool) : (mixedP s b).Ok f := Pl.OkB.order h (h.o.setM b s.now) (setM_q s.o b s.now)
theorem Pl.Ok.stop {f : Sf} {s : Pl} (h : s.Ok f) (b : Bool) : ({ s with stops := b } : Pl).Ok f := ⟨h.o, h.ov, h.tn, h.nw, h.n0, h.od, h.sn, h.ps, h.sl⟩
theorem Pl.Ok.pause {f : Sf} {s : Pl} (h : s.Ok f) : ({ s with plays := false } : Pl).Ok f := Pl.OkB.plays1 h fun _ => rfl
end TR

namespace TR
open PySem L2
/-! ### twins -/
@[irreducible] def sp_Dice_twin (A : Ads) : Sp := fun vs H Q _ => ∃ (p dx : Addr) (n : Int) (R : List Ent), vs = [.ref p] ∧ W H H ((p, .ins A.c_Dice dx (fl_Dice (.int n))) :: R) ∧ (0 ≤ n ∧ n < 6075) ∧
  ∀ H' p' dx', W H H' ((p', .ins A.c_Dice dx' (fl_Dice (.int n))) :: (p, .ins A.c_Dice dx (fl_Dice (.int n))) :: R) → Q (.ref p') H'
theorem of_Dice_twin {A : Ads} {vs : List V} {H : Hp} {Q : VK} {E : XK} (h :  ∃ (p dx : Addr) (n : Int) (R : List Ent), vs = [.ref p] ∧ W H H ((p, .ins A.c_Dice dx (fl_Dice (.int n))) :: R) ∧ (0 ≤ n ∧ n < 6075) ∧
  ∀ H' p' dx', W H H' ((p', .ins A.c_Dice dx' (fl_Dice (.int n))) :: (p, .ins A.c_Dice dx (fl_Dice (.int n))) :: R) → Q (.ref p') H') : sp_Dice_twin A vs H Q E := by unfold sp_Dice_twin; exact h
@[irreducible] def sp_Queue_twin (A : Ads) : Sp := fun vs H Q _ => ∃ (a : QA) (s : Qu) (R : List Ent), vs = [.ref a.q] ∧ W H H (qL A a s ++ R) ∧ ∀ H' a', W H H' (qL A a' s ++ (qL A a s ++ R)) → Q (.ref a'.q) H'
theorem of_Queue_twin {A : Ads} {vs : List V} {H : Hp} {Q : VK} {E : XK} (h :  ∃ (a : QA) (s : Qu) (R : List Ent), vs = [.ref a.q] ∧ W H H (qL A a s ++ R) ∧ ∀ H' a', W H H' (qL A a' s ++ (qL A a s ++ R)) → Q (.ref a'.q) H') : sp_Queue_twin A vs H Q E := by unfold sp_Queue_twin; exact h
@[irreducible] def sp_Order_twin (A : Ads) : Sp := fun vs H Q _ => ∃ (a : OA) (s : Or) (R : List Ent), vs = [.ref a.o] ∧ W H H (orL A a s ++ R) ∧ s.Ok ∧ ∀ H' a', W H H' (orL A a' s ++ (orL A a s ++ R)) → Q (.ref a'.o) H'
theorem of_Order_twin {A : Ads} {vs : List V} {H : Hp} {Q : VK} {E : XK} (h :  ∃ (a : OA) (s : Or) (R : List Ent), vs = [.ref a.o] ∧ W H H (orL A a s ++ R) ∧ s.Ok ∧ ∀ H' a', W H H' (orL A a' s ++ (orL A a s ++ R)) → Q (.ref a'.o) H') : sp_Order_twin A vs H Q E := by unfold sp_Order_twin; exact h
section
variable {P : Program} {w : World} {K : PySem.W.Frag} {mg : Str → Option Value} {base : Heap} {A : Ads}
theorem ok_Dice_twin (T : Txt K mg A) : FnOk P w K mg base (L2.CX P w) 3 A.f_Dice_twin A.d_Dice_twin P_Dice_twin (sp_Dice_twin A) := by
  refine T.F_Dice_twin.okX sc_Dice_twin (fun vs H Q E h => ?_) (fun cdv Ar outer s H vs Q E hr h => ?_)
  · unfold sp_Dice_twin at h; obtain ⟨p, dx, n, R, rfl, _⟩ := h; rfl
  · unfold sp_Dice_twin at h; obtain ⟨p, dx, n, R, rfl, w, hn, k⟩ := h
    refine ⟨_, (pss_one (ps_ret (my_make T.M_Dice (ok_Dice_init__ T) (hr.mono (by decide)) (by rfl) T.g_Dice T.b_Dice_init__ passE (pa_cons (pe_fld (pv 0) rfl) pa_nil)))), ?_⟩
    walk_at "rd"
    refine st_make w fun p' dx' H1 w1 => ?_
    refine of_Dice_init ⟨p', dx', n, _, rfl, w1.now, fun _ H2 w2 => ⟨rfl, k H2 p' dx' (w1.tr w2)⟩, fun z => absurd hn z⟩
theorem ok_Queue_twin (T : Txt K mg A) : FnOk P w K mg base (L2.CX P w) 3 A.f_Queue_twin A.d_Queue_twin P_Queue_twin (sp_Queue_twin A) := by
  refine T.F_Queue_twin.okX sc_Queue_twin (fun vs H Q E h => ?_) (fun cdv Ar outer s H vs Q E hr h => ?_)
  · unfold sp_Queue_twin at h; obtain ⟨a, s, R, rfl, _⟩ := h; rfl
  · unfold sp_Queue_twin at h; obtain ⟨a, s, R, rfl, w, k⟩ := h
    refine ⟨_, (pss_cons (ps_set (i := 1) sc_Queue_twin.nd rfl (by first | exact Or.inl rfl | exact Or.inr rfl) (my_make0 T.M_Queue (ok_Queue_init__ T) (hr.mono (by decide)) (by rfl) T.g_Queue T.b_Queue_init__ passE))
      (pss_cons (my_fld (pv 1) (my_dcopy (pe_fld (pv 0) rfl)))
      (pss_cons (my_fld (pv 1) (pe_callTy my_listOf (by rfl) T.z_list (by decide +kernel) (pa_cons (pe_fld (pv 0) rfl) pa_nil)))
      (pss_cons (my_fld (pv 1) (pe_fld (pv 0) rfl))
      (pss_one (ps_ret (pv 1))))))), ?_⟩
    walk_at "rd"
    refine st_make w fun q qx H1 w1 => ?_
    refine of_Queue_init ⟨q, qx, _, rfl, w1.now, fun H2 d t w2 => ?_⟩
    have w3 := w1.tr w2
    clear w1 w2 w
    walk_at "rd"
    refine st_dcopy w3 4 rfl fun d' H3 w4 => ?_
    walk_at "rd"
    refine sf_Queue_tunes T w4 1 rfl fun H4 w5 => ?_
    walk_at "rd"
    refine st_new w5 fun t' H5 w6 => ?_
    walk_at "rd"
    refine sf_Queue_turn T w6 2 rfl fun H6 w7 => ?_
    walk_at "rd"
    refine sf_Queue_last T w7 2 rfl fun H7 w8 => ?_
    walk_at "rd"
    exact k H7 ⟨q, qx, d', t'⟩ (w8.pick 5 [2, 1, 0])
theorem ok_Order_twin (T : Txt K mg A) : FnOk P w K mg base (L2.CX P w) 5 A.f_Order_twin A.d_Order_twin P_Order_twin (sp_Order_twin A) := by
  refine T.F_Order_twin.okX sc_Order_twin (fun vs H Q E h => ?_) (fun cdv Ar outer s H vs Q E hr h => ?_)
  · unfold sp_Order_twin at h; obtain ⟨a, s, R, rfl, _⟩ := h; rfl
  · unfold sp_Order_twin at h; obtain ⟨a, s, R, rfl, w, ok, k⟩ := h
    refine ⟨_, (pss_cons (ps_set (i := 1) sc_Order_twin.nd rfl (by first | exact Or.inl rfl | exact Or.inr rfl) (my_make T.M_Order (ok_Order_init__ T) (hr.mono (by decide)) (by rfl) T.g_Order T.b_Order_init__ passE (pa_cons pe_int pa_nil)))
      (pss_cons (my_fld (pv 1) (my_meth0 (pe_fld (pv 0) rfl) T.c_Queue T.m_Queue_twin (ok_Queue_twin T) (hr.mono (by decide)) T.b_Queue_twin passE))
      (pss_cons (my_fld (pv 1) (my_meth0 (pe_fld (pv 0) rfl) T.c_Dice T.m_Dice_twin (ok_Dice_twin T) (hr.mono (by decide)) T.b_Dice_twin passE))
      (pss_cons (my_fld (pv 1) (pe_fld (pv 0) rfl))
      (pss_cons (my_fld (pv 1) (pe_fld (pv 0) rfl))
      (pss_cons (my_fld (pv 1) (pe_callTy my_listOf (by rfl) T.z_list (by decide +kernel) (pa_cons (pe_fld (pv 0) rfl) pa_nil)))
      (pss_cons (my_fld (pv 1) (pe_fld (pv 0) rfl))
      (pss_cons (my_fld (pv 1) (pe_fld (pv 0) rfl))
      (pss_one (ps_ret (pv 1))))))))))), ?_⟩
    walk_at "rd"
    refine st_make w fun o dx H1 w1 => ?_
    refine of_Order_init ⟨o, dx, 0, _, rfl, w1.now, fun _ H2 b eo w2 => ?_, fun z => absurd ⟨by decide, by decide⟩ z⟩
    subst eo
    have w3 : W H H2 (orL A b (order0 0) ++ (orL A a s ++ R)) := w1.tr w2
    clear w1 w2 w
    walk_at "rd"
    refine st_call (of_Queue_twin ⟨a.q, s.q, _, rfl, (w3.rot 7 3).now, fun H3 q' w4 => ?_⟩)
    have w5 := w3.tr w4
    clear w4 w3
    walk_at "rd"
    refine sf_Order_queue T w5 6 rfl fun H4 w6 => ?_
    walk_at "rd"
    refine st_call (of_Dice_twin ⟨a.dc, a.ddx, s.num, _, rfl, (w6.rot 13 1).now, ok.num, fun H5 p' dx' w7 => ?_⟩)
    have w8 := w6.tr w7
    clear w7 w6 w5
    walk_at "rd"
    refine sf_Order_dice T w8 8 rfl fun H6 w9 => ?_
    walk_at "rd"
    refine sf_Order_is_mixed T w9 8 rfl fun H7 w10 => ?_
    walk_at "rd"
    refine sf_Order_again T w10 8 rfl fun H8 w11 => ?_
    walk_at "rd"
    refine st_new w11 fun k' H9 w12 => ?_
    walk_at "rd"
    refine sf_Order_deck T w12 9 rfl fun H10 w13 => ?_
    walk_at "rd"
    refine sf_Order_is_gone T w13 9 rfl fun H11 w14 => ?_
    walk_at "rd"
    refine sf_Order_behind T w14 9 rfl fun H12 w15 => ?_
    walk_at "rd"
    exact k H12 ⟨b.o, b.dx, q', p', dx', k'⟩ (w15.pick 17 [9, 3, 4, 5, 1, 0, 15, 6, 7, 8, 2, 16])
end
end TR

namespace TR
open PySem L2
/-! ### players: the walk -/
def OldAt (H : Hp) (v : V) : Option (Int × Int × Int) → Prop
  | none => v = .non
  | some (e, p, l) => ∃ q, v = .ref q ∧ H q = some (.tup [.int e, .int p, .int l])
def RowAt (H : Hp) (v : V) (r : Int × Int) : Prop := ∃ q, v = .ref q ∧ H q = some (.tup [.int r.1, .int r.2])
def RowsAt (H : Hp) : List V → List (Int × Int) → Prop
  | [], [] => True
  | v :: vs, r :: rs => RowAt H v r ∧ RowsAt H vs rs
  | _, _ => False
abbrev Tps (H H' : Hp) : Prop := ∀ a xs, H a = some (.tup xs) → H' a = some (.tup xs)
theorem OldAt.mono {H H' : Hp} (t : Tps H H') {v : V} {o : Option (Int × Int × Int)} (h : OldAt H v o) : OldAt H' v o := by
  match o, h with
  | none, h => exact h
  | some (e, p, l), ⟨q, e1, e2⟩ => exact ⟨q, e1, t _ _ e2⟩
theorem RowAt.mono {H H' : Hp} (t : Tps H H') {v : V} {r : Int × Int} (h : RowAt H v r) : RowAt H' v r := let ⟨q, a, b⟩ := h; ⟨q, a, t _ _ b⟩
theorem RowsAt.mono {H H' : Hp} (t : Tps H H') : ∀ {vs : List V} {rs : List (Int × Int)}, RowsAt H vs rs → RowsAt H' vs rs
  | [], [], _ => True.intro
  | v :: vs, r :: rs, ⟨a, b⟩ => ⟨a.mono t, RowsAt.mono t b⟩
  | [], _ :: _, h => h.elim
  | _ :: _, [], h => h.elim
theorem RowsAt.len {H : Hp} : ∀ {vs : List V} {rs : List (Int × Int)}, RowsAt H vs rs → vs.length = rs.length
  | [], [], _ => rfl
  | v :: vs, r :: rs, ⟨a, b⟩ => by rw [List.length_cons, List.length_cons, RowsAt.len b]
  | [], _ :: _, h => h.elim
  | _ :: _, [], h => h.elim
theorem RowsAt.snoc {H : Hp} : ∀ {vs : List V} {rs : List (Int × Int)} {v : V} {r : Int × Int}, RowsAt H vs rs → RowAt H v r → RowsAt H (vs ++ [v]) (rs ++ [r])
  | [], [], _, _, _, h => ⟨h, True.intro⟩
  | v :: vs, r :: rs, _, _, ⟨a, b⟩, h => ⟨a, RowsAt.snoc b h⟩
  | [], _ :: _, _, _, h, _ => h.elim
  | _ :: _, [], _, _, h, _ => h.elim
theorem RowsAt.drop {H : Hp} : ∀ (n : Nat) {vs : List V} {rs : List (Int × Int)}, RowsAt H vs rs → RowsAt H (vs.drop n) (rs.drop n)
  | 0, _, _, h => h
  | n + 1, [], [], h => h
  | n + 1, v :: vs, r :: rs, ⟨_, b⟩ => RowsAt.drop n b
  | n + 1, [], _ :: _, h => h.elim
  | n + 1, _ :: _, [], h => h.elim
theorem RowsAt.get {H : Hp} : ∀ {vs : List V} {rs : List (Int × Int)} (i : Nat) {v : V}, RowsAt H vs rs → vs[i]? = some v → ∃ r, rs[i]? = some r ∧ RowAt H v r
  | v :: vs, r :: rs, 0, _, ⟨a, _⟩, e => by cases e; exact ⟨r, rfl, a⟩
  | v :: vs, r :: rs, i + 1, _, ⟨_, b⟩, e => RowsAt.get i b e
  | [], [], _, _, _, e => by simp at e
  | [], _ :: _, _, _, h, _ => h.elim
  | _ :: _, [], _, _, h, _ => h.elim
structure PA where
  p : Addr
  dx : Addr
  so : Addr
  pa : Addr
  ro : Addr
  o : OA
def plL (A : Ads) (a : PA) (sh : V) (s : Pl) (ov : V) (rs : List V) : List Ent :=
  (a.p, .ins A.c_Player a.dx (fl_Player sh (.int s.ov) (.ref a.o.o) (.int s.time) (oV s.now) (.int s.spot) ov (.ref a.so) (.ref a.pa) (.ref a.ro) (.bl s.plays) (.bl s.stops) (oV s.sleep))) ::
  (a.so, .lst (s.soon.map V.int)) :: (a.pa, .lst (s.past.map V.int)) :: (a.ro, .lst rs) :: orL A a.o s.o
structure PlF (H : Hp) (s : Pl) (ov : V) (rs : List V) : Prop where
  old : OldAt H ov s.old
  rows : RowsAt H rs s.rows
theorem PlF.mono {H H' : Hp} (t : Tps H H') {s : Pl} {ov : V} {rs : List V} (h : PlF H s ov rs) : PlF H' s ov rs := ⟨h.old.mono t, h.rows.mono t⟩
/-- a player stands, and R -/
def PlW (A : Ads) (H0 H : Hp) (a : PA) (sh : V) (s : Pl) (R : List Ent) : Prop := ∃ ov rs, W H0 H (plL A a sh s ov rs ++ R) ∧ PlF H s ov rs
theorem PlW.tr {A : Ads} {H0 H H' : Hp} {a : PA} {sh : V} {s : Pl} {L R : List Ent} (w : W H0 H L) (h : PlW A H H' a sh s R) : PlW A H0 H' a sh s R := let ⟨ov, rs, v, f⟩ := h; ⟨ov, rs, w.tr v, f⟩
@[irreducible] def sp_Player_init (A : Ads) : Sp := fun vs H Q E => ∃ (p dx : Addr) (sh : V) (ov n : Int) (R : List Ent), vs = [.ref p, sh, .int ov, .int n] ∧ W H H ((p, .ins A.c_Player dx []) :: R) ∧
  ((0 ≤ ov ∧ ov ≤ 9) ∧ (0 ≤ n ∧ n < 6075) → ∀ H' a, a.p = p → W H H' (plL A a sh (pl0 ov n) .non [] ++ R) → Q .non H') ∧ (¬ ((0 ≤ ov ∧ ov ≤ 9) ∧ (0 ≤ n ∧ n < 6075)) → ∀ H', W H H' R → E (.ref A.c_BadNumber) none H')
theorem of_Player_init {A : Ads} {vs : List V} {H : Hp} {Q : VK} {E : XK} (h :  ∃ (p dx : Addr) (sh : V) (ov n : Int) (R : List Ent), vs = [.ref p, sh, .int ov, .int n] ∧ W H H ((p, .ins A.c_Player dx []) :: R) ∧
  ((0 ≤ ov ∧ ov ≤ 9) ∧ (0 ≤ n ∧ n < 6075) → ∀ H' a, a.p = p → W H H' (plL A a sh (pl0 ov n) .non [] ++ R) → Q .non H') ∧ (¬ ((0 ≤ ov ∧ ov ≤ 9) ∧ (0 ≤ n ∧ n < 6075)) → ∀ H', W H H' R → E (.ref A.c_BadNumber) none H')) : sp_Player_init A vs H Q E := by unfold sp_Player_init; exact h
@[irreducible] def sp_Player_long (A : Ads) : Sp := fun vs H Q _ => ∃ (a : PA) (b : SA) (f : Sf) (s : Pl) (ov : V) (rs : List V) (e : Int) (R : List Ent), vs = [.ref a.p, .int e] ∧ W H H (plL A a (.ref b.q) s ov rs ++ (sL A b f ++ R)) ∧ Kn f s.o e ∧ Q (.int (longO f s.o e)) H
theorem of_Player_long {A : Ads} {vs : List V} {H : Hp} {Q : VK} {E : XK} (h :  ∃ (a : PA) (b : SA) (f : Sf) (s : Pl) (ov : V) (rs : List V) (e : Int) (R : List Ent), vs = [.ref a.p, .int e] ∧ W H H (plL A a (.ref b.q) s ov rs ++ (sL A b f ++ R)) ∧ Kn f s.o e ∧ Q (.int (longO f s.o e)) H) : sp_Player_long A vs H Q E := by unfold sp_Player_long; exact h
@[irreducible] def sp_Player_add (A : Ads) : Sp := fun vs H Q E => ∃ (a : PA) (b : SA) (f : Sf) (s : Pl) (ov : V) (rs : List V) (x : Str) (p : Int) (R : List Ent), vs = [.ref a.p, .str x, .int p] ∧ W H H (plL A a (.ref b.q) s ov rs ++ (sL A b f ++ R)) ∧ s.o.Ok ∧ s.o.q.tunes.length < 1000 ∧
  (f.lookup x ≠ none → 0 ≤ p ∧ p ≤ s.o.q.turn.length ∧ s.o.q.turn.length ≠ 12 → ∀ H', W H H' (plL A a (.ref b.q) (addP s x p) ov rs ++ (sL A b f ++ R)) → Q (.int ((s.o.q.tunes.length : Int) + 1)) H') ∧
  (f.lookup x = none → E (.ref A.c_BadTune) none H) ∧ (f.lookup x ≠ none → ¬ (0 ≤ p ∧ p ≤ s.o.q.turn.length ∧ s.o.q.turn.length ≠ 12) → E (.ref A.c_BadNumber) none H)
theorem of_Player_add {A : Ads} {vs : List V} {H : Hp} {Q : VK} {E : XK} (h :  ∃ (a : PA) (b : SA) (f : Sf) (s : Pl) (ov : V) (rs : List V) (x : Str) (p : Int) (R : List Ent), vs = [.ref a.p, .str x, .int p] ∧ W H H (plL A a (.ref b.q) s ov rs ++ (sL A b f ++ R)) ∧ s.o.Ok ∧ s.o.q.tunes.length < 1000 ∧
  (f.lookup x ≠ none → 0 ≤ p ∧ p ≤ s.o.q.turn.length ∧ s.o.q.turn.length ≠ 12 → ∀ H', W H H' (plL A a (.ref b.q) (addP s x p) ov rs ++ (sL A b f ++ R)) → Q (.int ((s.o.q.tunes.length : Int) + 1)) H') ∧
  (f.lookup x = none → E (.ref A.c_BadTune) none H) ∧ (f.lookup x ≠ none → ¬ (0 ≤ p ∧ p ≤ s.o.q.turn.length ∧ s.o.q.turn.length ≠ 12) → E (.ref A.c_BadNumber) none H)) : sp_Player_add A vs H Q E := by unfold sp_Player_add; exact h
@[irreducible] def sp_Player_remove (A : Ads) : Sp := fun vs H Q E => ∃ (a : PA) (sh : V) (s : Pl) (ov : V) (rs : List V) (e : Int) (R : List Ent), vs = [.ref a.p, .int e] ∧ W H H (plL A a sh s ov rs ++ R) ∧ s.o.Ok ∧ s.soon.length ≤ 50000 ∧
  (e ∈ s.o.q.turn → ∀ H' so', W H H' (plL A { a with so := so' } sh (removeP s e) ov rs ++ R) → Q .non H') ∧ (e ∉ s.o.q.turn → ∀ H', W H H' (plL A a sh s ov rs ++ R) → E (.ref A.c_BadEntry) none H')
theorem of_Player_remove {A : Ads} {vs : List V} {H : Hp} {Q : VK} {E : XK} (h :  ∃ (a : PA) (sh : V) (s : Pl) (ov : V) (rs : List V) (e : Int) (R : List Ent), vs = [.ref a.p, .int e] ∧ W H H (plL A a sh s ov rs ++ R) ∧ s.o.Ok ∧ s.soon.length ≤ 50000 ∧
  (e ∈ s.o.q.turn → ∀ H' so', W H H' (plL A { a with so := so' } sh (removeP s e) ov rs ++ R) → Q .non H') ∧ (e ∉ s.o.q.turn → ∀ H', W H H' (plL A a sh s ov rs ++ R) → E (.ref A.c_BadEntry) none H')) : sp_Player_remove A vs H Q E := by unfold sp_Player_remove; exact h
@[irreducible] def sp_Player_move (A : Ads) : Sp := fun vs H Q E => ∃ (a : PA) (sh : V) (s : Pl) (ov : V) (rs : List V) (e p : Int) (R : List Ent), vs = [.ref a.p, .int e, .int p] ∧ W H H (plL A a sh s ov rs ++ R) ∧ s.o.Ok ∧
  (e ∈ s.o.q.turn → 0 ≤ p ∧ p < s.o.q.turn.length → ∀ H', W H H' (plL A a sh (moveP s e p) ov rs ++ R) → Q .non H') ∧ (e ∉ s.o.q.turn → E (.ref A.c_BadEntry) none H) ∧ (e ∈ s.o.q.turn → ¬ (0 ≤ p ∧ p < s.o.q.turn.length) → E (.ref A.c_BadNumber) none H)
theorem of_Player_move {A : Ads} {vs : List V} {H : Hp} {Q : VK} {E : XK} (h :  ∃ (a : PA) (sh : V) (s : Pl) (ov : V) (rs : List V) (e p : Int) (R : List Ent), vs = [.ref a.p, .int e, .int p] ∧ W H H (plL A a sh s ov rs ++ R) ∧ s.o.Ok ∧
  (e ∈ s.o.q.turn → 0 ≤ p ∧ p < s.o.q.turn.length → ∀ H', W H H' (plL A a sh (moveP s e p) ov rs ++ R) → Q .non H') ∧ (e ∉ s.o.q.turn → E (.ref A.c_BadEntry) none H) ∧ (e ∈ s.o.q.turn → ¬ (0 ≤ p ∧ p < s.o.q.turn.length) → E (.ref A.c_BadNumber) none H)) : sp_Player_move A vs H Q E := by unfold sp_Player_move; exact h
@[irreducible] def sp_Player_play_soon (A : Ads) : Sp := fun vs H Q E => ∃ (a : PA) (sh : V) (s : Pl) (ov : V) (rs : List V) (e : Int) (R : List Ent), vs = [.ref a.p, .int e] ∧ W H H (plL A a sh s ov rs ++ R) ∧ s.soon.length ≤ 50000 ∧
  (e ∈ s.o.q.turn → ∀ H', W H H' (plL A a sh (soonP s e) ov rs ++ R) → Q .non H') ∧ (e ∉ s.o.q.turn → E (.ref A.c_BadEntry) none H)
theorem of_Player_play_soon {A : Ads} {vs : List V} {H : Hp} {Q : VK} {E : XK} (h :  ∃ (a : PA) (sh : V) (s : Pl) (ov : V) (rs : List V) (e : Int) (R : List Ent), vs = [.ref a.p, .int e] ∧ W H H (plL A a sh s ov rs ++ R) ∧ s.soon.length ≤ 50000 ∧
  (e ∈ s.o.q.turn → ∀ H', W H H' (plL A a sh (soonP s e) ov rs ++ R) → Q .non H') ∧ (e ∉ s.o.q.turn → E (.ref A.c_BadEntry) none H)) : sp_Player_play_soon A vs H Q E := by unfold sp_Player_play_soon; exact h
@[irreducible] def sp_Player_entries (A : Ads) : Sp := fun vs H Q _ => ∃ (a : PA) (sh : V) (s : Pl) (ov : V) (rs : List V) (R : List Ent), vs = [.ref a.p] ∧ W H H (plL A a sh s ov rs ++ R) ∧ ∀ H' l, W H H' ((l, .lst (s.o.q.turn.map V.int)) :: (plL A a sh s ov rs ++ R)) → Q (.ref l) H'
theorem of_Player_entries {A : Ads} {vs : List V} {H : Hp} {Q : VK} {E : XK} (h :  ∃ (a : PA) (sh : V) (s : Pl) (ov : V) (rs : List V) (R : List Ent), vs = [.ref a.p] ∧ W H H (plL A a sh s ov rs ++ R) ∧ ∀ H' l, W H H' ((l, .lst (s.o.q.turn.map V.int)) :: (plL A a sh s ov rs ++ R)) → Q (.ref l) H') : sp_Player_entries A vs H Q E := by unfold sp_Player_entries; exact h
@[irreducible] def sp_Player_tune (A : Ads) : Sp := fun vs H Q E => ∃ (a : PA) (sh : V) (s : Pl) (ov : V) (rs : List V) (e : Int) (R : List Ent), vs = [.ref a.p, .int e] ∧ W H H (plL A a sh s ov rs ++ R) ∧ (s.o.has e → Q (.str (s.o.q.tune e)) H) ∧ (¬ s.o.has e → E (.ref A.c_BadEntry) none H)
theorem of_Player_tune {A : Ads} {vs : List V} {H : Hp} {Q : VK} {E : XK} (h :  ∃ (a : PA) (sh : V) (s : Pl) (ov : V) (rs : List V) (e : Int) (R : List Ent), vs = [.ref a.p, .int e] ∧ W H H (plL A a sh s ov rs ++ R) ∧ (s.o.has e → Q (.str (s.o.q.tune e)) H) ∧ (¬ s.o.has e → E (.ref A.c_BadEntry) none H)) : sp_Player_tune A vs H Q E := by unfold sp_Player_tune; exact h
@[irreducible] def sp_Player_set_again (A : Ads) : Sp := fun vs H Q E => ∃ (a : PA) (sh : V) (s : Pl) (ov : V) (rs : List V) (x : Str) (R : List Ent), vs = [.ref a.p, .str x] ∧ W H H (plL A a sh s ov rs ++ R) ∧
  (x ∈ repeats → ∀ H', W H H' (plL A a sh (againS s x) ov rs ++ R) → Q .non H') ∧ (x ∉ repeats → E (.ref A.c_BadWord) none H)
theorem of_Player_set_again {A : Ads} {vs : List V} {H : Hp} {Q : VK} {E : XK} (h :  ∃ (a : PA) (sh : V) (s : Pl) (ov : V) (rs : List V) (x : Str) (R : List Ent), vs = [.ref a.p, .str x] ∧ W H H (plL A a sh s ov rs ++ R) ∧
  (x ∈ repeats → ∀ H', W H H' (plL A a sh (againS s x) ov rs ++ R) → Q .non H') ∧ (x ∉ repeats → E (.ref A.c_BadWord) none H)) : sp_Player_set_again A vs H Q E := by unfold sp_Player_set_again; exact h
@[irreducible] def sp_Player_set_mixed (A : Ads) : Sp := fun vs H Q _ => ∃ (a : PA) (sh : V) (s : Pl) (ov : V) (rs : List V) (b : Bool) (R : List Ent), vs = [.ref a.p, .bl b] ∧ W H H (plL A a sh s ov rs ++ R) ∧ s.o.Ok ∧
  ∀ H' k', W H H' (plL A { a with o := { a.o with k := k' } } sh (mixedP s b) ov rs ++ R) → Q .non H'
theorem of_Player_set_mixed {A : Ads} {vs : List V} {H : Hp} {Q : VK} {E : XK} (h :  ∃ (a : PA) (sh : V) (s : Pl) (ov : V) (rs : List V) (b : Bool) (R : List Ent), vs = [.ref a.p, .bl b] ∧ W H H (plL A a sh s ov rs ++ R) ∧ s.o.Ok ∧
  ∀ H' k', W H H' (plL A { a with o := { a.o with k := k' } } sh (mixedP s b) ov rs ++ R) → Q .non H') : sp_Player_set_mixed A vs H Q E := by unfold sp_Player_set_mixed; exact h
@[irreducible] def sp_Player_begin (A : Ads) : Sp := fun vs H Q _ => ∃ (a : PA) (b : SA) (f : Sf) (s : Pl) (e : Option Int) (j : Bool) (R : List Ent), vs = [.ref a.p, oV e, .bl j] ∧ PlW A H H a (.ref b.q) s (sL A b f ++ R) ∧ s.o.Ok ∧ s.rows.length ≤ 50000 ∧ (j = true → ∃ n, s.now = some n ∧ Kn f s.o n) ∧
  ∀ H', PlW A H H' a (.ref b.q) (beginP f s e j) (sL A b f ++ R) → Q .non H'
theorem of_Player_begin {A : Ads} {vs : List V} {H : Hp} {Q : VK} {E : XK} (h :  ∃ (a : PA) (b : SA) (f : Sf) (s : Pl) (e : Option Int) (j : Bool) (R : List Ent), vs = [.ref a.p, oV e, .bl j] ∧ PlW A H H a (.ref b.q) s (sL A b f ++ R) ∧ s.o.Ok ∧ s.rows.length ≤ 50000 ∧ (j = true → ∃ n, s.now = some n ∧ Kn f s.o n) ∧
  ∀ H', PlW A H H' a (.ref b.q) (beginP f s e j) (sL A b f ++ R) → Q .non H') : sp_Player_begin A vs H Q E := by unfold sp_Player_begin; exact h
@[irreducible] def sp_Player_pause (A : Ads) : Sp := fun vs H Q _ => ∃ (a : PA) (sh : V) (s : Pl) (ov : V) (rs : List V) (R : List Ent), vs = [.ref a.p] ∧ W H H (plL A a sh s ov rs ++ R) ∧ ∀ H', W H H' (plL A a sh { s with plays := false } ov rs ++ R) → Q .non H'
theorem of_Player_pause {A : Ads} {vs : List V} {H : Hp} {Q : VK} {E : XK} (h :  ∃ (a : PA) (sh : V) (s : Pl) (ov : V) (rs : List V) (R : List Ent), vs = [.ref a.p] ∧ W H H (plL A a sh s ov rs ++ R) ∧ ∀ H', W H H' (plL A a sh { s with plays := false } ov rs ++ R) → Q .non H') : sp_Player_pause A vs H Q E := by unfold sp_Player_pause; exact h
@[irreducible] def sp_Player_stop_behind (A : Ads) : Sp := fun vs H Q _ => ∃ (a : PA) (sh : V) (s : Pl) (ov : V) (rs : List V) (b : Bool) (R : List Ent), vs = [.ref a.p, .bl b] ∧ W H H (plL A a sh s ov rs ++ R) ∧ ∀ H', W H H' (plL A a sh { s with stops := b } ov rs ++ R) → Q .non H'
theorem of_Player_stop_behind {A : Ads} {vs : List V} {H : Hp} {Q : VK} {E : XK} (h :  ∃ (a : PA) (sh : V) (s : Pl) (ov : V) (rs : List V) (b : Bool) (R : List Ent), vs = [.ref a.p, .bl b] ∧ W H H (plL A a sh s ov rs ++ R) ∧ ∀ H', W H H' (plL A a sh { s with stops := b } ov rs ++ R) → Q .non H') : sp_Player_stop_behind A vs H Q E := by unfold sp_Player_stop_behind; exact h
@[irreducible] def sp_Player_sleep (A : Ads) : Sp := fun vs H Q E => ∃ (a : PA) (sh : V) (s : Pl) (ov : V) (rs : List V) (m : Option Int) (R : List Ent), vs = [.ref a.p, oV m] ∧ W H H (plL A a sh s ov rs ++ R) ∧
  ((∀ k, m = some k → 1 ≤ k ∧ k ≤ 60) → ∀ H', W H H' (plL A a sh { s with sleep := m } ov rs ++ R) → Q .non H') ∧ (¬ (∀ k, m = some k → 1 ≤ k ∧ k ≤ 60) → E (.ref A.c_BadNumber) none H)
theorem of_Player_sleep {A : Ads} {vs : List V} {H : Hp} {Q : VK} {E : XK} (h :  ∃ (a : PA) (sh : V) (s : Pl) (ov : V) (rs : List V) (m : Option Int) (R : List Ent), vs = [.ref a.p, oV m] ∧ W H H (plL A a sh s ov rs ++ R) ∧
  ((∀ k, m = some k → 1 ≤ k ∧ k ≤ 60) → ∀ H', W H H' (plL A a sh { s with sleep := m } ov rs ++ R) → Q .non H') ∧ (¬ (∀ k, m = some k → 1 ≤ k ∧ k ≤ 60) → E (.ref A.c_BadNumber) none H)) : sp_Player_sleep A vs H Q E := by unfold sp_Player_sleep; exact h
@[irreducible] def sp_Player_next_entry (A : Ads) : Sp := fun vs H Q _ => ∃ (a : PA) (sh : V) (s : Pl) (ov : V) (rs : List V) (l : Bool) (R : List Ent), vs = [.ref a.p, .bl l] ∧ W H H (plL A a sh s ov rs ++ R) ∧ s.o.Ok ∧
  ∀ H' k', W H H' (plL A { a with o := { a.o with k := k' } } sh (nextS s l) ov rs ++ R) → Q (oV (nextV s l)) H'
theorem of_Player_next_entry {A : Ads} {vs : List V} {H : Hp} {Q : VK} {E : XK} (h :  ∃ (a : PA) (sh : V) (s : Pl) (ov : V) (rs : List V) (l : Bool) (R : List Ent), vs = [.ref a.p, .bl l] ∧ W H H (plL A a sh s ov rs ++ R) ∧ s.o.Ok ∧
  ∀ H' k', W H H' (plL A { a with o := { a.o with k := k' } } sh (nextS s l) ov rs ++ R) → Q (oV (nextV s l)) H') : sp_Player_next_entry A vs H Q E := by unfold sp_Player_next_entry; exact h
@[irreducible] def sp_Player_twin (A : Ads) : Sp := fun vs H Q _ => ∃ (a : PA) (sh : V) (s : Pl) (ov : V) (rs : List V) (R : List Ent), vs = [.ref a.p] ∧ W H H (plL A a sh s ov rs ++ R) ∧ s.o.Ok ∧ (0 ≤ s.ov ∧ s.ov ≤ 9) ∧
  ∀ H' a', W H H' (plL A a' sh s ov rs ++ (plL A a sh s ov rs ++ R)) → Q (.ref a'.p) H'
theorem of_Player_twin {A : Ads} {vs : List V} {H : Hp} {Q : VK} {E : XK} (h :  ∃ (a : PA) (sh : V) (s : Pl) (ov : V) (rs : List V) (R : List Ent), vs = [.ref a.p] ∧ W H H (plL A a sh s ov rs ++ R) ∧ s.o.Ok ∧ (0 ≤ s.ov ∧ s.ov ≤ 9) ∧
  ∀ H' a', W H H' (plL A a' sh s ov rs ++ (plL A a sh s ov rs ++ R)) → Q (.ref a'.p) H') : sp_Player_twin A vs H Q E := by unfold sp_Player_twin; exact h
@[irreducible] def sp_Player_join_long (A : Ads) : Sp := fun vs H Q _ => ∃ (a : PA) (b : SA) (f : Sf) (s : Pl) (ov : V) (rs : List V) (n x : Int) (R : List Ent), vs = [.ref a.p, .int x] ∧ W H H (plL A a (.ref b.q) s ov rs ++ (sL A b f ++ R)) ∧ s.now = some n ∧ Kn f s.o n ∧ Kn f s.o x ∧ Q (.int (joinL f s n x)) H
theorem of_Player_join_long {A : Ads} {vs : List V} {H : Hp} {Q : VK} {E : XK} (h :  ∃ (a : PA) (b : SA) (f : Sf) (s : Pl) (ov : V) (rs : List V) (n x : Int) (R : List Ent), vs = [.ref a.p, .int x] ∧ W H H (plL A a (.ref b.q) s ov rs ++ (sL A b f ++ R)) ∧ s.now = some n ∧ Kn f s.o n ∧ Kn f s.o x ∧ Q (.int (joinL f s n x)) H) : sp_Player_join_long A vs H Q E := by unfold sp_Player_join_long; exact h
@[irreducible] def sp_Player_ticks (A : Ads) : Sp := fun vs H Q _ => ∃ (a : PA) (sh : V) (s : Pl) (ov : V) (rs : List V) (R : List Ent), vs = [.ref a.p] ∧ W H H (plL A a sh s ov rs ++ R) ∧ Q (.int s.time) H
theorem of_Player_ticks {A : Ads} {vs : List V} {H : Hp} {Q : VK} {E : XK} (h :  ∃ (a : PA) (sh : V) (s : Pl) (ov : V) (rs : List V) (R : List Ent), vs = [.ref a.p] ∧ W H H (plL A a sh s ov rs ++ R) ∧ Q (.int s.time) H) : sp_Player_ticks A vs H Q E := by unfold sp_Player_ticks; exact h
@[irreducible] def sp_Player_log (A : Ads) : Sp := fun vs H Q _ => ∃ (a : PA) (sh : V) (s : Pl) (ov : V) (rs : List V) (R : List Ent), vs = [.ref a.p] ∧ W H H (plL A a sh s ov rs ++ R) ∧ ∀ H' l, W H H' ((l, .lst rs) :: (plL A a sh s ov rs ++ R)) → Q (.ref l) H'
theorem of_Player_log {A : Ads} {vs : List V} {H : Hp} {Q : VK} {E : XK} (h :  ∃ (a : PA) (sh : V) (s : Pl) (ov : V) (rs : List V) (R : List Ent), vs = [.ref a.p] ∧ W H H (plL A a sh s ov rs ++ R) ∧ ∀ H' l, W H H' ((l, .lst rs) :: (plL A a sh s ov rs ++ R)) → Q (.ref l) H') : sp_Player_log A vs H Q E := by unfold sp_Player_log; exact h
@[irreducible] def sp_Player_state (A : Ads) : Sp := fun vs H Q _ => ∃ (a : PA) (sh : V) (s : Pl) (ov : V) (rs : List V) (R : List Ent), vs = [.ref a.p] ∧ W H H (plL A a sh s ov rs ++ R) ∧ ∀ H' t, W H H' ((t, .tup [oV s.now, .int s.spot, .bl s.plays]) :: (plL A a sh s ov rs ++ R)) → Q (.ref t) H'
theorem of_Player_state {A : Ads} {vs : List V} {H : Hp} {Q : VK} {E : XK} (h :  ∃ (a : PA) (sh : V) (s : Pl) (ov : V) (rs : List V) (R : List Ent), vs = [.ref a.p] ∧ W H H (plL A a sh s ov rs ++ R) ∧ ∀ H' t, W H H' ((t, .tup [oV s.now, .int s.spot, .bl s.plays]) :: (plL A a sh s ov rs ++ R)) → Q (.ref t) H') : sp_Player_state A vs H Q E := by unfold sp_Player_state; exact h
section
variable {P : Program} {w : World} {K : PySem.W.Frag} {mg : Str → Option Value} {base : Heap} {A : Ads}
theorem ok_Player_init__ (T : Txt K mg A) : FnOk P w K mg base (L2.CX P w) 5 A.f_Player_init__ A.d_Player_init__ P_Player_init__ (sp_Player_init A) := by
  refine T.F_Player_init__.okX sc_Player_init__ (fun vs H Q E h => ?_) (fun cdv Ar outer s H vs Q E hr h => ?_)
  · unfold sp_Player_init at h; obtain ⟨p, dx, sh, ov, n, R, rfl, _⟩ := h; rfl
  · unfold sp_Player_init at h; obtain ⟨p, dx, sh, ov, n, R, rfl, w, k1, k2⟩ := h
    refine ⟨_, (pss_cons (my_if (pt_not (my_chIT op_le op_le pe_int (pv 2) (my_globI T.gi_MOST_OVERLAP (by rfl)) still_c still_v still_c))
        (pss_one (ps_raise rfl takesE (pmk_own PySem.F.excBase_ValueError T.x_BadNumber T.g_BadNumber T.k_BadNumber (raises_own T.r_BadNumber T.t_BadNumber) (by rfl))))
        pss_nil)
      (pss_cons (my_fld (pv 0) (pv 1))
      (pss_cons (my_fld (pv 0) (pv 2))
      (pss_cons (my_fld (pv 0) (my_make T.M_Order (ok_Order_init__ T) (hr.mono (by decide)) (by rfl) T.g_Order T.b_Order_init__ passE (pa_cons (pv 3) pa_nil)))
      (pss_cons (my_fld (pv 0) pe_int)
      (pss_cons (my_fld (pv 0) pe_non)
      (pss_cons (my_fld (pv 0) pe_int)
      (pss_cons (my_fld (pv 0) pe_non)
      (pss_cons (my_fld (pv 0) (my_lst pa_nil))
      (pss_cons (my_fld (pv 0) (my_lst pa_nil))
      (pss_cons (my_fld (pv 0) (my_lst pa_nil))
      (pss_cons (my_fld (pv 0) pe_bl)
      (pss_cons (my_fld (pv 0) pe_bl)
      (pss_one (my_fld (pv 0) pe_non))))))))))))))), ?_⟩
    walk_at "rd"
    refine xIf_2 (fun h => k2 (fun z => nb_t h z.1) _ w.drop1) (fun h => ?_)
    have h1 := nb_f h
    walk_at "rd"
    refine st_fld w 0 rfl T.c_Player T.n_Player_shelf (by decide) fun H1 w1 => ?_
    walk_at "rd"
    refine st_fld w1 0 rfl T.c_Player T.n_Player_overlap (by show 1 < 1000; decide) fun H2 w2 => ?_
    walk_at "rd"
    refine st_make w2 fun o ox H3 w3 => ?_
    refine of_Order_init ⟨o, ox, n, _, rfl, w3.now, fun hn H4 a eo w4 => ?_, fun hn H4 w4 => k2 (fun z => hn z.2) H4 (w3.tr w4).drop1⟩
    subst eo
    have w5 := w3.tr w4
    clear w4 w3 w2 w1
    walk_at "rd"
    refine st_fld w5 6 rfl T.c_Player T.n_Player_order (by show 2 < 1000; decide) fun H5 w6 => ?_
    walk_at "rd"
    refine st_fld w6 6 rfl T.c_Player T.n_Player_time (by show 3 < 1000; decide) fun H6 w7 => ?_
    walk_at "rd"
    refine st_fld w7 6 rfl T.c_Player T.n_Player_now (by show 4 < 1000; decide) fun H7 w8 => ?_
    walk_at "rd"
    refine st_fld w8 6 rfl T.c_Player T.n_Player_spot (by show 5 < 1000; decide) fun H8 w9 => ?_
    walk_at "rd"
    refine st_fld w9 6 rfl T.c_Player T.n_Player_old (by show 6 < 1000; decide) fun H9 w10 => ?_
    walk_at "rd"
    refine st_new w10 fun so H10 w11 => ?_
    walk_at "rd"
    refine st_fld w11 7 rfl T.c_Player T.n_Player_soon (by show 7 < 1000; decide) fun H11 w12 => ?_
    walk_at "rd"
    refine st_new w12 fun pa H12 w13 => ?_
    walk_at "rd"
    refine st_fld w13 8 rfl T.c_Player T.n_Player_past (by show 8 < 1000; decide) fun H13 w14 => ?_
    walk_at "rd"
    refine st_new w14 fun ro H14 w15 => ?_
    walk_at "rd"
    refine st_fld w15 9 rfl T.c_Player T.n_Player_rows (by show 9 < 1000; decide) fun H15 w16 => ?_
    walk_at "rd"
    refine st_fld w16 9 rfl T.c_Player T.n_Player_is_playing (by show 10 < 1000; decide) fun H16 w17 => ?_
    walk_at "rd"
    refine st_fld w17 9 rfl T.c_Player T.n_Player_stops (by show 11 < 1000; decide) fun H17 w18 => ?_
    walk_at "rd"
    refine st_fld w18 9 rfl T.c_Player T.n_Player_sleep_left (by show 12 < 1000; decide) fun H18 w19 => ?_
    exact k1 ⟨h1, hn⟩ H18 ⟨p, dx, so, pa, ro, a⟩ rfl (w19.pick 10 [9, 2, 1, 0, 3, 4, 5, 6, 7, 8])
theorem ok_Player_long (T : Txt K mg A) : FnOk P w K mg base (L2.CX P w) 3 A.f_Player_long A.d_Player_long P_Player_long (sp_Player_long A) := by
  refine T.F_Player_long.okX sc_Player_long (fun vs H Q E h => ?_) (fun cdv Ar outer s H vs Q E hr h => ?_)
  · unfold sp_Player_long at h; obtain ⟨a, b, f, s, ov, rs, e, R, rfl, _⟩ := h; rfl
  · unfold sp_Player_long at h; obtain ⟨a, b, f, s, ov, rs, e, R, rfl, w, kn, q⟩ := h
    refine ⟨_, (pss_one (ps_ret (my_meth (pe_fld (pv 0) rfl) T.c_Shelf T.m_Shelf_long (ok_Shelf_long T) (hr.mono (by decide)) T.b_Shelf_long passE (pa_cons (my_meth (pe_fld (pe_fld (pv 0) rfl) rfl) T.c_Queue T.m_Queue_tune (ok_Queue_tune T) (hr.mono (by decide)) T.b_Queue_tune passE (pa_cons (pv 1) pa_nil)) pa_nil)))), ?_⟩
    walk_at "rd"
    refine st_call (of_Queue_tune ⟨a.o.q, s.o.q, e, _, rfl, (w.rot 5 3).now, fun _ => ?_, fun z => absurd kn.has z⟩)
    refine st_call (of_Shelf_long ⟨b, f, _, _, rfl, (w.rot 10 2).now, fun n hn => ?_, fun z => ?_⟩)
    · rw [kn.lk] at hn
      cases hn
      exact q
    · rw [kn.lk] at z
      cases z
theorem ok_Player_add (T : Txt K mg A) : FnOk P w K mg base (L2.CX P w) 3 A.f_Player_add A.d_Player_add P_Player_add (sp_Player_add A) := by
  refine T.F_Player_add.okX sc_Player_add (fun vs H Q E h => ?_) (fun cdv Ar outer s H vs Q E hr h => ?_)
  · unfold sp_Player_add at h; obtain ⟨a, b, f, s, ov, rs, x, p, R, rfl, _⟩ := h; rfl
  · unfold sp_Player_add at h; obtain ⟨a, b, f, s, ov, rs, x, p, R, rfl, w, ok, hz, k1, k2, k3⟩ := h
    refine ⟨_, (pss_cons (ps_expr (my_meth (pe_fld (pv 0) rfl) T.c_Shelf T.m_Shelf_need (ok_Shelf_need T) (hr.mono (by decide)) T.b_Shelf_need passE (pa_cons (pv 1) pa_nil)))
      (pss_one (ps_ret (my_meth (pe_fld (pv 0) rfl) T.c_Order T.m_Order_put (ok_Order_put T) (hr.mono (by decide)) T.b_Order_put passE (pa_cons (pv 1) (pa_cons (pv 2) pa_nil)))))), ?_⟩
    walk_at "rd"
    refine st_call (of_Shelf_need ⟨b, f, x, _, rfl, (w.rot 10 2).now, fun hx => ?_, k2⟩)
    walk_at "rd"
    refine st_call (of_Order_put ⟨a.o, s.o, x, p, _, rfl, (w.rot 4 6).now, ok, hz, fun hp H1 w1 => ?_, fun hp => k3 hx hp⟩)
    exact k1 hx hp H1 ((w.tr w1).rot 6 4)
theorem ok_Player_remove (T : Txt K mg A) : FnOk P w K mg base (L2.CX P w) 4 A.f_Player_remove A.d_Player_remove P_Player_remove (sp_Player_remove A) := by
  refine T.F_Player_remove.okX sc_Player_remove (fun vs H Q E h => ?_) (fun cdv Ar outer s H vs Q E hr h => ?_)
  · unfold sp_Player_remove at h; obtain ⟨a, sh, s, ov, rs, e, R, rfl, _⟩ := h; rfl
  · unfold sp_Player_remove at h; obtain ⟨a, sh, s, ov, rs, e, R, rfl, w, ok, hz, k1, k2⟩ := h
    refine ⟨_, (pss_cons (ps_expr (my_meth (pe_fld (pv 0) rfl) T.c_Order T.m_Order_remove (ok_Order_remove T) (hr.mono (by decide)) T.b_Order_remove passE (pa_cons (pv 1) (pa_cons (pe_fld (pv 0) rfl) pa_nil))))
      (pss_one (my_fld (pv 0) (my_lc (own := [("one", 2)]) rfl sc_Player_remove.nd (pi_list (pe_fld (pv 0) rfl)) (blkOk_by (own := [("one", 2)]) (N := N_Player_remove) (sc := defScope s_Player_remove) (by decide +kernel)) (fun _ _ _ _ _ => (pg_name (i := 2) sc_Player_remove.nd rfl (by first | exact Or.inl rfl | exact Or.inr rfl))) (fun _ _ _ _ _ => (pts_one (pt_cmpR op_ne (pv 2) (pv 1) (nomark _)))) (fun _ _ _ _ _ => (pv 2)))))), ?_⟩
    walk_at "rd"
    refine st_call (of_Order_remove ⟨a.o, s.o, e, s.now, _, rfl, (w.rot 4 6).now, ok, fun he H1 w1 => ?_, fun he H1 w1 => k2 he H1 ((w.tr w1).rot 6 4)⟩)
    have w2 := (w.tr w1).rot 6 4
    clear w1
    walk_at "rd"
    refine st_but (fun x => !decide (V.int x = V.int e)) w2 1 rfl (by omega) ?_ ?_
    · intro D n P H' h1 h2
      walk_at "rd"
      refine xIf_2 (fun h => ?_) (fun h => h2 h)
      walk_at "rd"
      exact h1 h
    · intro D H2 w3
      walk_at "rd"
      refine sf_Player_soon T w3 1 rfl fun H3 w4 => ?_
      exact k1 he H3 D (w4.pick 5 [1, 0, 3, 4])
theorem ok_Player_move (T : Txt K mg A) : FnOk P w K mg base (L2.CX P w) 3 A.f_Player_move A.d_Player_move P_Player_move (sp_Player_move A) := by
  refine T.F_Player_move.okX sc_Player_move (fun vs H Q E h => ?_) (fun cdv Ar outer s H vs Q E hr h => ?_)
  · unfold sp_Player_move at h; obtain ⟨a, sh, s, ov, rs, e, p, R, rfl, _⟩ := h; rfl
  · unfold sp_Player_move at h; obtain ⟨a, sh, s, ov, rs, e, p, R, rfl, w, ok, k1, k2, k3⟩ := h
    refine ⟨_, (pss_one (ps_expr (my_meth (pe_fld (pe_fld (pv 0) rfl) rfl) T.c_Queue T.m_Queue_move (ok_Queue_move T) (hr.mono (by decide)) T.b_Queue_move passE (pa_cons (pv 1) (pa_cons (pv 2) pa_nil))))), ?_⟩
    walk_at "rd"
    exact st_call (of_Queue_move ⟨a.o.q, s.o.q, e, p, _, rfl, (w.rot 5 3).now, ok.q, fun he hp H1 w1 => k1 he hp H1 ((w.tr w1).rot 3 5), k2, k3⟩)
theorem ok_Player_play_soon (T : Txt K mg A) : FnOk P w K mg base (L2.CX P w) 2 A.f_Player_play_soon A.d_Player_play_soon P_Player_play_soon (sp_Player_play_soon A) := by
  refine T.F_Player_play_soon.okX sc_Player_play_soon (fun vs H Q E h => ?_) (fun cdv Ar outer s H vs Q E hr h => ?_)
  · unfold sp_Player_play_soon at h; obtain ⟨a, sh, s, ov, rs, e, R, rfl, _⟩ := h; rfl
  · unfold sp_Player_play_soon at h; obtain ⟨a, sh, s, ov, rs, e, R, rfl, w, hz, k1, k2⟩ := h
    refine ⟨_, (pss_cons (ps_expr (my_meth (pe_fld (pe_fld (pv 0) rfl) rfl) T.c_Queue T.m_Queue_need (ok_Queue_need T) (hr.mono (by decide)) T.b_Queue_need passE (pa_cons (pv 1) pa_nil)))
      (pss_one (ps_expr (pe_bm PySem.F.plainAttrs_list PySem.F.slot_list_append PySem.F.type_list_append my_append (pe_fld (pv 0) rfl) (pa_cons (pv 1) pa_nil))))), ?_⟩
    walk_at "rd"
    refine st_call (of_Queue_need ⟨a.o.q, s.o.q, e, _, rfl, (w.rot 5 3).now, fun he => ?_, k2⟩)
    walk_at "rd"
    refine st_app w 1 rfl (by rw [List.length_map]; exact szL (by omega)) fun H1 w1 => k1 he H1 ?_
    have e1 : s.soon.map V.int ++ [V.int e] = (s.soon ++ [e]).map V.int := by rw [List.map_append]; rfl
    rw [e1] at w1
    exact w1
theorem ok_Player_entries (T : Txt K mg A) : FnOk P w K mg base (L2.CX P w) 2 A.f_Player_entries A.d_Player_entries P_Player_entries (sp_Player_entries A) := by
  refine T.F_Player_entries.okX sc_Player_entries (fun vs H Q E h => ?_) (fun cdv Ar outer s H vs Q E hr h => ?_)
  · unfold sp_Player_entries at h; obtain ⟨a, sh, s, ov, rs, R, rfl, _⟩ := h; rfl
  · unfold sp_Player_entries at h; obtain ⟨a, sh, s, ov, rs, R, rfl, w, k⟩ := h
    refine ⟨_, (pss_one (ps_ret (my_meth0 (pe_fld (pe_fld (pv 0) rfl) rfl) T.c_Queue T.m_Queue_entries (ok_Queue_entries T) (hr.mono (by decide)) T.b_Queue_entries passE))), ?_⟩
    walk_at "rd"
    refine st_call (of_Queue_entries ⟨a.o.q, s.o.q, _, rfl, (w.rot 5 3).now, fun H1 l w1 => k H1 l ?_⟩)
    exact (w.tr w1).pick 9 [0, 4, 5, 6, 7, 8, 1, 2, 3]
theorem ok_Player_tune (T : Txt K mg A) : FnOk P w K mg base (L2.CX P w) 2 A.f_Player_tune A.d_Player_tune P_Player_tune (sp_Player_tune A) := by
  refine T.F_Player_tune.okX sc_Player_tune (fun vs H Q E h => ?_) (fun cdv Ar outer s H vs Q E hr h => ?_)
  · unfold sp_Player_tune at h; obtain ⟨a, sh, s, ov, rs, e, R, rfl, _⟩ := h; rfl
  · unfold sp_Player_tune at h; obtain ⟨a, sh, s, ov, rs, e, R, rfl, w, k1, k2⟩ := h
    refine ⟨_, (pss_one (ps_ret (my_meth (pe_fld (pe_fld (pv 0) rfl) rfl) T.c_Queue T.m_Queue_tune (ok_Queue_tune T) (hr.mono (by decide)) T.b_Queue_tune passE (pa_cons (pv 1) pa_nil)))), ?_⟩
    walk_at "rd"
    exact st_call (of_Queue_tune ⟨a.o.q, s.o.q, e, _, rfl, (w.rot 5 3).now, k1, k2⟩)
theorem ok_Player_set_again (T : Txt K mg A) : FnOk P w K mg base (L2.CX P w) 2 A.f_Player_set_again A.d_Player_set_again P_Player_set_again (sp_Player_set_again A) := by
  refine T.F_Player_set_again.okX sc_Player_set_again (fun vs H Q E h => ?_) (fun cdv Ar outer s H vs Q E hr h => ?_)
  · unfold sp_Player_set_again at h; obtain ⟨a, sh, s, ov, rs, x, R, rfl, _⟩ := h; rfl
  · unfold sp_Player_set_again at h; obtain ⟨a, sh, s, ov, rs, x, R, rfl, w, k1, k2⟩ := h
    refine ⟨_, (pss_one (ps_expr (my_meth (pe_fld (pv 0) rfl) T.c_Order T.m_Order_set_again (ok_Order_set_again T) (hr.mono (by decide)) T.b_Order_set_again passE (pa_cons (pv 1) pa_nil)))), ?_⟩
    walk_at "rd"
    exact st_call (of_Order_set_again ⟨a.o, s.o, x, _, rfl, (w.rot 4 6).now, fun hx H1 w1 => k1 hx H1 ((w.tr w1).rot 6 4), k2⟩)
theorem ok_Player_set_mixed (T : Txt K mg A) : FnOk P w K mg base (L2.CX P w) 4 A.f_Player_set_mixed A.d_Player_set_mixed P_Player_set_mixed (sp_Player_set_mixed A) := by
  refine T.F_Player_set_mixed.okX sc_Player_set_mixed (fun vs H Q E h => ?_) (fun cdv Ar outer s H vs Q E hr h => ?_)
  · unfold sp_Player_set_mixed at h; obtain ⟨a, sh, s, ov, rs, b, R, rfl, _⟩ := h; rfl
  · unfold sp_Player_set_mixed at h; obtain ⟨a, sh, s, ov, rs, b, R, rfl, w, ok, k⟩ := h
    refine ⟨_, (pss_one (ps_expr (my_meth (pe_fld (pv 0) rfl) T.c_Order T.m_Order_set_mixed (ok_Order_set_mixed T) (hr.mono (by decide)) T.b_Order_set_mixed passE (pa_cons (pv 1) (pa_cons (pe_fld (pv 0) rfl) pa_nil))))), ?_⟩
    walk_at "rd"
    exact st_call (of_Order_set_mixed ⟨a.o, s.o, b, s.now, _, rfl, (w.rot 4 6).now, ok, fun H1 k' w1 => k H1 k' ((w.tr w1).rot 6 4)⟩)
theorem ok_Player_pause (T : Txt K mg A) : FnOk P w K mg base (L2.CX P w) 1 A.f_Player_pause A.d_Player_pause P_Player_pause (sp_Player_pause A) := by
  refine T.F_Player_pause.okX sc_Player_pause (fun vs H Q E h => ?_) (fun cdv Ar outer s H vs Q E hr h => ?_)
  · unfold sp_Player_pause at h; obtain ⟨a, sh, s, ov, rs, R, rfl, _⟩ := h; rfl
  · unfold sp_Player_pause at h; obtain ⟨a, sh, s, ov, rs, R, rfl, w, k⟩ := h
    refine ⟨_, (pss_one (my_fld (pv 0) pe_bl)), ?_⟩
    walk_at "rd"
    exact sf_Player_is_playing T w 0 rfl fun H1 w1 => k H1 w1
theorem ok_Player_stop_behind (T : Txt K mg A) : FnOk P w K mg base (L2.CX P w) 1 A.f_Player_stop_behind A.d_Player_stop_behind P_Player_stop_behind (sp_Player_stop_behind A) := by
  refine T.F_Player_stop_behind.okX sc_Player_stop_behind (fun vs H Q E h => ?_) (fun cdv Ar outer s H vs Q E hr h => ?_)
  · unfold sp_Player_stop_behind at h; obtain ⟨a, sh, s, ov, rs, b, R, rfl, _⟩ := h; rfl
  · unfold sp_Player_stop_behind at h; obtain ⟨a, sh, s, ov, rs, b, R, rfl, w, k⟩ := h
    refine ⟨_, (pss_one (my_fld (pv 0) (pv 1))), ?_⟩
    walk_at "rd"
    exact sf_Player_stops T w 0 rfl fun H1 w1 => k H1 w1
theorem ok_Player_sleep (T : Txt K mg A) : FnOk P w K mg base (L2.CX P w) 1 A.f_Player_sleep A.d_Player_sleep P_Player_sleep (sp_Player_sleep A) := by
  refine T.F_Player_sleep.okX sc_Player_sleep (fun vs H Q E h => ?_) (fun cdv Ar outer s H vs Q E hr h => ?_)
  · unfold sp_Player_sleep at h; obtain ⟨a, sh, s, ov, rs, m, R, rfl, _⟩ := h; rfl
  · unfold sp_Player_sleep at h; obtain ⟨a, sh, s, ov, rs, m, R, rfl, w, k1, k2⟩ := h
    refine ⟨_, (pss_cons (my_if (PW.pt (my_and (pt_cmpR op_notN (pv 1) pe_non (nomark _)) (pw_and1 (pt_not (my_chIT op_le op_le pe_int (pv 1) (my_globI T.gi_MOST_SLEEP (by rfl)) still_c still_v still_c)))))
        (pss_one (ps_raise rfl takesE (pmk_own PySem.F.excBase_ValueError T.x_BadNumber T.g_BadNumber T.k_BadNumber (raises_own T.r_BadNumber T.t_BadNumber) (by rfl))))
        pss_nil)
      (pss_one (my_fld (pv 0) (pv 1)))), ?_⟩
    cases m with
    | none =>
      walk_at "rd"
      refine xIf_F rfl ?_
      refine xIf_F rfl ?_
      walk_at "rd"
      exact sf_Player_sleep_left T w 0 rfl fun H1 w1 => k1 (fun _ z => nomatch z) H1 w1
    | some j =>
      walk_at "rd"
      refine xIf_T rfl ?_
      walk_at "rd"
      refine xIf_2 (fun h => k2 (fun z => nb_t h (z j rfl))) (fun h => ?_)
      have h1 := nb_f h
      walk_at "rd"
      exact sf_Player_sleep_left T w 0 rfl fun H1 w1 => k1 (fun x z => by cases z; exact h1) H1 w1
theorem ok_Player_next_entry (T : Txt K mg A) : FnOk P w K mg base (L2.CX P w) 6 A.f_Player_next_entry A.d_Player_next_entry P_Player_next_entry (sp_Player_next_entry A) := by
  refine T.F_Player_next_entry.okX sc_Player_next_entry (fun vs H Q E h => ?_) (fun cdv Ar outer s H vs Q E hr h => ?_)
  · unfold sp_Player_next_entry at h; obtain ⟨a, sh, s, ov, rs, l, R, rfl, _⟩ := h; rfl
  · unfold sp_Player_next_entry at h; obtain ⟨a, sh, s, ov, rs, l, R, rfl, w, ok, k⟩ := h
    refine ⟨_, (pss_cons (my_if (pt_truth (pe_fld (pv 0) rfl) (by intro _; rfl))
        (pss_one (ps_ret (pe_bm PySem.F.plainAttrs_list PySem.F.slot_list_pop PySem.F.type_list_pop my_popAt (pe_fld (pv 0) rfl) (pa_cons pe_int pa_nil))))
        pss_nil)
      (pss_one (ps_ret (my_ifExp (pt_val (pv 1)) (my_meth (pe_fld (pv 0) rfl) T.c_Order T.m_Order_skip (ok_Order_skip T) (hr.mono (by decide)) T.b_Order_skip passE (pa_cons (pe_fld (pv 0) rfl) pa_nil)) (my_meth (pe_fld (pv 0) rfl) T.c_Order T.m_Order_after (ok_Order_after T) (hr.mono (by decide)) T.b_Order_after passE (pa_cons (pe_fld (pv 0) rfl) pa_nil)))))), ?_⟩
    obtain ⟨pov, o, time, now, spot, old, soon, past, rows, plays, stops, sleep⟩ := s
    have ok : o.Ok := ok
    cases soon with
    | cons x r =>
      walk_at "rd"
      refine xIf_T rfl ?_
      walk_at "rd"
      exact st_pop0 w 1 rfl fun H1 w1 => k H1 a.o.k w1
    | nil =>
      walk_at "rd"
      refine xIf_F rfl ?_
      walk_at "rd"
      cases l with
      | true =>
        refine xIf_T rfl ?_
        walk_at "rd"
        exact st_call (of_Order_skip ⟨a.o, o, now, _, rfl, (w.rot 4 6).now, ok, fun H1 k' w1 => k H1 k' ((w.tr w1).rot 6 4)⟩)
      | false =>
        refine xIf_F rfl ?_
        walk_at "rd"
        exact st_call (of_Order_after ⟨a.o, o, now, _, rfl, (w.rot 4 6).now, ok, fun H1 k' w1 => k H1 k' ((w.tr w1).rot 6 4)⟩)
theorem ok_Player_join_long (T : Txt K mg A) : FnOk P w K mg base (L2.CX P w) 4 A.f_Player_join_long A.d_Player_join_long P_Player_join_long (sp_Player_join_long A) := by
  refine T.F_Player_join_long.okX sc_Player_join_long (fun vs H Q E h => ?_) (fun cdv Ar outer s H vs Q E hr h => ?_)
  · unfold sp_Player_join_long at h; obtain ⟨a, b, f, s, ov, rs, n, x, R, rfl, _⟩ := h; rfl
  · unfold sp_Player_join_long at h; obtain ⟨a, b, f, s, ov, rs, n, x, R, rfl, w, hn, kn, kx, q⟩ := h
    refine ⟨_, (pss_one (ps_ret (pe_callB (my_min3 rfl) (by rfl) T.z_min (by decide +kernel) (pa_cons (pe_fld (pv 0) rfl) (pa_cons (pe_op op_fdiv (my_meth (pv 0) T.c_Player T.m_Player_long (ok_Player_long T) (hr.mono (by decide)) T.b_Player_long passE (pa_cons (pe_fld (pv 0) rfl) pa_nil)) pe_int) (pa_cons (pe_op op_fdiv (my_meth (pv 0) T.c_Player T.m_Player_long (ok_Player_long T) (hr.mono (by decide)) T.b_Player_long passE (pa_cons (pv 1) pa_nil)) pe_int) pa_nil)))))), ?_⟩
    have e1 : oV s.now = .int n := by rw [hn]; rfl
    walk_at "rd"
    refine st_call (of_Player_long ⟨a, b, f, s, ov, rs, n, R, by rw [e1], w, kn, ?_⟩)
    walk_at "rd"
    refine st_call (of_Player_long ⟨a, b, f, s, ov, rs, x, R, rfl, w, kx, ?_⟩)
    walk_at "rd"
    exact q
theorem ok_Player_ticks (T : Txt K mg A) : FnOk P w K mg base (L2.CX P w) 1 A.f_Player_ticks A.d_Player_ticks P_Player_ticks (sp_Player_ticks A) := by
  refine T.F_Player_ticks.okX sc_Player_ticks (fun vs H Q E h => ?_) (fun cdv Ar outer s H vs Q E hr h => ?_)
  · unfold sp_Player_ticks at h; obtain ⟨a, sh, s, ov, rs, R, rfl, _⟩ := h; rfl
  · unfold sp_Player_ticks at h; obtain ⟨a, sh, s, ov, rs, R, rfl, w, q⟩ := h
    refine ⟨_, (pss_one (ps_ret (pe_fld (pv 0) rfl))), ?_⟩
    walk_at "rd"
    exact q
theorem ok_Player_log (T : Txt K mg A) : FnOk P w K mg base (L2.CX P w) 1 A.f_Player_log A.d_Player_log P_Player_log (sp_Player_log A) := by
  refine T.F_Player_log.okX sc_Player_log (fun vs H Q E h => ?_) (fun cdv Ar outer s H vs Q E hr h => ?_)
  · unfold sp_Player_log at h; obtain ⟨a, sh, s, ov, rs, R, rfl, _⟩ := h; rfl
  · unfold sp_Player_log at h; obtain ⟨a, sh, s, ov, rs, R, rfl, w, k⟩ := h
    refine ⟨_, (pss_one (ps_ret (pe_callTy my_listOf (by rfl) T.z_list (by decide +kernel) (pa_cons (pe_fld (pv 0) rfl) pa_nil)))), ?_⟩
    walk_at "rd"
    exact st_new w fun l H1 w1 => k H1 l w1
theorem ok_Player_state (T : Txt K mg A) : FnOk P w K mg base (L2.CX P w) 1 A.f_Player_state A.d_Player_state P_Player_state (sp_Player_state A) := by
  refine T.F_Player_state.okX sc_Player_state (fun vs H Q E h => ?_) (fun cdv Ar outer s H vs Q E hr h => ?_)
  · unfold sp_Player_state at h; obtain ⟨a, sh, s, ov, rs, R, rfl, _⟩ := h; rfl
  · unfold sp_Player_state at h; obtain ⟨a, sh, s, ov, rs, R, rfl, w, k⟩ := h
    refine ⟨_, (pss_one (ps_ret (my_tup (pa_cons (pe_fld (pv 0) rfl) (pa_cons (pe_fld (pv 0) rfl) (pa_cons (pe_fld (pv 0) rfl) pa_nil)))))), ?_⟩
    walk_at "rd"
    exact st_new w fun l H1 w1 => k H1 l w1
end
end TR

namespace TR
open PySem L2
@[irreducible] def xWb (Wv : Nat → L2.St → Hp → Prop) (tb : TS) (D : Ends) (m : Nat) (σ : L2.St) (b : Bool) (H1 : Hp) : Prop :=
  if b = true then ∃ N : L2.St → Hp → Prop, (∀ σ' H', N σ' H' → ∃ m', m' < m ∧ Wv m' σ' H') ∧ tb { D with nx := N, ct := N, bk := D.nx } σ H1 else D.nx σ H1
theorem st_while2 {H : Hp} {c : TT} {tb : TS} {D : Ends} {σ : L2.St} (Wv : Nat → L2.St → Hp → Prop) (m0 : Nat) (h0 : Wv m0 σ H) (hs : ∀ m σ H, Wv m σ H → c σ H (xWb Wv tb D m σ)) : xWhile c tb D σ H := by
  unfold xWb at hs
  unfold xWhile
  exact ⟨Wv, ⟨m0, h0⟩, hs⟩
theorem xWb_T {Wv : Nat → L2.St → Hp → Prop} {tb : TS} {D : Ends} {m : Nat} {σ : L2.St} {b : Bool} {H1 : Hp} (hb : b = true) (h : tb { D with nx := fun σ' H' => ∃ m', m' < m ∧ Wv m' σ' H', ct := fun σ' H' => ∃ m', m' < m ∧ Wv m' σ' H', bk := D.nx } σ H1) : xWb Wv tb D m σ b H1 := by
  unfold xWb; rw [if_pos hb]; exact ⟨_, fun _ _ z => z, h⟩
theorem xWb_F {Wv : Nat → L2.St → Hp → Prop} {tb : TS} {D : Ends} {m : Nat} {σ : L2.St} {b : Bool} {H1 : Hp} (hb : b = false) (h : D.nx σ H1) : xWb Wv tb D m σ b H1 := by
  unfold xWb; rw [hb, if_neg Bool.false_ne_true]; exact h
theorem atI_last (q : List Int) (y : Int) : atI ((q ++ [y]).map V.int) (-1) = some (.int y) := by
  unfold atI ixN
  rw [List.length_map, List.length_append, List.length_singleton, if_neg (by decide), if_pos (by push_cast; omega)]
  show ((q ++ [y]).map V.int)[((-1 : Int) + ((q.length + 1 : Nat) : Int)).toNat]? = _
  rw [show ((-1 : Int) + ((q.length + 1 : Nat) : Int)).toNat = q.length by push_cast; omega, List.getElem?_map, List.getElem?_append_right (Nat.le_refl _), Nat.sub_self]
  rfl
theorem dropT_out {turn q : List Int} {y : Int} (h : y ∉ turn) : dropT turn (q ++ [y]) = dropT turn q := by
  unfold dropT
  rw [List.reverse_append, List.reverse_singleton, List.singleton_append, List.dropWhile_cons_of_pos (by simpa using h)]
theorem dropT_in {turn q : List Int} {y : Int} (h : y ∈ turn) : dropT turn (q ++ [y]) = q ++ [y] := by
  unfold dropT
  rw [List.reverse_append, List.reverse_singleton, List.singleton_append, List.dropWhile_cons_of_neg (by simpa using h), List.reverse_cons, List.reverse_reverse]
theorem dropT_len (turn p : List Int) : (dropT turn p).length ≤ p.length := by
  unfold dropT
  rw [List.length_reverse]
  have := (List.dropWhile_sublist (l := p.reverse) (fun x => decide (x ∉ turn))).length_le
  rw [List.length_reverse] at this
  exact this
theorem snoc_cases (p : List Int) : p = [] ∨ ∃ q y, p = q ++ [y] := by
  rcases List.eq_nil_or_concat p with h | ⟨q, y, h⟩
  · exact .inl h
  · exact .inr ⟨q, y, by rw [h, List.concat_eq_append]⟩
theorem beginP_plays (f : Sf) (s : Pl) (e : Option Int) (j : Bool) : (beginP f s e j).plays = s.plays := by cases e <;> rfl
theorem pushN_F {H H' : Hp} (t : Tps H H') {s : Pl} {ov : V} {rs : List V} (h : PlF H s ov rs) : PlF H' (pushN s) ov rs := by
  unfold pushN
  split
  · exact h.mono t
  · exact ⟨h.old.mono t, h.rows.mono t⟩
@[irreducible] def sp_Player_play (A : Ads) : Sp := fun vs H Q E => ∃ (a : PA) (b : SA) (f : Sf) (s : Pl) (e : Int) (R : List Ent), vs = [.ref a.p, .int e] ∧ PlW A H H a (.ref b.q) s (sL A b f ++ R) ∧ s.o.Ok ∧ Sz s 50000 ∧
  (e ∈ s.o.q.turn → ∀ H', PlW A H H' a (.ref b.q) (playP f s e) (sL A b f ++ R) → Q .non H') ∧ (e ∉ s.o.q.turn → E (.ref A.c_BadEntry) none H)
theorem of_Player_play {A : Ads} {vs : List V} {H : Hp} {Q : VK} {E : XK} (h :  ∃ (a : PA) (b : SA) (f : Sf) (s : Pl) (e : Int) (R : List Ent), vs = [.ref a.p, .int e] ∧ PlW A H H a (.ref b.q) s (sL A b f ++ R) ∧ s.o.Ok ∧ Sz s 50000 ∧
  (e ∈ s.o.q.turn → ∀ H', PlW A H H' a (.ref b.q) (playP f s e) (sL A b f ++ R) → Q .non H') ∧ (e ∉ s.o.q.turn → E (.ref A.c_BadEntry) none H)) : sp_Player_play A vs H Q E := by unfold sp_Player_play; exact h
@[irreducible] def sp_Player_resume (A : Ads) : Sp := fun vs H Q _ => ∃ (a : PA) (b : SA) (f : Sf) (s : Pl) (R : List Ent), vs = [.ref a.p] ∧ PlW A H H a (.ref b.q) s (sL A b f ++ R) ∧ s.o.Ok ∧ Sz s 50000 ∧
  ∀ H' a', a'.p = a.p → PlW A H H' a' (.ref b.q) (resumeP f s) (sL A b f ++ R) → Q .non H'
theorem of_Player_resume {A : Ads} {vs : List V} {H : Hp} {Q : VK} {E : XK} (h :  ∃ (a : PA) (b : SA) (f : Sf) (s : Pl) (R : List Ent), vs = [.ref a.p] ∧ PlW A H H a (.ref b.q) s (sL A b f ++ R) ∧ s.o.Ok ∧ Sz s 50000 ∧
  ∀ H' a', a'.p = a.p → PlW A H H' a' (.ref b.q) (resumeP f s) (sL A b f ++ R) → Q .non H') : sp_Player_resume A vs H Q E := by unfold sp_Player_resume; exact h
@[irreducible] def sp_Player_skip (A : Ads) : Sp := fun vs H Q _ => ∃ (a : PA) (b : SA) (f : Sf) (s : Pl) (R : List Ent), vs = [.ref a.p] ∧ PlW A H H a (.ref b.q) s (sL A b f ++ R) ∧ s.o.Ok ∧ Sz s 50000 ∧
  ∀ H' a', a'.p = a.p → PlW A H H' a' (.ref b.q) (skipP f s) (sL A b f ++ R) → Q .non H'
theorem of_Player_skip {A : Ads} {vs : List V} {H : Hp} {Q : VK} {E : XK} (h :  ∃ (a : PA) (b : SA) (f : Sf) (s : Pl) (R : List Ent), vs = [.ref a.p] ∧ PlW A H H a (.ref b.q) s (sL A b f ++ R) ∧ s.o.Ok ∧ Sz s 50000 ∧
  ∀ H' a', a'.p = a.p → PlW A H H' a' (.ref b.q) (skipP f s) (sL A b f ++ R) → Q .non H') : sp_Player_skip A vs H Q E := by unfold sp_Player_skip; exact h
@[irreducible] def sp_Player_back (A : Ads) : Sp := fun vs H Q _ => ∃ (a : PA) (b : SA) (f : Sf) (s : Pl) (R : List Ent), vs = [.ref a.p] ∧ PlW A H H a (.ref b.q) s (sL A b f ++ R) ∧ s.o.Ok ∧ Sz s 50000 ∧
  ∀ H', PlW A H H' a (.ref b.q) (backP f s) (sL A b f ++ R) → Q .non H'
theorem of_Player_back {A : Ads} {vs : List V} {H : Hp} {Q : VK} {E : XK} (h :  ∃ (a : PA) (b : SA) (f : Sf) (s : Pl) (R : List Ent), vs = [.ref a.p] ∧ PlW A H H a (.ref b.q) s (sL A b f ++ R) ∧ s.o.Ok ∧ Sz s 50000 ∧
  ∀ H', PlW A H H' a (.ref b.q) (backP f s) (sL A b f ++ R) → Q .non H') : sp_Player_back A vs H Q E := by unfold sp_Player_back; exact h
@[irreducible] def sp_Player_seek (A : Ads) : Sp := fun vs H Q E => ∃ (a : PA) (b : SA) (f : Sf) (s : Pl) (ov : V) (rs : List V) (x : Int) (R : List Ent), vs = [.ref a.p, .int x] ∧ W H H (plL A a (.ref b.q) s ov rs ++ (sL A b f ++ R)) ∧ (∀ n, s.now = some n → Kn f s.o n) ∧
  (∀ n, s.now = some n → 0 ≤ x ∧ x < longO f s.o n → ∀ H', W H H' (plL A a (.ref b.q) (seekP s x) .non rs ++ (sL A b f ++ R)) → Q .non H') ∧ (s.now = none → E (.ref A.c_BadEntry) none H) ∧ (∀ n, s.now = some n → ¬ (0 ≤ x ∧ x < longO f s.o n) → E (.ref A.c_BadNumber) none H)
theorem of_Player_seek {A : Ads} {vs : List V} {H : Hp} {Q : VK} {E : XK} (h :  ∃ (a : PA) (b : SA) (f : Sf) (s : Pl) (ov : V) (rs : List V) (x : Int) (R : List Ent), vs = [.ref a.p, .int x] ∧ W H H (plL A a (.ref b.q) s ov rs ++ (sL A b f ++ R)) ∧ (∀ n, s.now = some n → Kn f s.o n) ∧
  (∀ n, s.now = some n → 0 ≤ x ∧ x < longO f s.o n → ∀ H', W H H' (plL A a (.ref b.q) (seekP s x) .non rs ++ (sL A b f ++ R)) → Q .non H') ∧ (s.now = none → E (.ref A.c_BadEntry) none H) ∧ (∀ n, s.now = some n → ¬ (0 ≤ x ∧ x < longO f s.o n) → E (.ref A.c_BadNumber) none H)) : sp_Player_seek A vs H Q E := by unfold sp_Player_seek; exact h
section
variable {P : Program} {w : World} {K : PySem.W.Frag} {mg : Str → Option Value} {base : Heap} {A : Ads}
theorem ok_Player_twin (T : Txt K mg A) : FnOk P w K mg base (L2.CX P w) 7 A.f_Player_twin A.d_Player_twin P_Player_twin (sp_Player_twin A) := by
  refine T.F_Player_twin.okX sc_Player_twin (fun vs H Q E h => ?_) (fun cdv Ar outer s H vs Q E hr h => ?_)
  · unfold sp_Player_twin at h; obtain ⟨a, sh, s, ov, rs, R, rfl, _⟩ := h; rfl
  · unfold sp_Player_twin at h; obtain ⟨a, sh, s, ov, rs, R, rfl, w, ok, hov, k⟩ := h
    refine ⟨_, (pss_cons (ps_set (i := 1) sc_Player_twin.nd rfl (by first | exact Or.inl rfl | exact Or.inr rfl) (my_make T.M_Player (ok_Player_init__ T) (hr.mono (by decide)) (by rfl) T.g_Player T.b_Player_init__ passE (pa_cons (pe_fld (pv 0) rfl) (pa_cons (pe_fld (pv 0) rfl) (pa_cons pe_int pa_nil)))))
      (pss_cons (my_fld (pv 1) (my_meth0 (pe_fld (pv 0) rfl) T.c_Order T.m_Order_twin (ok_Order_twin T) (hr.mono (by decide)) T.b_Order_twin passE))
      (pss_cons (my_fld (pv 1) (pe_fld (pv 0) rfl))
      (pss_cons (my_fld (pv 1) (pe_fld (pv 0) rfl))
      (pss_cons (my_fld (pv 1) (pe_fld (pv 0) rfl))
      (pss_cons (my_fld (pv 1) (pe_fld (pv 0) rfl))
      (pss_cons (my_fld (pv 1) (pe_callTy my_listOf (by rfl) T.z_list (by decide +kernel) (pa_cons (pe_fld (pv 0) rfl) pa_nil)))
      (pss_cons (my_fld (pv 1) (pe_callTy my_listOf (by rfl) T.z_list (by decide +kernel) (pa_cons (pe_fld (pv 0) rfl) pa_nil)))
      (pss_cons (my_fld (pv 1) (pe_callTy my_listOf (by rfl) T.z_list (by decide +kernel) (pa_cons (pe_fld (pv 0) rfl) pa_nil)))
      (pss_cons (my_fld (pv 1) (pe_fld (pv 0) rfl))
      (pss_cons (my_fld (pv 1) (pe_fld (pv 0) rfl))
      (pss_cons (my_fld (pv 1) (pe_fld (pv 0) rfl))
      (pss_one (ps_ret (pv 1))))))))))))))), ?_⟩
    walk_at "rd"
    refine st_make w fun p dx H1 w1 => ?_
    refine of_Player_init ⟨p, dx, sh, s.ov, 0, _, rfl, w1.now, fun _ H2 b eb w2 => ?_, fun z => absurd ⟨hov, by decide, by decide⟩ z⟩
    subst eb
    have w3 : W H H2 (plL A b sh (pl0 s.ov 0) .non [] ++ (plL A a sh s ov rs ++ R)) := w1.tr w2
    clear w1 w2
    have w3b : W H H2 ((b.p, .ins A.c_Player b.dx (fl_Player sh (.int s.ov) (.ref b.o.o) (.int 0) .non (.int 0) .non (.ref b.so) (.ref b.pa) (.ref b.ro) (.bl false) (.bl false) .non)) :: (plL A a sh s ov rs ++ R)) := w3.pick 10 [0]
    clear w3
    walk_at "rd"
    refine st_call (of_Order_twin ⟨a.o, s.o, _, rfl, (w3b.rot 5 6).now, ok, fun H3 o' w4 => ?_⟩)
    have w5 : W H H3 ((b.p, .ins A.c_Player b.dx (fl_Player sh (.int s.ov) (.ref b.o.o) (.int 0) .non (.int 0) .non (.ref b.so) (.ref b.pa) (.ref b.ro) (.bl false) (.bl false) .non)) :: (orL A o' s.o ++ (plL A a sh s ov rs ++ R))) := (w3b.tr w4).pick 17 [12, 0, 1, 2, 3, 4, 5, 13, 14, 15, 16, 6, 7, 8, 9, 10, 11]
    clear w4 w3b
    walk_at "rd"
    refine sf_Player_order T w5 0 rfl fun H4 w6 => ?_
    walk_at "rd"
    refine sf_Player_time T w6 0 rfl fun H5 w7 => ?_
    walk_at "rd"
    refine sf_Player_now T w7 0 rfl fun H6 w8 => ?_
    walk_at "rd"
    refine sf_Player_spot T w8 0 rfl fun H7 w9 => ?_
    walk_at "rd"
    refine sf_Player_old T w9 0 rfl fun H8 w10 => ?_
    replace w10 : W H H8 ((b.p, .ins A.c_Player b.dx (fl_Player sh (.int s.ov) (.ref o'.o) (.int s.time) (oV s.now) (.int s.spot) ov (.ref b.so) (.ref b.pa) (.ref b.ro) (.bl false) (.bl false) .non)) :: (orL A o' s.o ++ (plL A a sh s ov rs ++ R))) := w10
    clear w9 w8 w7 w6 w5
    walk_at "rd"
    refine st_new w10 fun so H9 w11 => ?_
    walk_at "rd"
    refine sf_Player_soon T w11 1 rfl fun H10 w12 => ?_
    walk_at "rd"
    refine st_new w12 fun pa H11 w13 => ?_
    walk_at "rd"
    refine sf_Player_past T w13 2 rfl fun H12 w14 => ?_
    walk_at "rd"
    refine st_new w14 fun ro H13 w15 => ?_
    walk_at "rd"
    refine sf_Player_rows T w15 3 rfl fun H14 w16 => ?_
    replace w16 : W H H14 ((ro, .lst rs) :: (pa, .lst (s.past.map V.int)) :: (so, .lst (s.soon.map V.int)) :: (b.p, .ins A.c_Player b.dx (fl_Player sh (.int s.ov) (.ref o'.o) (.int s.time) (oV s.now) (.int s.spot) ov (.ref so) (.ref pa) (.ref ro) (.bl false) (.bl false) .non)) :: (orL A o' s.o ++ (plL A a sh s ov rs ++ R))) := w16
    clear w15 w14 w13 w12 w11 w10
    walk_at "rd"
    refine sf_Player_is_playing T w16 3 rfl fun H15 w17 => ?_
    walk_at "rd"
    refine sf_Player_stops T w17 3 rfl fun H16 w18 => ?_
    walk_at "rd"
    refine sf_Player_sleep_left T w18 3 rfl fun H17 w19 => ?_
    replace w19 : W H H17 ((ro, .lst rs) :: (pa, .lst (s.past.map V.int)) :: (so, .lst (s.soon.map V.int)) :: (b.p, .ins A.c_Player b.dx (fl_Player sh (.int s.ov) (.ref o'.o) (.int s.time) (oV s.now) (.int s.spot) ov (.ref so) (.ref pa) (.ref ro) (.bl s.plays) (.bl s.stops) (oV s.sleep))) :: (orL A o' s.o ++ (plL A a sh s ov rs ++ R))) := w19
    clear w18 w17 w16
    walk_at "rd"
    exact k H17 ⟨b.p, b.dx, so, pa, ro, o'⟩ (w19.pick 10 [3, 2, 1, 0, 4, 5, 6, 7, 8, 9])
end
end TR

namespace TR
open PySem L2
section
variable {P : Program} {w : World} {K : PySem.W.Frag} {mg : Str → Option Value} {base : Heap} {A : Ads}
theorem ok_Player_begin (T : Txt K mg A) : FnOk P w K mg base (L2.CX P w) 4 A.f_Player_begin A.d_Player_begin P_Player_begin (sp_Player_begin A) := by
  refine T.F_Player_begin.okX sc_Player_begin (fun vs H Q E h => ?_) (fun cdv Ar outer s H vs Q E hr h => ?_)
  · unfold sp_Player_begin at h; obtain ⟨a, b, f, s, e, j, R, rfl, _⟩ := h; rfl
  · unfold sp_Player_begin at h; obtain ⟨a, b, f, s, e, j, R, rfl, ⟨ov, rs, w, fa⟩, ok, hz, hj, k⟩ := h
    refine ⟨_, (pss_cons (my_fld (pv 0) (my_ifExp (pt_val (pv 2)) (my_tup (pa_cons (pe_fld (pv 0) rfl) (pa_cons (pe_fld (pv 0) rfl) (pa_cons (pe_op op_sub (my_meth (pv 0) T.c_Player T.m_Player_long (ok_Player_long T) (hr.mono (by decide)) T.b_Player_long passE (pa_cons (pe_fld (pv 0) rfl) pa_nil)) (pe_fld (pv 0) rfl)) pa_nil)))) pe_non))
      (pss_cons (my_fld (pv 0) (pv 1))
      (pss_cons (my_fld (pv 0) pe_int)
      (pss_one (my_if (pt_cmpR op_notN (pv 1) pe_non (nomark _))
        (pss_cons (ps_expr (my_meth (pe_fld (pv 0) rfl) T.c_Order T.m_Order_began (ok_Order_began T) (hr.mono (by decide)) T.b_Order_began passE (pa_cons (pv 1) pa_nil)))
      (pss_one (ps_expr (pe_bm PySem.F.plainAttrs_list PySem.F.slot_list_append PySem.F.type_list_append my_append (pe_fld (pv 0) rfl) (pa_cons (my_tup (pa_cons (pe_fld (pv 0) rfl) (pa_cons (pv 1) pa_nil))) pa_nil)))))
        pss_nil))))), ?_⟩
    have hrl := fa.rows.len
    obtain ⟨pov, o, time, now, spot, old, soon, past, rows, plays, stops, sleep⟩ := s
    have ok : o.Ok := ok
    have hz : rows.length ≤ 50000 := hz
    have hrl : rs.length = rows.length := hrl
    cases j with
    | true =>
      obtain ⟨n, hn, kn⟩ := hj rfl
      have hn : now = some n := hn
      subst hn
      have kn : Kn f o n := kn
      walk_at "rd"
      refine xIf_T rfl ?_
      walk_at "rd"
      refine st_call (of_Player_long ⟨a, b, f, _, ov, rs, n, R, rfl, w, kn, ?_⟩)
      walk_at "rd"
      refine st_new w fun t H1 w1 => ?_
      walk_at "rd"
      refine sf_Player_old T w1 1 rfl fun H2 w2 => ?_
      obtain ⟨ov', eov, ho2⟩ : ∃ ov' : V, V.ref t = ov' ∧ OldAt H2 ov' (oldJ f ⟨pov, o, time, some n, spot, old, soon, past, rows, plays, stops, sleep⟩ true) := ⟨.ref t, rfl, t, rfl, w2.get 0 rfl⟩
      rw [eov] at w2
      replace w2 : W H H2 (plL A a (.ref b.q) ⟨pov, o, time, some n, spot, oldJ f ⟨pov, o, time, some n, spot, old, soon, past, rows, plays, stops, sleep⟩ true, soon, past, rows, plays, stops, sleep⟩ ov' rs ++ (sL A b f ++ R)) := w2.drop1
      have hr2 : RowsAt H2 rs rows := fa.rows.mono w2.tp
      have w3 := w2.now
      walk_at "rd"
      refine sf_Player_now T w3 0 rfl fun H3 w4 => ?_
      walk_at "rd"
      refine sf_Player_spot T w4 0 rfl fun H4 w5 => ?_
      walk_at "rd"
      cases e with
      | none =>
        refine xIf_F rfl ?_
        exact k H4 (PlW.tr w2 ⟨ov', rs, w5, ho2.mono w5.tp, hr2.mono w5.tp⟩)
      | some x =>
        refine xIf_T rfl ?_
        walk_at "rd"
        refine st_call (of_Order_began ⟨a.o, o, x, _, rfl, (w5.rot 4 6).now, ok, fun H5 w6 => ?_⟩)
        have w7 := (w5.tr w6).rot 6 4
        clear w6
        walk_at "rd"
        refine st_new w7 fun u H6 w8 => ?_
        refine st_app w8 4 rfl (by rw [hrl]; exact szL (by omega)) fun H7 w9 => ?_
        exact k H7 (PlW.tr w2 ⟨ov', rs ++ [V.ref u], w9.drop1, ho2.mono w9.tp, (hr2.mono w9.tp).snoc ⟨u, rfl, w9.get 0 rfl⟩⟩)
    | false =>
      walk_at "rd"
      refine xIf_F rfl ?_
      walk_at "rd"
      refine sf_Player_old T w 0 rfl fun H2 w2 => ?_
      replace w2 : W H H2 (plL A a (.ref b.q) ⟨pov, o, time, now, spot, none, soon, past, rows, plays, stops, sleep⟩ .non rs ++ (sL A b f ++ R)) := w2
      have hr2 : RowsAt H2 rs rows := fa.rows.mono w2.tp
      have w3 := w2.now
      walk_at "rd"
      refine sf_Player_now T w3 0 rfl fun H3 w4 => ?_
      walk_at "rd"
      refine sf_Player_spot T w4 0 rfl fun H4 w5 => ?_
      walk_at "rd"
      cases e with
      | none =>
        refine xIf_F rfl ?_
        exact k H4 (PlW.tr w2 ⟨.non, rs, w5, rfl, hr2.mono w5.tp⟩)
      | some x =>
        refine xIf_T rfl ?_
        walk_at "rd"
        refine st_call (of_Order_began ⟨a.o, o, x, _, rfl, (w5.rot 4 6).now, ok, fun H5 w6 => ?_⟩)
        have w7 := (w5.tr w6).rot 6 4
        clear w6
        walk_at "rd"
        refine st_new w7 fun u H6 w8 => ?_
        refine st_app w8 4 rfl (by rw [hrl]; exact szL (by omega)) fun H7 w9 => ?_
        exact k H7 (PlW.tr w2 ⟨.non, rs ++ [V.ref u], w9.drop1, rfl, (hr2.mono w9.tp).snoc ⟨u, rfl, w9.get 0 rfl⟩⟩)
end
end TR

namespace TR
open PySem L2
section
variable {P : Program} {w : World} {K : PySem.W.Frag} {mg : Str → Option Value} {base : Heap} {A : Ads}
theorem ok_Player_play (T : Txt K mg A) : FnOk P w K mg base (L2.CX P w) 5 A.f_Player_play A.d_Player_play P_Player_play (sp_Player_play A) := by
  refine T.F_Player_play.okX sc_Player_play (fun vs H Q E h => ?_) (fun cdv Ar outer s H vs Q E hr h => ?_)
  · unfold sp_Player_play at h; obtain ⟨a, b, f, s, e, R, rfl, _⟩ := h; rfl
  · unfold sp_Player_play at h; obtain ⟨a, b, f, s, e, R, rfl, ⟨ov, rs, w, fa⟩, ok, hz, k1, k2⟩ := h
    refine ⟨_, (pss_cons (ps_expr (my_meth (pe_fld (pe_fld (pv 0) rfl) rfl) T.c_Queue T.m_Queue_need (ok_Queue_need T) (hr.mono (by decide)) T.b_Queue_need passE (pa_cons (pv 1) pa_nil)))
      (pss_cons (my_if (pt_cmpR op_notN (pe_fld (pv 0) rfl) pe_non (nomark _))
        (pss_one (ps_expr (pe_bm PySem.F.plainAttrs_list PySem.F.slot_list_append PySem.F.type_list_append my_append (pe_fld (pv 0) rfl) (pa_cons (pe_fld (pv 0) rfl) pa_nil))))
        pss_nil)
      (pss_cons (ps_expr (my_meth (pv 0) T.c_Player T.m_Player_begin (ok_Player_begin T) (hr.mono (by decide)) T.b_Player_begin passE (pa_cons (pv 1) (pa_cons pe_bl pa_nil))))
      (pss_one (my_fld (pv 0) pe_bl))))), ?_⟩
    walk_at "rd"
    refine st_call (of_Queue_need ⟨a.o.q, s.o.q, e, _, rfl, (w.rot 5 3).now, fun he => ?_, k2⟩)
    have k1 := k1 he
    unfold playP at k1
    have hzr := hz.r
    have hzp := hz.p
    obtain ⟨pov, o, time, now, spot, old, soon, past, rows, plays, stops, sleep⟩ := s
    have ok : o.Ok := ok
    walk_at "rd"
    cases now with
    | none =>
      refine xIf_F rfl ?_
      walk_at "rd"
      refine st_call (of_Player_begin ⟨a, b, f, _, some e, false, R, rfl, ⟨ov, rs, w, fa⟩, ok, hzr, (fun z => nomatch z), fun H2 pw => ?_⟩)
      obtain ⟨ov2, rs2, w2, fa2⟩ := pw
      have w3 := w2.now
      walk_at "rd"
      exact sf_Player_is_playing T w3 0 rfl fun H3 w4 => k1 H3 (PlW.tr w2 ⟨ov2, rs2, w4, fa2.old.mono w4.tp, fa2.rows.mono w4.tp⟩)
    | some n =>
      refine xIf_T rfl ?_
      walk_at "rd"
      refine st_app w 2 rfl (by rw [List.length_map]; exact szL (by omega)) fun H1 w1 => ?_
      have e1 : past.map V.int ++ [V.int n] = (past ++ [n]).map V.int := by rw [List.map_append]; rfl
      rw [show past.map V.int ++ [oV (some n)] = (past ++ [n]).map V.int from e1] at w1
      walk_at "rd"
      refine st_call (of_Player_begin ⟨a, b, f, pushN ⟨pov, o, time, some n, spot, old, soon, past, rows, plays, stops, sleep⟩, some e, false, R, rfl, ⟨ov, rs, w1.now, fa.old.mono w1.tp, fa.rows.mono w1.tp⟩, ok, hzr, (fun z => nomatch z), fun H2 pw => ?_⟩)
      obtain ⟨ov2, rs2, w2, fa2⟩ := pw
      have w3 := w2.now
      walk_at "rd"
      exact sf_Player_is_playing T w3 0 rfl fun H3 w4 => k1 H3 (PlW.tr (w1.tr w2) ⟨ov2, rs2, w4, fa2.old.mono w4.tp, fa2.rows.mono w4.tp⟩)
theorem ok_Player_resume (T : Txt K mg A) : FnOk P w K mg base (L2.CX P w) 5 A.f_Player_resume A.d_Player_resume P_Player_resume (sp_Player_resume A) := by
  refine T.F_Player_resume.okX sc_Player_resume (fun vs H Q E h => ?_) (fun cdv Ar outer s H vs Q E hr h => ?_)
  · unfold sp_Player_resume at h; obtain ⟨a, b, f, s, R, rfl, _⟩ := h; rfl
  · unfold sp_Player_resume at h; obtain ⟨a, b, f, s, R, rfl, ⟨ov, rs, w, fa⟩, ok, hz, k⟩ := h
    refine ⟨_, (pss_cons (my_if (pt_cmpR op_isN (pe_fld (pv 0) rfl) pe_non (nomark _))
        (pss_cons (ps_set (i := 1) sc_Player_resume.nd rfl (by first | exact Or.inl rfl | exact Or.inr rfl) (my_ifExp (pt_truth (pe_fld (pv 0) rfl) (by intro _; rfl)) (pe_bm PySem.F.plainAttrs_list PySem.F.slot_list_pop PySem.F.type_list_pop my_popAt (pe_fld (pv 0) rfl) (pa_cons pe_int pa_nil)) (my_meth0 (pe_fld (pv 0) rfl) T.c_Order T.m_Order_first (ok_Order_first T) (hr.mono (by decide)) T.b_Order_first passE)))
      (pss_one (my_if (pt_cmpR op_notN (pv 1) pe_non (nomark _))
        (pss_one (ps_expr (my_meth (pv 0) T.c_Player T.m_Player_begin (ok_Player_begin T) (hr.mono (by decide)) T.b_Player_begin passE (pa_cons (pv 1) (pa_cons pe_bl pa_nil)))))
        pss_nil)))
        pss_nil)
      (pss_one (my_fld (pv 0) (pe_cmpR op_notN (pe_fld (pv 0) rfl) pe_non (nomark _))))), ?_⟩
    have hzr := hz.r
    obtain ⟨pov, o, time, now, spot, old, soon, past, rows, plays, stops, sleep⟩ := s
    have ok : o.Ok := ok
    unfold resumeP at k
    cases now with
    | some n =>
      walk_at "rd"
      refine xIf_F rfl ?_
      walk_at "rd"
      exact sf_Player_is_playing T w 0 rfl fun H1 w1 => k H1 a rfl ⟨ov, rs, w1, fa.old.mono w1.tp, fa.rows.mono w1.tp⟩
    | none =>
      walk_at "rd"
      refine xIf_T rfl ?_
      walk_at "rd"
      cases soon with
      | cons x r =>
        refine xIf_T rfl ?_
        walk_at "rd"
        refine st_pop0 w 1 rfl fun H1 w1 => ?_
        walk_at "rd"
        refine xIf_T rfl ?_
        walk_at "rd"
        refine st_call (of_Player_begin ⟨a, b, f, ⟨pov, o, time, none, spot, old, r, past, rows, plays, stops, sleep⟩, some x, false, R, rfl, ⟨ov, rs, w1.now, fa.old.mono w1.tp, fa.rows.mono w1.tp⟩, ok, hzr, (fun z => nomatch z), fun H2 pw => ?_⟩)
        obtain ⟨ov2, rs2, w2, fa2⟩ := pw
        have w3 := w2.now
        walk_at "rd"
        exact sf_Player_is_playing T w3 0 rfl fun H3 w4 => k H3 a rfl (PlW.tr (w1.tr w2) ⟨ov2, rs2, w4, fa2.old.mono w4.tp, fa2.rows.mono w4.tp⟩)
      | nil =>
        refine xIf_F rfl ?_
        walk_at "rd"
        refine st_call (of_Order_first ⟨a.o, o, _, rfl, (w.rot 4 6).now, ok, fun H1 k' w1 => ?_⟩)
        have w2 := (w.tr w1).rot 6 4
        clear w1
        cases hv : firstV o with
        | none =>
          rw [hv] at k
          walk_at "rd"
          refine xIf_F rfl ?_
          walk_at "rd"
          exact sf_Player_is_playing T w2 0 rfl fun H3 w4 => k H3 { a with o := { a.o with k := k' } } rfl ⟨ov, rs, w4, fa.old.mono w4.tp, fa.rows.mono w4.tp⟩
        | some x =>
          rw [hv] at k
          walk_at "rd"
          refine xIf_T rfl ?_
          walk_at "rd"
          refine st_call (of_Player_begin ⟨{ a with o := { a.o with k := k' } }, b, f, ⟨pov, firstS o, time, none, spot, old, [], past, rows, plays, stops, sleep⟩, some x, false, R, rfl, ⟨ov, rs, w2.now, fa.old.mono w2.tp, fa.rows.mono w2.tp⟩, ok.first, hzr, (fun z => nomatch z), fun H2 pw => ?_⟩)
          obtain ⟨ov2, rs2, w3, fa2⟩ := pw
          have w4 := w3.now
          walk_at "rd"
          exact sf_Player_is_playing T w4 0 rfl fun H3 w5 => k H3 { a with o := { a.o with k := k' } } rfl (PlW.tr (w2.tr w3) ⟨ov2, rs2, w5, fa2.old.mono w5.tp, fa2.rows.mono w5.tp⟩)
theorem ok_Player_skip (T : Txt K mg A) : FnOk P w K mg base (L2.CX P w) 7 A.f_Player_skip A.d_Player_skip P_Player_skip (sp_Player_skip A) := by
  refine T.F_Player_skip.okX sc_Player_skip (fun vs H Q E h => ?_) (fun cdv Ar outer s H vs Q E hr h => ?_)
  · unfold sp_Player_skip at h; obtain ⟨a, b, f, s, R, rfl, _⟩ := h; rfl
  · unfold sp_Player_skip at h; obtain ⟨a, b, f, s, R, rfl, ⟨ov, rs, w, fa⟩, ok, hz, k⟩ := h
    refine ⟨_, (pss_cons (ps_set (i := 1) sc_Player_skip.nd rfl (by first | exact Or.inl rfl | exact Or.inr rfl) (my_meth (pv 0) T.c_Player T.m_Player_next_entry (ok_Player_next_entry T) (hr.mono (by decide)) T.b_Player_next_entry passE (pa_cons pe_bl pa_nil)))
      (pss_cons (my_if (pt_cmpR op_notN (pe_fld (pv 0) rfl) pe_non (nomark _))
        (pss_one (ps_expr (pe_bm PySem.F.plainAttrs_list PySem.F.slot_list_append PySem.F.type_list_append my_append (pe_fld (pv 0) rfl) (pa_cons (pe_fld (pv 0) rfl) pa_nil))))
        pss_nil)
      (pss_cons (ps_expr (my_meth (pv 0) T.c_Player T.m_Player_begin (ok_Player_begin T) (hr.mono (by decide)) T.b_Player_begin passE (pa_cons (pv 1) (pa_cons pe_bl pa_nil))))
      (pss_one (my_fld (pv 0) (my_andV (pe_fld (pv 0) rfl) (pe_one (pe_cmpR op_notN (pv 1) pe_non (nomark _))))))))), ?_⟩
    have hzr := hz.r
    have hzp := hz.p
    walk_at "rd"
    refine st_call (of_Player_next_entry ⟨a, .ref b.q, s, ov, rs, true, _, rfl, w, ok, fun H1 k' w1 => ?_⟩)
    unfold skipP at k
    have ok1 := nextS_ok ok true
    obtain ⟨o1, so1, e1⟩ : ∃ o1 so1, nextS s true = { s with o := o1, soon := so1 } := ⟨_, _, nextS_same s true⟩
    rw [e1] at w1 k ok1
    generalize nextV s true = nv at *
    obtain ⟨pov, o, time, now, spot, old, soon, past, rows, plays, stops, sleep⟩ := s
    have ok1 : o1.Ok := ok1
    have hzp : past.length ≤ 50000 := hzp
    walk_at "rd"
    rcases now with _ | n
    case' none =>
      refine xIf_F rfl ?_
      obtain ⟨s2, es2, H2, eH, w2⟩ : ∃ s2, s2 = pushN ⟨pov, o1, time, none, spot, old, so1, past, rows, plays, stops, sleep⟩ ∧ ∃ H2, H2 = H1 ∧ W H H2 (plL A { a with o := { a.o with k := k' } } (.ref b.q) s2 ov rs ++ (sL A b f ++ R)) := ⟨_, rfl, H1, rfl, w1⟩
      rw [← eH]
      have hs2 : s2.o = o1 ∧ s2.rows = rows ∧ s2.old = old ∧ s2.plays = plays := by rw [es2]; exact ⟨rfl, rfl, rfl, rfl⟩
    case' some =>
      refine xIf_T rfl ?_
      walk_at "rd"
      refine st_app w1 2 rfl (by show (past.map V.int).length < sizeLine; rw [List.length_map]; exact szL (by omega)) fun H2 w2' => ?_
      rw [show past.map V.int ++ [oV (some n)] = (past ++ [n]).map V.int from by rw [List.map_append]; rfl] at w2'
      obtain ⟨s2, es2, w2⟩ : ∃ s2, s2 = pushN ⟨pov, o1, time, some n, spot, old, so1, past, rows, plays, stops, sleep⟩ ∧ W H H2 (plL A { a with o := { a.o with k := k' } } (.ref b.q) s2 ov rs ++ (sL A b f ++ R)) := ⟨_, rfl, w2'⟩
      clear w2'
      have hs2 : s2.o = o1 ∧ s2.rows = rows ∧ s2.old = old ∧ s2.plays = plays := by rw [es2]; exact ⟨rfl, rfl, rfl, rfl⟩
    all_goals
      replace k : ∀ H' a', a'.p = a.p → PlW A H H' a' (.ref b.q) { beginP f s2 nv false with plays := plays && nv.isSome } (sL A b f ++ R) → Q .non H' := by rw [es2]; exact k
      walk_at "rd"
      refine st_call (of_Player_begin ⟨{ a with o := { a.o with k := k' } }, b, f, s2, nv, false, R, rfl, ⟨ov, rs, w2.now, by rw [hs2.2.2.1]; exact fa.old.mono w2.tp, by rw [hs2.2.1]; exact fa.rows.mono w2.tp⟩, by rw [hs2.1]; exact ok1, by rw [hs2.2.1]; exact hzr, (fun z => nomatch z), fun H3 pw => ?_⟩)
      obtain ⟨ov2, rs2, w3, fa2⟩ := pw
      have w4 := w3.now
      have ep : (beginP f s2 nv false).plays = plays := by rw [beginP_plays]; exact hs2.2.2.2
      generalize beginP f s2 nv false = s3 at *
      walk_at "rd"
      refine xIf_2 (fun h => ?_) (fun h => ?_)
      · have h : s3.plays = true := h
        cases nv with
        | none =>
          walk_at "rd"
          refine sf_Player_is_playing T w4 0 rfl fun H4 w5 => k H4 { a with o := { a.o with k := k' } } rfl ?_
          rw [Option.isSome_none, Bool.and_false]
          exact PlW.tr (w2.tr w3) ⟨ov2, rs2, w5, fa2.old.mono w5.tp, fa2.rows.mono w5.tp⟩
        | some x =>
          walk_at "rd"
          refine sf_Player_is_playing T w4 0 rfl fun H4 w5 => k H4 { a with o := { a.o with k := k' } } rfl ?_
          rw [Option.isSome_some, Bool.and_true, ← ep, h]
          exact PlW.tr (w2.tr w3) ⟨ov2, rs2, w5, fa2.old.mono w5.tp, fa2.rows.mono w5.tp⟩
      · have h : s3.plays = false := h
        walk_at "rd"
        refine sf_Player_is_playing T w4 0 rfl fun H4 w5 => k H4 { a with o := { a.o with k := k' } } rfl ?_
        rw [← ep, h, Bool.false_and]
        exact PlW.tr (w2.tr w3) ⟨ov2, rs2, w5, fa2.old.mono w5.tp, fa2.rows.mono w5.tp⟩
end
end TR

namespace TR
open PySem L2
section
variable {P : Program} {w : World} {K : PySem.W.Frag} {mg : Str → Option Value} {base : Heap} {A : Ads}
theorem ok_Player_back (T : Txt K mg A) : FnOk P w K mg base (L2.CX P w) 5 A.f_Player_back A.d_Player_back P_Player_back (sp_Player_back A) := by
  refine T.F_Player_back.okX sc_Player_back (fun vs H Q E h => ?_) (fun cdv Ar outer s H vs Q E hr h => ?_)
  · unfold sp_Player_back at h; obtain ⟨a, b, f, s, R, rfl, _⟩ := h; rfl
  · unfold sp_Player_back at h; obtain ⟨a, b, f, s, R, rfl, ⟨ov, rs, w, fa⟩, ok, hz, k⟩ := h
    refine ⟨_, (pss_cons (my_while ownE (PW.pt (my_and (pt_truth (pe_fld (pv 0) rfl) (by intro _; rfl)) (pw_and1 (pt_cmpR op_notIn_seq (pe_ix ix_list (pe_fld (pv 0) rfl) (pe_un un_neg pe_int) (fun _ _ => rfl)) (my_meth0 (pv 0) T.c_Player T.m_Player_entries (ok_Player_entries T) (hr.mono (by decide)) T.b_Player_entries passE) (by rfl)))))
        (pss_one (ps_expr (pe_bm0 PySem.F.plainAttrs_list PySem.F.slot_list_pop PySem.F.type_list_pop my_pop (pe_fld (pv 0) rfl)))))
      (pss_cons (my_if (PW.pt (my_or (pt_cmpR op_gt (pe_fld (pv 0) rfl) (my_globI T.gi_EARLY (by rfl)) (nomark _)) (pw_or1 (pt_not (pt_truth (pe_fld (pv 0) rfl) (by intro _; rfl))))))
        (pss_cons (my_if (pt_cmpR op_notN (pe_fld (pv 0) rfl) pe_non (nomark _))
        (pss_one (ps_expr (my_meth (pv 0) T.c_Player T.m_Player_begin (ok_Player_begin T) (hr.mono (by decide)) T.b_Player_begin passE (pa_cons (pe_fld (pv 0) rfl) (pa_cons pe_bl pa_nil)))))
        pss_nil)
      (pss_one ps_retN))
        pss_nil)
      (pss_cons (my_if (PW.pt (my_and (pt_cmpR op_notN (pe_fld (pv 0) rfl) pe_non (nomark _)) (pw_and1 (pt_cmpR op_in_seq (pe_fld (pv 0) rfl) (my_meth0 (pv 0) T.c_Player T.m_Player_entries (ok_Player_entries T) (hr.mono (by decide)) T.b_Player_entries passE) (by rfl)))))
        (pss_one (ps_expr (pe_bm PySem.F.plainAttrs_list PySem.F.slot_list_insert PySem.F.type_list_insert my_insert (pe_fld (pv 0) rfl) (pa_cons pe_int (pa_cons (pe_fld (pv 0) rfl) pa_nil)))))
        pss_nil)
      (pss_one (ps_expr (my_meth (pv 0) T.c_Player T.m_Player_begin (ok_Player_begin T) (hr.mono (by decide)) T.b_Player_begin passE (pa_cons (pe_bm0 PySem.F.plainAttrs_list PySem.F.slot_list_pop PySem.F.type_list_pop my_pop (pe_fld (pv 0) rfl)) (pa_cons pe_bl pa_nil)))))))), ?_⟩
    have hzr := hz.r
    have hzs := hz.s
    obtain ⟨pov, o, time, now, spot, old, soon, past, rows, plays, stops, sleep⟩ := s
    have ok : o.Ok := ok
    have hzs : soon.length ≤ 50000 := hzs
    refine st_while2 (fun m σ H' => σ = [some (.ref a.p)] ∧ ∃ p', m = p'.length ∧ dropT o.q.turn p' = dropT o.q.turn past ∧ W H H' (plL A a (.ref b.q) ⟨pov, o, time, now, spot, old, soon, p', rows, plays, stops, sleep⟩ ov rs ++ (sL A b f ++ R))) past.length ⟨rfl, past, rfl, rfl, w⟩ ?_
    rintro m σ H1 ⟨rfl, p', rfl, ep, w1⟩
    rcases snoc_cases p' with rfl | ⟨q, y, rfl⟩
    case' inl =>
      walk_at "rd"
      refine xIf_F rfl ?_
      refine xWb_F rfl ?_
      obtain ⟨P, eP, w2⟩ : ∃ P, P = dropT o.q.turn past ∧ W H H1 (plL A a (.ref b.q) ⟨pov, o, time, now, spot, old, soon, P, rows, plays, stops, sleep⟩ ov rs ++ (sL A b f ++ R)) := ⟨[], ep, w1⟩
      obtain ⟨H2, eH2⟩ : ∃ H2, H2 = H1 := ⟨_, rfl⟩
      rw [← eH2] at w2 ⊢
      clear w1
    case' inr =>
      walk_at "rd"
      refine xIf_T (by cases q <;> rfl) ?_
      walk_at "rd"
      refine ⟨atI_last q y, ?_⟩
      walk_at "rd"
      refine st_call (of_Player_entries ⟨a, .ref b.q, _, ov, rs, _, rfl, w1.now, fun H2 l w2 => ?_⟩)
      have w3 := w1.tr w2
      clear w2 w1
      walk_at "rd"
      by_cases hy : y ∈ o.q.turn
      case' pos =>
        refine xWb_F (by show (!inV (V.int y) (o.q.turn.map V.int)) = false; rw [inV_ints, decide_eq_true hy]; rfl) ?_
        obtain ⟨P, eP, w2⟩ : ∃ P, P = dropT o.q.turn past ∧ W H H2 (plL A a (.ref b.q) ⟨pov, o, time, now, spot, old, soon, P, rows, plays, stops, sleep⟩ ov rs ++ (sL A b f ++ R)) := ⟨q ++ [y], by rw [← ep, dropT_in hy], w3.drop1⟩
        clear w3
      case' neg =>
        refine xWb_T (by show (!inV (V.int y) (o.q.turn.map V.int)) = true; rw [inV_ints, decide_eq_false hy]; rfl) ?_
        walk_at "rd"
        refine st_pop w3 3 rfl (y := .int y) (by simp) fun H3 w4 => ?_
        refine ⟨q.length, by simp, rfl, q, rfl, by rw [← ep, dropT_out hy], ?_⟩
        rw [show ((q ++ [y]).map V.int).dropLast = q.map V.int from by rw [List.map_append]; simp] at w4
        exact w4.drop1
    all_goals
      unfold backP at k
      simp only at k
      rw [← eP] at k
      have hfa : ∀ H3, W H H3 (plL A a (.ref b.q) ⟨pov, o, time, now, spot, old, soon, P, rows, plays, stops, sleep⟩ ov rs ++ (sL A b f ++ R)) → PlF H3 ⟨pov, o, time, now, spot, old, soon, P, rows, plays, stops, sleep⟩ ov rs := fun H3 v => ⟨fa.old.mono v.tp, fa.rows.mono v.tp⟩
      walk_at "rd"
      by_cases hs : 3 < spot ∨ P = []
      case' pos =>
        have k : ∀ H', PlW A H H' a (.ref b.q) (againP f ⟨pov, o, time, now, spot, old, soon, P, rows, plays, stops, sleep⟩) (sL A b f ++ R) → Q .non H' := by
          cases hP : P.getLast? with
          | none => rw [hP] at k; exact k
          | some y =>
            rw [hP] at k
            have hs : 3 < spot := hs.resolve_right (fun z => by rw [z] at hP; cases hP)
            simp only [if_pos hs] at k
            exact k
        by_cases h3 : 3 < spot
        case' pos =>
          refine xIf_T (decide_eq_true h3) ?_
          refine xIf_T rfl ?_
        case' neg =>
          have hP := hs.resolve_left h3
          subst hP
          refine xIf_F (decide_eq_false h3) ?_
          walk_at "rd"
          refine xIf_T rfl ?_
        all_goals
          walk_at "rd"
          cases now with
          | none =>
            refine xIf_F rfl ?_
            exact k _ ⟨ov, rs, w2, hfa _ w2⟩
          | some n =>
            refine xIf_T rfl ?_
            walk_at "rd"
            refine st_call (of_Player_begin ⟨a, b, f, _, some n, false, R, rfl, ⟨ov, rs, w2.now, hfa _ w2⟩, ok, hzr, (fun z => nomatch z), fun H3 pw => ?_⟩)
            exact k H3 (PlW.tr w2 pw)
      case' neg =>
        have h3 : ¬ 3 < spot := fun z => hs (.inl z)
        have hP : P ≠ [] := fun z => hs (.inr z)
        obtain ⟨q2, y2, eq2⟩ := (snoc_cases P).resolve_left hP
        subst eq2
        rw [List.getLast?_concat] at k
        simp only [if_neg h3, List.dropLast_concat] at k
        refine xIf_F (decide_eq_false h3) ?_
        walk_at "rd"
        refine xIf_F (by cases q2 <;> rfl) ?_
        have fl := flat_oV now
        walk_at "rd"
        cases now with
        | none =>
          refine xIf_F rfl ?_
          refine xIf_F rfl ?_
          walk_at "rd"
          refine st_pop w2 2 rfl (y := .int y2) (by simp) fun H3 w4 => ?_
          rw [show ((q2 ++ [y2]).map V.int).dropLast = q2.map V.int from by rw [List.map_append]; simp] at w4
          walk_at "rd"
          refine st_call (of_Player_begin ⟨a, b, f, ⟨pov, o, time, none, spot, old, soon, q2, rows, plays, stops, sleep⟩, some y2, false, R, rfl, ⟨ov, rs, w4.now, fa.old.mono w4.tp, fa.rows.mono w4.tp⟩, ok, hzr, (fun z => nomatch z), fun H4 pw => ?_⟩)
          exact k H4 (PlW.tr w4 pw)
        | some n =>
          refine xIf_T rfl ?_
          walk_at "rd"
          refine st_call (of_Player_entries ⟨a, .ref b.q, _, ov, rs, _, rfl, w2.now, fun H3 l w3 => ?_⟩)
          have w4 := w2.tr w3
          clear w3
          have k : ∀ H', PlW A H H' a (.ref b.q) (beginP f ⟨pov, o, time, some n, spot, old, if n ∈ o.q.turn then n :: soon else soon, q2, rows, plays, stops, sleep⟩ (some y2) false) (sL A b f ++ R) → Q .non H' := k
          walk_at "rd"
          by_cases hn : n ∈ o.q.turn
          case' pos =>
            rw [if_pos hn] at k
            refine xIf_T (by show inV (V.int n) (o.q.turn.map V.int) = true; rw [inV_ints]; exact decide_eq_true hn) ?_
            walk_at "rd"
            refine st_ins w4 2 rfl (by show (soon.map V.int).length < sizeLine; rw [List.length_map]; exact szL (by omega)) (by decide) (by decide) fun H5 w5 => ?_
            replace w5 : W H H5 (plL A a (.ref b.q) ⟨pov, o, time, some n, spot, old, n :: soon, q2 ++ [y2], rows, plays, stops, sleep⟩ ov rs ++ (sL A b f ++ R)) := w5.drop1
          case' neg =>
            rw [if_neg hn] at k
            refine xIf_F (by show inV (V.int n) (o.q.turn.map V.int) = false; rw [inV_ints]; exact decide_eq_false hn) ?_
            obtain ⟨H5, eH5⟩ : ∃ H5, H5 = H3 := ⟨_, rfl⟩
            rw [← eH5] at w4 ⊢
            have w5 : W H H5 (plL A a (.ref b.q) ⟨pov, o, time, some n, spot, old, soon, q2 ++ [y2], rows, plays, stops, sleep⟩ ov rs ++ (sL A b f ++ R)) := w4.drop1
          all_goals
            walk_at "rd"
            refine st_pop w5 2 rfl (y := .int y2) (by simp) fun H6 w6 => ?_
            rw [show ((q2 ++ [y2]).map V.int).dropLast = q2.map V.int from by rw [List.map_append]; simp] at w6
            walk_at "rd"
            refine st_call (of_Player_begin ⟨a, b, f, ⟨pov, o, time, some n, spot, old, _, q2, rows, plays, stops, sleep⟩, some y2, false, R, rfl, ⟨ov, rs, w6.now, fa.old.mono w6.tp, fa.rows.mono w6.tp⟩, ok, hzr, (fun z => nomatch z), fun H7 pw => ?_⟩)
            exact k H7 (PlW.tr w6 pw)
theorem ok_Player_seek (T : Txt K mg A) : FnOk P w K mg base (L2.CX P w) 4 A.f_Player_seek A.d_Player_seek P_Player_seek (sp_Player_seek A) := by
  refine T.F_Player_seek.okX sc_Player_seek (fun vs H Q E h => ?_) (fun cdv Ar outer s H vs Q E hr h => ?_)
  · unfold sp_Player_seek at h; obtain ⟨a, b, f, s, ov, rs, x, R, rfl, _⟩ := h; rfl
  · unfold sp_Player_seek at h; obtain ⟨a, b, f, s, ov, rs, x, R, rfl, w, kn, k1, k2, k3⟩ := h
    refine ⟨_, (pss_cons (my_if (pt_cmpR op_isN (pe_fld (pv 0) rfl) pe_non (nomark _))
        (pss_one (ps_raise rfl takesE (pmk_own PySem.F.excBase_ValueError T.x_BadEntry T.g_BadEntry T.k_BadEntry (raises_own T.r_BadEntry T.t_BadEntry) (by rfl))))
        pss_nil)
      (pss_cons (my_if (pt_not (my_chainT op_le op_lt pe_int (pv 1) (my_meth (pv 0) T.c_Player T.m_Player_long (ok_Player_long T) (hr.mono (by decide)) T.b_Player_long passE (pa_cons (pe_fld (pv 0) rfl) pa_nil))))
        (pss_one (ps_raise rfl takesE (pmk_own PySem.F.excBase_ValueError T.x_BadNumber T.g_BadNumber T.k_BadNumber (raises_own T.r_BadNumber T.t_BadNumber) (by rfl))))
        pss_nil)
      (pss_cons (my_fld (pv 0) (pv 1))
      (pss_one (my_fld (pv 0) pe_non))))), ?_⟩
    obtain ⟨pov, o, time, now, spot, old, soon, past, rows, plays, stops, sleep⟩ := s
    cases now with
    | none =>
      walk_at "rd"
      exact xIf_T rfl (k2 rfl)
    | some n =>
      have kn := kn n rfl
      have k1 := k1 n rfl
      have k3 := k3 n rfl
      walk_at "rd"
      refine xIf_F rfl ?_
      walk_at "rd"
      by_cases h0 : 0 ≤ x
      · refine xIf_T (decide_eq_true h0) ?_
        walk_at "rd"
        refine st_call (of_Player_long ⟨a, b, f, _, ov, rs, n, R, rfl, w, kn, ?_⟩)
        walk_at "rd"
        by_cases h1 : x < longO f o n
        · refine xIf_F (by rw [decide_eq_true h1]; rfl) ?_
          walk_at "rd"
          refine sf_Player_spot T w 0 rfl fun H1 w1 => ?_
          walk_at "rd"
          exact sf_Player_old T w1 0 rfl fun H2 w2 => k1 ⟨h0, h1⟩ H2 w2
        · exact xIf_T (by rw [decide_eq_false h1]; rfl) (k3 fun z => h1 z.2)
      · refine xIf_F (decide_eq_false h0) ?_
        walk_at "rd"
        exact xIf_T rfl (k3 fun z => h0 z.1)
end
end TR

namespace TR
open PySem L2
theorem Kn.q {f : Sf} {o o' : Or} {e : Int} (h : Kn f o e) (hq : o'.q = o.q) : Kn f o' e := by
  have hl := longO_q (f := f) hq e
  exact ⟨has_q hq h.has, by rw [hl, hq]; exact h.lk, by rw [hl]; exact h.lo, by rw [hl]; exact h.hi⟩
theorem turnP_far {f : Sf} {s : Pl} (ok : s.OkB f 1) {n : Int} (hn : s.now = some n) (h : ¬ longO f s.o n - mn2 s.ov (longO f s.o n / 2) ≤ s.spot) : turnP f s = if longO f s.o n ≤ s.spot then endP f s n else s := by
  have kn := ok.tn.kn (ok.nw n hn).1
  have hm : 0 ≤ mn2 s.ov (longO f s.o n / 2) := mn2_ge ok.ov.1 (by have := kn.lo; omega)
  rw [if_neg (by omega)]
  unfold turnP
  rw [hn]
  simp only
  split
  · rename_i x hx
    have hj := (mn2_le (mn2 s.ov (longO f s.o n / 2)) (longO f s.o x / 2)).1
    exact if_neg (by unfold joinL; omega)
  · exact if_neg (by omega)
theorem turnP_none {f : Sf} {s : Pl} {n : Int} (hn : s.now = some n) (h : foundP s = none) : turnP f s = if longO f s.o n ≤ s.spot then endP f s n else s := by
  unfold turnP
  rw [hn, h]
theorem turnP_some {f : Sf} {s : Pl} {n x : Int} (hn : s.now = some n) (h : foundP s = some x) : turnP f s = if longO f s.o n - joinL f s n x ≤ s.spot then goOn f s n x else s := by
  unfold turnP
  rw [hn, h]
@[irreducible] def sp_Player_turn_over (A : Ads) : Sp := fun vs H Q _ => ∃ (a : PA) (b : SA) (f : Sf) (s : Pl) (n : Int) (R : List Ent), vs = [.ref a.p] ∧ PlW A H H a (.ref b.q) s (sL A b f ++ R) ∧ s.OkB f 1 ∧ s.now = some n ∧ Sz s 50000 ∧
  ∀ H' a', a'.p = a.p → PlW A H H' a' (.ref b.q) (turnP f s) (sL A b f ++ R) → Q .non H'
theorem of_Player_turn_over {A : Ads} {vs : List V} {H : Hp} {Q : VK} {E : XK} (h :  ∃ (a : PA) (b : SA) (f : Sf) (s : Pl) (n : Int) (R : List Ent), vs = [.ref a.p] ∧ PlW A H H a (.ref b.q) s (sL A b f ++ R) ∧ s.OkB f 1 ∧ s.now = some n ∧ Sz s 50000 ∧
  ∀ H' a', a'.p = a.p → PlW A H H' a' (.ref b.q) (turnP f s) (sL A b f ++ R) → Q .non H') : sp_Player_turn_over A vs H Q E := by unfold sp_Player_turn_over; exact h
@[irreducible] def sp_Player_step (A : Ads) : Sp := fun vs H Q _ => ∃ (a : PA) (b : SA) (f : Sf) (s : Pl) (R : List Ent), vs = [.ref a.p] ∧ PlW A H H a (.ref b.q) s (sL A b f ++ R) ∧ s.Ok f ∧ s.plays = true ∧ Sz s 50000 ∧
  ∀ H' a', a'.p = a.p → PlW A H H' a' (.ref b.q) (stepP f s) (sL A b f ++ R) → Q .non H'
theorem of_Player_step {A : Ads} {vs : List V} {H : Hp} {Q : VK} {E : XK} (h :  ∃ (a : PA) (b : SA) (f : Sf) (s : Pl) (R : List Ent), vs = [.ref a.p] ∧ PlW A H H a (.ref b.q) s (sL A b f ++ R) ∧ s.Ok f ∧ s.plays = true ∧ Sz s 50000 ∧
  ∀ H' a', a'.p = a.p → PlW A H H' a' (.ref b.q) (stepP f s) (sL A b f ++ R) → Q .non H') : sp_Player_step A vs H Q E := by unfold sp_Player_step; exact h
section
variable {P : Program} {w : World} {K : PySem.W.Frag} {mg : Str → Option Value} {base : Heap} {A : Ads}
theorem ok_Player_turn_over (T : Txt K mg A) : FnOk P w K mg base (L2.CX P w) 8 A.f_Player_turn_over A.d_Player_turn_over P_Player_turn_over (sp_Player_turn_over A) := by
  refine T.F_Player_turn_over.okX sc_Player_turn_over (fun vs H Q E h => ?_) (fun cdv Ar outer s H vs Q E hr h => ?_)
  · unfold sp_Player_turn_over at h; obtain ⟨a, b, f, s, n, R, rfl, _⟩ := h; rfl
  · unfold sp_Player_turn_over at h; obtain ⟨a, b, f, s, n, R, rfl, ⟨ov, rs, w, fa⟩, ok, hn, hz, k⟩ := h
    refine ⟨_, (pss_cons (ps_set (i := 1) sc_Player_turn_over.nd rfl (by first | exact Or.inl rfl | exact Or.inr rfl) (my_meth (pv 0) T.c_Player T.m_Player_long (ok_Player_long T) (hr.mono (by decide)) T.b_Player_long passE (pa_cons (pe_fld (pv 0) rfl) pa_nil)))
      (pss_cons (ps_set (i := 2) sc_Player_turn_over.nd rfl (by first | exact Or.inl rfl | exact Or.inr rfl) pe_non)
      (pss_cons (my_if (PW.pt (my_and (pt_not (pt_val (pe_fld (pv 0) rfl))) (pw_and1 (pt_cmpR op_ge (pe_fld (pv 0) rfl) (pe_op op_sub (pv 1) (pe_callB (call_min2 rfl) (by rfl) T.z_min (by decide +kernel) (pa_cons (pe_fld (pv 0) rfl) (pa_cons (pe_op op_fdiv (pv 1) pe_int) pa_nil)))) (nomark _)))))
        (pss_one (ps_set (i := 2) sc_Player_turn_over.nd rfl (by first | exact Or.inl rfl | exact Or.inr rfl) (my_meth (my_meth0 (pv 0) T.c_Player T.m_Player_twin (ok_Player_twin T) (hr.mono (by decide)) T.b_Player_twin passE) T.c_Player T.m_Player_next_entry (ok_Player_next_entry T) (hr.mono (by decide)) T.b_Player_next_entry passE (pa_cons pe_bl pa_nil))))
        pss_nil)
      (pss_one (my_if (PW.pt (my_and (pt_cmpR op_notN (pv 2) pe_non (nomark _)) (pw_and1 (pt_cmpR op_ge (pe_fld (pv 0) rfl) (pe_op op_sub (pv 1) (my_meth (pv 0) T.c_Player T.m_Player_join_long (ok_Player_join_long T) (hr.mono (by decide)) T.b_Player_join_long passE (pa_cons (pv 2) pa_nil))) (nomark _)))))
        (pss_cons (ps_expr (my_meth (pv 0) T.c_Player T.m_Player_next_entry (ok_Player_next_entry T) (hr.mono (by decide)) T.b_Player_next_entry passE (pa_cons pe_bl pa_nil)))
      (pss_cons (ps_expr (pe_bm PySem.F.plainAttrs_list PySem.F.slot_list_append PySem.F.type_list_append my_append (pe_fld (pv 0) rfl) (pa_cons (pe_fld (pv 0) rfl) pa_nil)))
      (pss_one (ps_expr (my_meth (pv 0) T.c_Player T.m_Player_begin (ok_Player_begin T) (hr.mono (by decide)) T.b_Player_begin passE (pa_cons (pv 2) (pa_cons (pe_cmpR op_lt (pe_fld (pv 0) rfl) (pv 1) (nomark _)) pa_nil)))))))
        (pss_one (my_if (pt_cmpR op_ge (pe_fld (pv 0) rfl) (pv 1) (nomark _))
        (pss_cons (ps_expr (pe_bm PySem.F.plainAttrs_list PySem.F.slot_list_append PySem.F.type_list_append my_append (pe_fld (pv 0) rfl) (pa_cons (pe_fld (pv 0) rfl) pa_nil)))
      (pss_cons (ps_expr (my_meth (pv 0) T.c_Player T.m_Player_begin (ok_Player_begin T) (hr.mono (by decide)) T.b_Player_begin passE (pa_cons pe_non (pa_cons pe_bl pa_nil))))
      (pss_cons (my_fld (pv 0) pe_bl)
      (pss_one (my_fld (pv 0) pe_bl)))))
        pss_nil))))))), ?_⟩
    have kn := ok.tn.kn (ok.nw n hn).1
    have hzr := hz.r
    have hzp := hz.p
    have eN := turnP_none (f := f) hn
    have eS := fun x => turnP_some (f := f) (x := x) hn
    have eF := turnP_far ok hn
    have hov := ok.ov
    have hfo : s.stops = true → foundP s = none := fun z => by unfold foundP; rw [if_pos z]
    have hfn : s.stops = false → foundP s = nextV s false := fun z => by unfold foundP; rw [if_neg (by rw [z]; exact Bool.false_ne_true)]
    have hnm : ∀ x, nextV s false = some x → Kn f s.o x := fun x hx => ok.tn.kn (ok.o.has (nextV_mem ok.o ok.sn hx))
    have okn := nextS_ok ok.o false
    have hqn := nextS_o s false
    obtain ⟨o1, so1, e1⟩ : ∃ o1 so1, nextS s false = { s with o := o1, soon := so1 } := ⟨_, _, nextS_same s false⟩
    rw [e1] at okn hqn
    have hok := ok.o
    clear ok hz
    obtain ⟨pov, o, time, now, spot, old, soon, past, rows, plays, stops, sleep⟩ := s
    have hn : now = some n := hn
    subst hn
    have kn : Kn f o n := kn
    have hok : o.Ok := hok
    have hov : 0 ≤ pov ∧ pov ≤ 9 := hov
    have hzp : past.length ≤ 50000 := hzp
    have okn : o1.Ok := okn
    have hqn : o1.q = o.q := hqn
    have hlo := kn.lo
    have hhi := kn.hi
    have kn1 : Kn f o1 n := kn.q hqn
    walk_at "rd"
    refine st_call (of_Player_long ⟨a, b, f, _, ov, rs, n, R, rfl, w, kn, ?_⟩)
    walk_at "rd"
    cases stops
    case' true =>
      refine xIf_F rfl ?_
      refine xIf_F rfl ?_
      have eT := eN (hfo rfl)
      obtain ⟨H2, eH2⟩ : ∃ H2, H2 = H := ⟨_, rfl⟩
      have w2 := w
      conv at w2 => arg 2; rw [← eH2]
      rw [← eH2]
    case' false =>
      refine xIf_T rfl ?_
      walk_at "rd"
      by_cases hg : longO f o n - mn2 pov (longO f o n / 2) ≤ spot
      case' neg =>
        refine xIf_F (decide_eq_false hg) ?_
        have eT := eF hg
        obtain ⟨H2, eH2⟩ : ∃ H2, H2 = H := ⟨_, rfl⟩
        have w2 := w
        conv at w2 => arg 2; rw [← eH2]
        rw [← eH2]
      case' pos =>
        refine xIf_T (decide_eq_true hg) ?_
        walk_at "rd"
        refine st_call (of_Player_twin ⟨a, .ref b.q, _, ov, rs, _, rfl, w, hok, hov, fun H1 a1 w1 => ?_⟩)
        walk_at "rd"
        refine st_call (of_Player_next_entry ⟨a1, .ref b.q, _, ov, rs, false, _, rfl, w1.now, hok, fun H2 k' w1b => ?_⟩)
        have w2 : W H H2 (plL A a (.ref b.q) ⟨pov, o, time, some n, spot, old, soon, past, rows, plays, false, sleep⟩ ov rs ++ (sL A b f ++ R)) := (w.tr (w1.tr w1b)).dropL
        clear w1 w1b
        cases hv : nextV ⟨pov, o, time, some n, spot, old, soon, past, rows, plays, false, sleep⟩ false
        case' none =>
          have eT := eN ((hfn rfl).trans hv)
        case some x =>
          have eT := eS x ((hfn rfl).trans hv)
          have kx : Kn f o x := hnm x hv
          walk_at "rd"
          refine xIf_T rfl ?_
          walk_at "rd"
          refine st_call (of_Player_join_long ⟨a, b, f, _, ov, rs, n, x, R, rfl, w2.now, rfl, kn, kx, ?_⟩)
          walk_at "rd"
          by_cases hj : longO f o n - joinL f ⟨pov, o, time, some n, spot, old, soon, past, rows, plays, false, sleep⟩ n x ≤ spot
          · rw [eT, if_pos hj] at k
            refine xIf_T (decide_eq_true hj) ?_
            walk_at "rd"
            refine st_call (of_Player_next_entry ⟨a, .ref b.q, _, ov, rs, false, _, rfl, w2.now, hok, fun H3 k2 w3 => ?_⟩)
            rw [e1] at w3
            have w4 : W H H3 (plL A { a with o := { a.o with k := k2 } } (.ref b.q) ⟨pov, o1, time, some n, spot, old, so1, past, rows, plays, false, sleep⟩ ov rs ++ (sL A b f ++ R)) := w2.tr w3
            clear w3
            walk_at "rd"
            refine st_app w4 2 rfl (by show (past.map V.int).length < sizeLine; rw [List.length_map]; exact szL (by omega)) fun H4 w5 => ?_
            rw [show past.map V.int ++ [oV (some n)] = (past ++ [n]).map V.int from by rw [List.map_append]; rfl] at w5
            walk_at "rd"
            refine st_call (of_Player_begin ⟨{ a with o := { a.o with k := k2 } }, b, f, ⟨pov, o1, time, some n, spot, old, so1, past ++ [n], rows, plays, false, sleep⟩, some x, decide (spot < longO f o n), R, rfl, ⟨ov, rs, w5.now, fa.old.mono w5.tp, fa.rows.mono w5.tp⟩, okn, hzr, (fun _ => ⟨n, rfl, kn1⟩), fun H5 pw => ?_⟩)
            refine k H5 { a with o := { a.o with k := k2 } } rfl ?_
            unfold goOn
            rw [e1]
            exact PlW.tr w5 pw
          · rw [eT, if_neg hj] at k
            refine xIf_F (decide_eq_false hj) ?_
            walk_at "rd"
            have := joinL_nn (f := f) (s := ⟨pov, o, time, some n, spot, old, soon, past, rows, plays, false, sleep⟩) (n := n) (x := x) hov.1 kn.lo kx.lo
            refine xIf_F (decide_eq_false (by show ¬ longO f o n ≤ spot; omega)) ?_
            exact k H2 a rfl ⟨ov, rs, w2, fa.old.mono w2.tp, fa.rows.mono w2.tp⟩
    all_goals
      rw [eT] at k
      walk_at "rd"
      refine xIf_F rfl ?_
      refine xIf_F rfl ?_
      walk_at "rd"
      by_cases hl : longO f o n ≤ spot
      · rw [if_pos hl] at k
        refine xIf_T (decide_eq_true hl) ?_
        walk_at "rd"
        refine st_app w2 2 rfl (by show (past.map V.int).length < sizeLine; rw [List.length_map]; exact szL (by omega)) fun H4 w5 => ?_
        rw [show past.map V.int ++ [oV (some n)] = (past ++ [n]).map V.int from by rw [List.map_append]; rfl] at w5
        walk_at "rd"
        refine st_call (of_Player_begin ⟨a, b, f, ⟨pov, o, time, some n, spot, old, soon, past ++ [n], rows, plays, _, sleep⟩, none, false, R, rfl, ⟨ov, rs, w5.now, fa.old.mono w5.tp, fa.rows.mono w5.tp⟩, hok, hzr, (fun z => nomatch z), fun H5 pw => ?_⟩)
        obtain ⟨ov2, rs2, w6, fa2⟩ := pw
        have w7 := w6.now
        walk_at "rd"
        refine sf_Player_is_playing T w7 0 rfl fun H6 w8 => ?_
        walk_at "rd"
        refine sf_Player_stops T w8 0 rfl fun H7 w9 => ?_
        exact k H7 a rfl (PlW.tr (w5.tr w6) ⟨ov2, rs2, w9, fa2.old.mono w9.tp, fa2.rows.mono w9.tp⟩)
      · rw [if_neg hl] at k
        refine xIf_F (decide_eq_false hl) ?_
        exact k _ a rfl ⟨ov, rs, w2, fa.old.mono w2.tp, fa.rows.mono w2.tp⟩
theorem ok_Player_step (T : Txt K mg A) : FnOk P w K mg base (L2.CX P w) 9 A.f_Player_step A.d_Player_step P_Player_step (sp_Player_step A) := by
  refine T.F_Player_step.okX sc_Player_step (fun vs H Q E h => ?_) (fun cdv Ar outer s H vs Q E hr h => ?_)
  · unfold sp_Player_step at h; obtain ⟨a, b, f, s, R, rfl, _⟩ := h; rfl
  · unfold sp_Player_step at h; obtain ⟨a, b, f, s, R, rfl, ⟨ov, rs, w, fa⟩, ok, hp, hz, k⟩ := h
    refine ⟨_, (pss_cons (my_fld (pv 0) (pe_op op_add (pe_fld (pv 0) rfl) pe_int))
      (pss_cons (my_fld (pv 0) (pe_op op_add (pe_fld (pv 0) rfl) pe_int))
      (pss_cons (my_if (pt_cmpR op_notN (pe_fld (pv 0) rfl) pe_non (nomark _))
        (pss_cons (ps_asg (pe_fld (pv 0) rfl) (pg_tup rfl (pgs_cons (pg_name (i := 1) sc_Player_step.nd rfl (by first | exact Or.inl rfl | exact Or.inr rfl)) (pgs_cons (pg_name (i := 2) sc_Player_step.nd rfl (by first | exact Or.inl rfl | exact Or.inr rfl)) (pgs_cons (pg_name (i := 3) sc_Player_step.nd rfl (by first | exact Or.inl rfl | exact Or.inr rfl)) pgs_nil)))))
      (pss_one (my_fld (pv 0) (my_ifExp (pt_cmpR op_lt (pe_op op_add (pv 2) pe_int) (my_meth (pv 0) T.c_Player T.m_Player_long (ok_Player_long T) (hr.mono (by decide)) T.b_Player_long passE (pa_cons (pv 1) pa_nil)) (nomark _)) (my_tup (pa_cons (pv 1) (pa_cons (pe_op op_add (pv 2) pe_int) (pa_cons (pv 3) pa_nil)))) pe_non))))
        pss_nil)
      (pss_cons (ps_expr (my_meth0 (pv 0) T.c_Player T.m_Player_turn_over (ok_Player_turn_over T) (hr.mono (by decide)) T.b_Player_turn_over passE))
      (pss_one (my_if (pt_cmpR op_notN (pe_fld (pv 0) rfl) pe_non (nomark _))
        (pss_cons (my_fld (pv 0) (pe_op op_sub (pe_fld (pv 0) rfl) pe_int))
      (pss_one (my_if (pt_cmpR op_eq (pe_fld (pv 0) rfl) pe_int (nomark _))
        (pss_cons (my_fld (pv 0) pe_non)
      (pss_one (my_fld (pv 0) pe_bl)))
        pss_nil)))
        pss_nil)))))), ?_⟩
    obtain ⟨n, hn⟩ := ok.now_of hp
    have okp := Pl.Ok.pre ok (by rw [hn]; exact fun z => nomatch z)
    have hzr := hz.r
    have hzp := hz.p
    have hzs := hz.s
    have hod := fun e p l z => ok.tn.kn (ok.od e p l z)
    unfold stepP at k
    clear ok hz
    obtain ⟨pov, o, time, now, spot, old, soon, past, rows, plays, stops, sleep⟩ := s
    have hn : now = some n := hn
    subst hn
    walk_at "rd"
    refine sf_Player_time T w 0 rfl fun H1 w1 => ?_
    walk_at "rd"
    refine sf_Player_spot T w1 0 rfl fun H2 w2 => ?_
    replace w2 : W H H2 (plL A a (.ref b.q) ⟨pov, o, time + 1, some n, spot + 1, old, soon, past, rows, plays, stops, sleep⟩ ov rs ++ (sL A b f ++ R)) := w2
    clear w1
    walk_at "rd"
    rcases old with _ | ⟨e, p, l⟩
    case' none =>
      have eo : ov = .non := fa.old
      subst eo
      refine xIf_F rfl ?_
      obtain ⟨s2, es2, ov2, w3, fo⟩ : ∃ s2, s2 = preP f ⟨pov, o, time, some n, spot, none, soon, past, rows, plays, stops, sleep⟩ ∧ ∃ ov2, W H H2 (plL A a (.ref b.q) s2 ov2 rs ++ (sL A b f ++ R)) ∧ OldAt H2 ov2 s2.old := ⟨_, rfl, .non, w2, rfl⟩
      have hs2 : s2.rows = rows ∧ s2.past = past ∧ s2.soon = soon ∧ s2.now = some n := by rw [es2]; exact ⟨rfl, rfl, rfl, rfl⟩
      obtain ⟨H3, eH3⟩ : ∃ H3, H3 = H2 := ⟨_, rfl⟩
      rw [← eH3] at w3 fo ⊢
      obtain ⟨t1, t2, t3, et⟩ : ∃ t1 t2 t3 : Option V, t1 = none ∧ t2 = none ∧ t3 = none := ⟨_, _, _, rfl, rfl, rfl⟩
    case' some =>
      obtain ⟨q, eo, hq0⟩ := fa.old
      subst eo
      refine xIf_T rfl ?_
      have ke : Kn f o e := hod e p l rfl
      have hq := w2.tp _ _ hq0
      walk_at "rd"
      refine st_call (of_Player_long ⟨a, b, f, _, .ref q, rs, e, R, rfl, w2.now, ke, ?_⟩)
      walk_at "rd"
      by_cases hl : p + 1 < longO f o e
      case' pos =>
        refine xIf_T (decide_eq_true hl) ?_
        walk_at "rd"
        refine st_new w2 fun t H2b w2b => ?_
        walk_at "rd"
        refine sf_Player_old T w2b 1 rfl fun H3 w3b => ?_
        obtain ⟨s2, es2, ov2, w3, fo⟩ : ∃ s2, s2 = preP f ⟨pov, o, time, some n, spot, some (e, p, l), soon, past, rows, plays, stops, sleep⟩ ∧ ∃ ov2, W H H3 (plL A a (.ref b.q) s2 ov2 rs ++ (sL A b f ++ R)) ∧ OldAt H3 ov2 s2.old :=
          ⟨_, rfl, .ref t, w3b.drop1, by show OldAt H3 (.ref t) (if p + 1 < longO f o e then some (e, p + 1, l) else none); rw [if_pos hl]; exact ⟨t, rfl, w3b.get 0 rfl⟩⟩
        clear w2b w3b
      case' neg =>
        refine xIf_F (decide_eq_false hl) ?_
        walk_at "rd"
        refine sf_Player_old T w2 0 rfl fun H3 w3b => ?_
        obtain ⟨s2, es2, ov2, w3, fo⟩ : ∃ s2, s2 = preP f ⟨pov, o, time, some n, spot, some (e, p, l), soon, past, rows, plays, stops, sleep⟩ ∧ ∃ ov2, W H H3 (plL A a (.ref b.q) s2 ov2 rs ++ (sL A b f ++ R)) ∧ OldAt H3 ov2 s2.old :=
          ⟨_, rfl, .non, w3b, by show OldAt H3 .non (if p + 1 < longO f o e then some (e, p + 1, l) else none); rw [if_neg hl]; exact rfl⟩
        clear w3b
      all_goals
        have hs2 : s2.rows = rows ∧ s2.past = past ∧ s2.soon = soon ∧ s2.now = some n := by rw [es2]; exact ⟨rfl, rfl, rfl, rfl⟩
    all_goals
      rw [← es2] at k okp
      walk_at "rd"
      refine st_call (of_Player_turn_over ⟨a, b, f, s2, n, R, rfl, ⟨ov2, rs, w3.now, fo, by rw [hs2.1]; exact fa.rows.mono w3.tp⟩, okp, hs2.2.2.2, ⟨by rw [hs2.1]; exact hzr, by rw [hs2.2.1]; exact hzp, by rw [hs2.2.2.1]; exact hzs⟩, fun H4 a' ea pw => ?_⟩)
      obtain ⟨ov3, rs3, w4, fa3⟩ := pw
      rw [← ea]
      have k : ∀ H' a'', a''.p = a'.p → PlW A H H' a'' (.ref b.q) (sleepP (turnP f s2)) (sL A b f ++ R) → Q .non H' := by rw [ea]; exact k
      generalize turnP f s2 = s3 at *
      obtain ⟨pov3, o3, time3, now3, spot3, old3, soon3, past3, rows3, plays3, stops3, sleep3⟩ := s3
      have w5 := w4.now
      walk_at "rd"
      rcases sleep3 with _ | m
      · refine xIf_F rfl ?_
        exact k H4 a' rfl (PlW.tr (w3.tr w4) ⟨ov3, rs3, w5, fa3⟩)
      · refine xIf_T rfl ?_
        walk_at "rd"
        refine sf_Player_sleep_left T w5 0 rfl fun H5 w6 => ?_
        walk_at "rd"
        unfold sleepP at k
        simp only at k
        refine xIf_2 (fun h => ?_) (fun h => ?_)
        · have h0 : m - 1 = 0 := de_t h
          rw [if_pos h0] at k
          walk_at "rd"
          refine sf_Player_sleep_left T w6 0 rfl fun H6 w7 => ?_
          walk_at "rd"
          refine sf_Player_is_playing T w7 0 rfl fun H7 w8 => ?_
          exact k H7 a' rfl (PlW.tr (w3.tr w4) ⟨ov3, rs3, w8, fa3.old.mono w8.tp, fa3.rows.mono w8.tp⟩)
        · have h0 : m - 1 ≠ 0 := de_f h
          rw [if_neg h0] at k
          exact k H5 a' rfl (PlW.tr (w3.tr w4) ⟨ov3, rs3, w6, fa3.old.mono w6.tp, fa3.rows.mono w6.tp⟩)
end
end TR

namespace TR
open PySem L2
theorem tickP_succ (f : Sf) : ∀ (n : Nat) (s : Pl), tickP f (n + 1) s = tick1 f (tickP f n s)
  | 0, s => rfl
  | n + 1, s => tickP_succ f n (tick1 f s)
theorem beginP_len (f : Sf) (s : Pl) (e : Option Int) (j : Bool) : (beginP f s e j).rows.length ≤ s.rows.length + 1 ∧ (beginP f s e j).past = s.past ∧ (beginP f s e j).soon = s.soon := by
  cases e with
  | none => exact ⟨Nat.le_succ _, rfl, rfl⟩
  | some x => exact ⟨by show (s.rows ++ [(s.time, x)]).length ≤ _; rw [List.length_append]; exact Nat.le_refl _, rfl, rfl⟩
theorem nextS_len (s : Pl) (l : Bool) : (nextS s l).rows = s.rows ∧ (nextS s l).past = s.past ∧ (nextS s l).soon.length ≤ s.soon.length := by
  unfold nextS
  split
  · rename_i y r e
    exact ⟨rfl, rfl, by rw [e]; exact Nat.le_succ _⟩
  · exact ⟨rfl, rfl, Nat.le_refl _⟩
theorem Sz.mono {s : Pl} {n m : Nat} (h : Sz s n) (hm : n ≤ m) : Sz s m := ⟨Nat.le_trans h.r hm, Nat.le_trans h.p hm, Nat.le_trans h.s hm⟩
theorem Sz.begin {f : Sf} {s : Pl} {n : Nat} (h1 : s.rows.length ≤ n) (h2 : s.past.length ≤ n + 1) (h3 : s.soon.length ≤ n + 1) (e : Option Int) (j : Bool) : Sz (beginP f s e j) (n + 1) := by
  obtain ⟨a, b, c⟩ := beginP_len f s e j
  exact ⟨by omega, by rw [b]; exact h2, by rw [c]; exact h3⟩
theorem Sz.turn {f : Sf} {s : Pl} {n : Nat} (h : Sz s n) : Sz (turnP f s) (n + 1) := by
  have h1 := h.mono (Nat.le_succ n)
  unfold turnP
  split
  · exact h1
  · rename_i m hm
    have hp : (s.past ++ [m]).length ≤ n + 1 := by
      rw [List.length_append]
      have := h.p
      exact Nat.succ_le_succ this
    split
    · split
      · obtain ⟨a, b, c⟩ := nextS_len s false
        unfold goOn
        exact Sz.begin (s := { nextS s false with past := s.past ++ [m] }) (by show (nextS s false).rows.length ≤ n; rw [a]; exact h.r) hp (Nat.le_trans c (Nat.le_succ_of_le h.s)) _ _
      · exact h1
    · split
      · have h2 := Sz.begin (f := f) (s := { s with past := s.past ++ [m] }) h.r hp (Nat.le_succ_of_le h.s) none false
        exact ⟨h2.r, h2.p, h2.s⟩
      · exact h1
theorem Sz.slp {s : Pl} {n : Nat} (h : Sz s n) : Sz (sleepP s) n := by
  unfold sleepP
  split
  · exact h
  · split
    · exact ⟨h.r, h.p, h.s⟩
    · exact ⟨h.r, h.p, h.s⟩
theorem Sz.step {f : Sf} {s : Pl} {n : Nat} (h : Sz s n) : Sz (stepP f s) (n + 1) := (Sz.turn (s := preP f s) ⟨h.r, h.p, h.s⟩).slp
theorem Sz.tick1 {f : Sf} {s : Pl} {n : Nat} (h : Sz s n) : Sz (tick1 f s) (n + 1) := by
  unfold TR.tick1
  split
  · exact h.step
  · exact h.mono (Nat.le_succ _)
theorem Sz.tick {f : Sf} : ∀ (m : Nat) {s : Pl} {n : Nat}, Sz s n → Sz (tickP f m s) (n + m)
  | 0, _, _, h => h
  | m + 1, s, n, h => by
    have := Sz.tick (f := f) m (h.tick1 (f := f))
    rw [show n + (m + 1) = n + 1 + m by omega]
    exact this
/-! how far ahead is from its end -/
def measP (f : Sf) (N : Nat) (s : Pl) : Nat := (N - s.rows.length) * 41 + match s.now with
  | none => 0
  | some n => (longO f s.o n - s.spot).toNat
theorem sleepP_same (s : Pl) : (sleepP s).rows = s.rows ∧ (sleepP s).now = s.now ∧ (sleepP s).o = s.o ∧ (sleepP s).spot = s.spot := by
  unfold sleepP
  split
  · exact ⟨rfl, rfl, rfl, rfl⟩
  · split <;> exact ⟨rfl, rfl, rfl, rfl⟩
theorem measP_pos {f : Sf} {N : Nat} {s : Pl} (ok : s.Ok f) (hp : s.plays = true) : 1 ≤ measP f N s := by
  obtain ⟨n, hn⟩ := ok.now_of hp
  have := (ok.nw n hn).2.2
  unfold measP
  rw [hn]
  simp only
  omega
theorem measP_step {f : Sf} {N : Nat} {s : Pl} (ok : s.Ok f) (hp : s.plays = true) (hr : s.rows.length < N) : measP f N (stepP f s) < measP f N s := by
  obtain ⟨n, hn⟩ := ok.now_of hp
  have h1 := (ok.nw n hn).2
  have em : measP f N (stepP f s) = measP f N (turnP f (preP f s)) := by
    obtain ⟨a, b, c, d⟩ := sleepP_same (turnP f (preP f s))
    unfold stepP measP
    rw [a, b, c, d]
  rw [em]
  have e0 : measP f N s = (N - s.rows.length) * 41 + (longO f s.o n - s.spot).toNat := by unfold measP; rw [hn]
  rw [e0]
  have hn2 : (preP f s).now = some n := hn
  have okp := Pl.Ok.pre ok (by rw [hn]; exact fun z => nomatch z)
  have stay : measP f N (preP f s) = (N - s.rows.length) * 41 + (longO f s.o n - (s.spot + 1)).toNat := by
    unfold measP
    rw [hn2]
    rfl
  unfold turnP
  rw [hn2]
  simp only
  split
  · rename_i x hx
    split
    · have hxm : x ∈ (preP f s).o.q.turn := by
        unfold foundP at hx
        split at hx
        · cases hx
        · exact nextV_mem okp.o okp.sn hx
      have kx := okp.tn.kn (okp.o.has hxm)
      have hq := nextS_o (preP f s) false
      have hlx : longO f (nextS (preP f s) false).o x = longO f (preP f s).o x := longO_q hq x
      have hhi := kx.hi
      have hlo := kx.lo
      have er : (goOn f (preP f s) n x).rows.length = s.rows.length + 1 := by
        unfold goOn
        show ((nextS (preP f s) false).rows ++ [_]).length = _
        rw [List.length_append, (nextS_len _ _).1]
        rfl
      have eM : measP f N (goOn f (preP f s) n x) = (N - (s.rows.length + 1)) * 41 + (longO f (preP f s).o x - 0).toNat := by
        unfold measP
        rw [er]
        show _ + (longO f (beganO (nextS (preP f s) false).o x) x - 0).toNat = _
        rw [show longO f (beganO (nextS (preP f s) false).o x) x = longO f (nextS (preP f s) false).o x from rfl, hlx]
      rw [eM]
      omega
    · rw [stay]
      omega
  · split
    · have eM : measP f N (endP f (preP f s) n) = (N - s.rows.length) * 41 + 0 := rfl
      rw [eM]
      omega
    · rw [stay]
      omega
theorem goP_stop {f : Sf} {N m : Nat} {s : Pl} (h : ¬ (s.plays = true ∧ s.rows.length < N)) : goP f N m s = s := by
  cases m with
  | zero => rfl
  | succ m => exact if_neg h
theorem goP_go {f : Sf} {N m : Nat} {s : Pl} (h : s.plays = true ∧ s.rows.length < N) : goP f N (m + 1) s = goP f N m (stepP f s) := if_pos h
theorem W.swap3 {H0 H : Hp} {X Y Z R : List Ent} (w : W H0 H (X ++ (Y ++ (Z ++ R)))) : W H0 H (X ++ (Z ++ (Y ++ R))) := by
  refine w.perm (List.Perm.append_left X ?_)
  rw [← List.append_assoc, ← List.append_assoc]
  exact List.Perm.append_right R List.perm_append_comm
/-- the first entry, and what stands behind X -/
theorem W.keepHead {H0 H : Hp} {x : Ent} {X R : List Ent} (w : W H0 H (x :: (X ++ R))) : W H0 H (x :: R) := by
  refine w.sub (fun y hy => ?_) ?_
  · rcases List.mem_cons.mp hy with rfl | hy
    · exact List.mem_cons_self
    · exact List.mem_cons_of_mem _ (List.mem_append_right _ hy)
  · have h := w.nd
    rw [List.map_cons, List.map_append] at h
    obtain ⟨h1, h2⟩ := List.nodup_cons.mp h
    exact List.nodup_cons.mpr ⟨fun z => h1 (List.mem_append_right _ z), (List.nodup_append.mp h2).2.1⟩
theorem W.swapT {H0 H : Hp} {x : Ent} {Y Z R : List Ent} (w : W H0 H (x :: (Y ++ (Z ++ R)))) : W H0 H (x :: (Z ++ (Y ++ R))) := W.swap3 (X := [x]) w
/-- a list of pairs, made of another one's -/
theorem st_lcRows {K : PySem.W.Frag} {H0 H : Hp} {L : List Ent} {a : Addr} {g : TG} {tt : TT} {te : TE} {vs : List Nat} {σ : L2.St} {Q : VK} {ys : List (Int × Int)} {zs : List V} (h : Int × Int → Int × Int) (p : Int × Int → Bool) (w : W H0 H L) (j : Nat) (hj : L[j]? = some (a, .lst zs)) (r : RowsAt H zs ys) (hl : ys.length ≤ 60000)
    (hs : ∀ D q y P H' xs, W H0 H' ((D, .lst xs) :: L) → H' q = some (.tup [.int y.1, .int y.2]) → (p y = true → xNew (.tup [.int (h y).1, .int (h y).2]) H' (fun v H4 => xAcc D P v H4)) → (p y = false → P H') → LcTurn g tt te vs σ D P (.ref q) H')
    (k : ∀ D H' xs, W H0 H' ((D, .lst xs) :: L) → RowsAt H' xs ((ys.filter p).map h) → Q (.ref D) H') : xLc (Itl K a) g tt te vs σ H Q := by
  have hzy := r.len
  refine st_lcL (xs := zs) (fun D i H' => ∃ xs, W H H' ((D, .lst xs) :: L) ∧ RowsAt H' xs (((ys.take i).filter p).map h)) w.now (fun D H' w1 => ⟨[], w1, True.intro⟩) (fun D i H' _ ⟨xs, w1, _⟩ => SqL.of (w1.get (j + 1) (by simpa using hj))) ?_ ?_
  · rintro D i x H' hx ⟨xs, w1, r1⟩
    obtain ⟨y, hy, q, rfl, hq⟩ := r.get i hx
    have e : (ys.take (i + 1)).filter p = (ys.take i).filter p ++ [y].filter p := by
      rw [List.take_succ, hy, ← List.filter_append]; rfl
    refine hs D q y _ H' xs (w.tr w1) (w1.tp _ _ hq) (fun hp => ?_) (fun hp => ?_)
    · refine st_tup w1.now fun q2 H2 hq2 w2 => ?_
      have hlen : xs.length ≤ 60000 := by
        rw [r1.len, List.length_map]
        exact Nat.le_trans (List.length_filter_le _ _) (Nat.le_trans (by rw [List.length_take]; omega) hl)
      refine st_acc w2.now 0 rfl (szL (by omega)) fun H3 w3 => ?_
      refine ⟨xs ++ [V.ref q2], w1.tr (w2.tr w3), ?_⟩
      rw [e, List.filter_cons_of_pos hp, List.map_append]
      exact ((r1.mono w2.tp).mono w3.tp).snoc ⟨q2, rfl, w3.tp _ _ hq2⟩
    · refine ⟨xs, w1, ?_⟩
      rw [e, List.filter_cons_of_neg (by rw [hp]; exact Bool.false_ne_true), List.filter_nil, List.append_nil]
      exact r1
  · rintro D H' ⟨xs, w1, r1⟩
    rw [hzy, List.take_length] at r1
    exact k D H' xs (w.tr w1) r1
def SnAt (H : Hp) (v : V) (r : Int × Int × Int × Int) : Prop := ∃ q, v = .ref q ∧ H q = some (.tup [.int r.1, .int r.2.1, .int r.2.2.1, .int r.2.2.2])
def SnsAt (H : Hp) : List V → List (Int × Int × Int × Int) → Prop
  | [], [] => True
  | v :: vs, r :: rs => SnAt H v r ∧ SnsAt H vs rs
  | _, _ => False
theorem SnAt.mono {H H' : Hp} (t : Tps H H') {v : V} {r : Int × Int × Int × Int} (h : SnAt H v r) : SnAt H' v r := let ⟨q, a, b⟩ := h; ⟨q, a, t _ _ b⟩
theorem SnsAt.mono {H H' : Hp} (t : Tps H H') : ∀ {vs : List V} {rs : List (Int × Int × Int × Int)}, SnsAt H vs rs → SnsAt H' vs rs
  | [], [], _ => True.intro
  | v :: vs, r :: rs, ⟨a, b⟩ => ⟨a.mono t, SnsAt.mono t b⟩
  | [], _ :: _, h => h.elim
  | _ :: _, [], h => h.elim
@[irreducible] def sp_Player_tick (A : Ads) : Sp := fun vs H Q E => ∃ (a : PA) (b : SA) (f : Sf) (s : Pl) (m : Int) (N : Nat) (R : List Ent), vs = [.ref a.p, .int m] ∧ PlW A H H a (.ref b.q) s (sL A b f ++ R) ∧ s.Ok f ∧ Sz s N ∧ N ≤ 40000 ∧
  (0 ≤ m ∧ m ≤ 200 → ∀ H' a', a'.p = a.p → PlW A H H' a' (.ref b.q) (tickP f m.toNat s) (sL A b f ++ R) → Q .non H') ∧ (¬ (0 ≤ m ∧ m ≤ 200) → E (.ref A.c_BadNumber) none H)
theorem of_Player_tick {A : Ads} {vs : List V} {H : Hp} {Q : VK} {E : XK} (h :  ∃ (a : PA) (b : SA) (f : Sf) (s : Pl) (m : Int) (N : Nat) (R : List Ent), vs = [.ref a.p, .int m] ∧ PlW A H H a (.ref b.q) s (sL A b f ++ R) ∧ s.Ok f ∧ Sz s N ∧ N ≤ 40000 ∧
  (0 ≤ m ∧ m ≤ 200 → ∀ H' a', a'.p = a.p → PlW A H H' a' (.ref b.q) (tickP f m.toNat s) (sL A b f ++ R) → Q .non H') ∧ (¬ (0 ≤ m ∧ m ≤ 200) → E (.ref A.c_BadNumber) none H)) : sp_Player_tick A vs H Q E := by unfold sp_Player_tick; exact h
@[irreducible] def sp_Player_sounds (A : Ads) : Sp := fun vs H Q _ => ∃ (a : PA) (b : SA) (f : Sf) (s : Pl) (ov : V) (rs : List V) (R : List Ent), vs = [.ref a.p] ∧ W H H (plL A a (.ref b.q) s ov rs ++ (sL A b f ++ R)) ∧ PlF H s ov rs ∧ (∀ e p l, s.old = some (e, p, l) → Kn f s.o e) ∧
  ∀ H' l xs, W H H' ((l, .lst xs) :: (plL A a (.ref b.q) s ov rs ++ (sL A b f ++ R))) → SnsAt H' xs (soundsP f s) → Q (.ref l) H'
theorem of_Player_sounds {A : Ads} {vs : List V} {H : Hp} {Q : VK} {E : XK} (h :  ∃ (a : PA) (b : SA) (f : Sf) (s : Pl) (ov : V) (rs : List V) (R : List Ent), vs = [.ref a.p] ∧ W H H (plL A a (.ref b.q) s ov rs ++ (sL A b f ++ R)) ∧ PlF H s ov rs ∧ (∀ e p l, s.old = some (e, p, l) → Kn f s.o e) ∧
  ∀ H' l xs, W H H' ((l, .lst xs) :: (plL A a (.ref b.q) s ov rs ++ (sL A b f ++ R))) → SnsAt H' xs (soundsP f s) → Q (.ref l) H') : sp_Player_sounds A vs H Q E := by unfold sp_Player_sounds; exact h
@[irreducible] def sp_Player_ahead (A : Ads) : Sp := fun vs H Q E => ∃ (a : PA) (b : SA) (f : Sf) (s : Pl) (ov : V) (rs : List V) (m : Int) (N : Nat) (R : List Ent), vs = [.ref a.p, .int m] ∧ W H H (plL A a (.ref b.q) s ov rs ++ (sL A b f ++ R)) ∧ PlF H s ov rs ∧ s.Ok f ∧ Sz s N ∧ N ≤ 40000 ∧
  (0 ≤ m ∧ m ≤ 12 → ∀ H' l xs, W H H' ((l, .lst xs) :: (plL A a (.ref b.q) s ov rs ++ (sL A b f ++ R))) → RowsAt H' xs (aheadP f s m.toNat) → Q (.ref l) H') ∧ (¬ (0 ≤ m ∧ m ≤ 12) → E (.ref A.c_BadNumber) none H)
theorem of_Player_ahead {A : Ads} {vs : List V} {H : Hp} {Q : VK} {E : XK} (h :  ∃ (a : PA) (b : SA) (f : Sf) (s : Pl) (ov : V) (rs : List V) (m : Int) (N : Nat) (R : List Ent), vs = [.ref a.p, .int m] ∧ W H H (plL A a (.ref b.q) s ov rs ++ (sL A b f ++ R)) ∧ PlF H s ov rs ∧ s.Ok f ∧ Sz s N ∧ N ≤ 40000 ∧
  (0 ≤ m ∧ m ≤ 12 → ∀ H' l xs, W H H' ((l, .lst xs) :: (plL A a (.ref b.q) s ov rs ++ (sL A b f ++ R))) → RowsAt H' xs (aheadP f s m.toNat) → Q (.ref l) H') ∧ (¬ (0 ≤ m ∧ m ≤ 12) → E (.ref A.c_BadNumber) none H)) : sp_Player_ahead A vs H Q E := by unfold sp_Player_ahead; exact h
section
variable {P : Program} {w : World} {K : PySem.W.Frag} {mg : Str → Option Value} {base : Heap} {A : Ads}
theorem ok_Player_tick (T : Txt K mg A) : FnOk P w K mg base (L2.CX P w) 10 A.f_Player_tick A.d_Player_tick P_Player_tick (sp_Player_tick A) := by
  refine T.F_Player_tick.okX sc_Player_tick (fun vs H Q E h => ?_) (fun cdv Ar outer s H vs Q E hr h => ?_)
  · unfold sp_Player_tick at h; obtain ⟨a, b, f, s, m, N, R, rfl, _⟩ := h; rfl
  · unfold sp_Player_tick at h; obtain ⟨a, b, f, s, m, N, R, rfl, pw, ok, hz, hN, k1, k2⟩ := h
    refine ⟨_, (pss_cons (my_if (pt_not (my_chIT op_le op_le pe_int (pv 1) (my_globI T.gi_MOST_TICKS (by rfl)) still_c still_v still_c))
        (pss_one (ps_raise rfl takesE (pmk_own PySem.F.excBase_ValueError T.x_BadNumber T.g_BadNumber T.k_BadNumber (raises_own T.r_BadNumber T.t_BadNumber) (by rfl))))
        pss_nil)
      (pss_one (my_for ownE rfl (pi_range1 (by rfl) T.z_range (pa_cons (pv 1) pa_nil)) (pg_name (i := 2) sc_Player_tick.nd rfl (by first | exact Or.inl rfl | exact Or.inr rfl))
        (pss_one (my_if (pt_val (pe_fld (pv 0) rfl))
        (pss_one (ps_expr (my_meth0 (pv 0) T.c_Player T.m_Player_step (ok_Player_step T) (hr.mono (by decide)) T.b_Player_step passE)))
        pss_nil))))), ?_⟩
    walk_at "rd"
    refine xIf_2 (fun h => k2 (nb_t h)) (fun h => ?_)
    have h1 := nb_f h
    have k1 := k1 h1
    walk_at "rd"
    refine st_forR (fun i σ H' => ∃ (a' : PA) (u : Option V), σ = [some (.ref a.p), some (.int m), u] ∧ a'.p = a.p ∧ PlW A H H' a' (.ref b.q) (tickP f i s) (sL A b f ++ R)) ⟨a, none, rfl, rfl, pw⟩ ?_ ?_
    · rintro i σ H1 hi ⟨a', u, rfl, ea, ov, rs, w, fa⟩
      have eT := tickP_succ f i s
      have okI := Pl.Ok.tick (f := f) i ok
      have hzI := Sz.tick (f := f) i hz
      rw [eT]
      generalize tickP f i s = s1 at *
      rw [← ea]
      unfold tick1
      walk_at "rd"
      refine xIf_2 (fun h => ?_) (fun h => ?_)
      · have hp : s1.plays = true := h
        rw [if_pos hp]
        walk_at "rd"
        refine st_call (of_Player_step ⟨a', b, f, s1, R, rfl, ⟨ov, rs, w.now, fa⟩, okI, hp, hzI.mono (by omega), fun H2 a2 ea2 pw2 => ?_⟩)
        exact ⟨a2, _, rfl, ea2, PlW.tr w pw2⟩
      · have hp : ¬ s1.plays = true := by rw [show s1.plays = false from h]; exact Bool.false_ne_true
        rw [if_neg hp]
        exact ⟨a', _, rfl, rfl, ov, rs, w, fa⟩
    · rintro σ H1 ⟨a', u, rfl, ea, pw2⟩
      exact k1 H1 a' ea pw2
theorem ok_Player_sounds (T : Txt K mg A) : FnOk P w K mg base (L2.CX P w) 4 A.f_Player_sounds A.d_Player_sounds P_Player_sounds (sp_Player_sounds A) := by
  refine T.F_Player_sounds.okX sc_Player_sounds (fun vs H Q E h => ?_) (fun cdv Ar outer s H vs Q E hr h => ?_)
  · unfold sp_Player_sounds at h; obtain ⟨a, b, f, s, ov, rs, R, rfl, _⟩ := h; rfl
  · unfold sp_Player_sounds at h; obtain ⟨a, b, f, s, ov, rs, R, rfl, w, fa, kn, k⟩ := h
    refine ⟨_, (pss_cons (my_if (pt_cmpR op_isN (pe_fld (pv 0) rfl) pe_non (nomark _))
        (pss_one (ps_ret (my_lst pa_nil)))
        pss_nil)
      (pss_cons (my_if (pt_cmpR op_isN (pe_fld (pv 0) rfl) pe_non (nomark _))
        (pss_one (ps_ret (my_lst (pa_cons (my_tup (pa_cons (pe_fld (pv 0) rfl) (pa_cons (pe_fld (pv 0) rfl) (pa_cons pe_int (pa_cons pe_int pa_nil))))) pa_nil))))
        pss_nil)
      (pss_cons (ps_asg (pe_fld (pv 0) rfl) (pg_tup rfl (pgs_cons (pg_name (i := 1) sc_Player_sounds.nd rfl (by first | exact Or.inl rfl | exact Or.inr rfl)) (pgs_cons (pg_name (i := 2) sc_Player_sounds.nd rfl (by first | exact Or.inl rfl | exact Or.inr rfl)) (pgs_cons (pg_name (i := 3) sc_Player_sounds.nd rfl (by first | exact Or.inl rfl | exact Or.inr rfl)) pgs_nil)))))
      (pss_cons (ps_set (i := 4) sc_Player_sounds.nd rfl (by first | exact Or.inl rfl | exact Or.inr rfl) (pe_op op_sub (my_meth (pv 0) T.c_Player T.m_Player_long (ok_Player_long T) (hr.mono (by decide)) T.b_Player_long passE (pa_cons (pv 1) pa_nil)) (pv 2)))
      (pss_one (ps_ret (my_lst (pa_cons (my_tup (pa_cons (pv 1) (pa_cons (pv 2) (pa_cons (pv 4) (pa_cons (pv 3) pa_nil))))) (pa_cons (my_tup (pa_cons (pe_fld (pv 0) rfl) (pa_cons (pe_fld (pv 0) rfl) (pa_cons (pe_op op_sub (pv 3) (pv 4)) (pa_cons (pv 3) pa_nil))))) pa_nil))))))))), ?_⟩
    obtain ⟨pov, o, time, now, spot, old, soon, past, rows, plays, stops, sleep⟩ := s
    unfold soundsP at k
    cases now with
    | none =>
      walk_at "rd"
      refine xIf_T rfl ?_
      walk_at "rd"
      exact st_new w fun l H1 w1 => k H1 l [] w1 True.intro
    | some n =>
      walk_at "rd"
      refine xIf_F rfl ?_
      walk_at "rd"
      rcases old with _ | ⟨e, p, l⟩
      · have eo : ov = .non := fa.old
        subst eo
        refine xIf_T rfl ?_
        walk_at "rd"
        refine st_new w fun t H1 w1 => ?_
        walk_at "rd"
        refine st_new w1 fun l H2 w2 => ?_
        exact k H2 l [.ref t] (w2.pick 2 [0]) ⟨⟨t, rfl, w2.get 1 rfl⟩, True.intro⟩
      · obtain ⟨q, eo, hq⟩ := fa.old
        subst eo
        refine xIf_F rfl ?_
        have ke : Kn f o e := kn e p l rfl
        walk_at "rd"
        refine st_call (of_Player_long ⟨a, b, f, _, .ref q, rs, e, R, rfl, w, ke, ?_⟩)
        walk_at "rd"
        refine st_new w fun t H1 w1 => ?_
        walk_at "rd"
        refine st_new w1 fun t2 H2 w2 => ?_
        walk_at "rd"
        refine st_new w2 fun l H3 w3 => ?_
        exact k H3 l [.ref t, .ref t2] (w3.pick 3 [0]) ⟨⟨t, rfl, w3.get 2 rfl⟩, ⟨t2, rfl, w3.get 1 rfl⟩, True.intro⟩
theorem ok_Player_ahead (T : Txt K mg A) : FnOk P w K mg base (L2.CX P w) 10 A.f_Player_ahead A.d_Player_ahead P_Player_ahead (sp_Player_ahead A) := by
  refine T.F_Player_ahead.okX sc_Player_ahead (fun vs H Q E h => ?_) (fun cdv Ar outer s H vs Q E hr h => ?_)
  · unfold sp_Player_ahead at h; obtain ⟨a, b, f, s, ov, rs, m, N, R, rfl, _⟩ := h; rfl
  · unfold sp_Player_ahead at h; obtain ⟨a, b, f, s, ov, rs, m, N, R, rfl, w, fa, ok, hz, hN, k1, k2⟩ := h
    refine ⟨_, (pss_cons (my_if (pt_not (my_chIT op_le op_le pe_int (pv 1) (my_globI T.gi_MOST_AHEAD (by rfl)) still_c still_v still_c))
        (pss_one (ps_raise rfl takesE (pmk_own PySem.F.excBase_ValueError T.x_BadNumber T.g_BadNumber T.k_BadNumber (raises_own T.r_BadNumber T.t_BadNumber) (by rfl))))
        pss_nil)
      (pss_cons (ps_set (i := 2) sc_Player_ahead.nd rfl (by first | exact Or.inl rfl | exact Or.inr rfl) (my_meth0 (pv 0) T.c_Player T.m_Player_twin (ok_Player_twin T) (hr.mono (by decide)) T.b_Player_twin passE))
      (pss_cons (my_fld (pv 2) pe_non)
      (pss_cons (my_fld (pv 2) (pe_cmpR op_notN (pe_fld (pv 2) rfl) pe_non (nomark _)))
      (pss_cons (my_while ownE (PW.pt (my_and (pt_val (pe_fld (pv 2) rfl)) (pw_and1 (pt_cmpR op_lt (pe_callB my_lenQ (by rfl) T.z_len PySem.boot_len (pa_cons (pe_fld (pv 2) rfl) pa_nil)) (pe_op op_add (pe_callB my_lenQ (by rfl) T.z_len PySem.boot_len (pa_cons (pe_fld (pv 0) rfl) pa_nil)) (pv 1)) (nomark _)))))
        (pss_one (ps_expr (my_meth0 (pv 2) T.c_Player T.m_Player_step (ok_Player_step T) (hr.mono (by decide)) T.b_Player_step passE))))
      (pss_one (ps_ret (my_lc (own := [("time", 3), ("entry", 4)]) rfl sc_Player_ahead.nd (pi_list (pe_slice my_sl (pe_fld (pv 2) rfl) (po_some (pe_callB my_lenQ (by rfl) T.z_len PySem.boot_len (pa_cons (pe_fld (pv 0) rfl) pa_nil))) po_none)) (blkOk_by (own := [("time", 3), ("entry", 4)]) (N := N_Player_ahead) (sc := defScope s_Player_ahead) (by decide +kernel)) (fun _ _ _ _ _ => (by exact (pg_tupB (n := 2) rfl (pgs_cons (pg_name (i := 3) sc_Player_ahead.nd rfl (by first | exact Or.inl rfl | exact Or.inr rfl)) (pgs_cons (pg_name (i := 4) sc_Player_ahead.nd rfl (by first | exact Or.inl rfl | exact Or.inr rfl)) pgs_nil))))) (fun _ _ _ _ _ => pts_nil) (fun _ _ _ _ _ => (my_tup (pa_cons (pe_op op_sub (pv 3) (pe_fldB (pv 0) rfl)) (pa_cons (pv 4) pa_nil)))))))))))), ?_⟩
    walk_at "rd"
    refine xIf_2 (fun h => k2 (nb_t h)) (fun h => ?_)
    have h1 := nb_f h
    have k1 := k1 h1
    have hrl := fa.rows.len
    have hzr := hz.r
    have okw := ok.wake
    have hrw : (wakeP s).rows = s.rows := rfl
    walk_at "rd"
    refine st_call (of_Player_twin ⟨a, .ref b.q, s, ov, rs, _, rfl, w, ok.o, ok.ov, fun H1 a1 w1 => ?_⟩)
    walk_at "rd"
    refine sf_Player_sleep_left T w1 0 rfl fun H2 w2 => ?_
    replace w2 : W H H2 (plL A a1 (.ref b.q) { s with sleep := none } ov rs ++ (plL A a (.ref b.q) s ov rs ++ (sL A b f ++ R))) := w2
    clear w1
    walk_at "rd"
    obtain ⟨pl, epl, hpl⟩ : ∃ pl : Bool, pl = (!decide (oV s.now = V.non)) ∧ pl = s.now.isSome := by
      cases hn : s.now with
      | none => exact ⟨false, (by rw [show oV none = V.non from rfl, decide_eq_true rfl]; rfl), rfl⟩
      | some n => exact ⟨true, (by rw [decide_eq_false (fun z => nomatch z)]; rfl), rfl⟩
    refine sf_Player_is_playing T w2 0 rfl fun H3 w3 => ?_
    have w4 : W H H3 (plL A a1 (.ref b.q) (wakeP s) ov rs ++ (sL A b f ++ (plL A a (.ref b.q) s ov rs ++ R))) := by
      refine W.swap3 ?_
      unfold wakeP
      rw [← hpl, epl]
      exact w3
    clear w3 w2
    walk_at "rd"
    refine st_while2 (fun q σ H' => ∃ (a2 : PA) (s2 : Pl) (n2 : Nat), σ = [some (.ref a.p), some (.int m), some (.ref a2.p), none, none] ∧ PlW A H H' a2 (.ref b.q) s2 (sL A b f ++ (plL A a (.ref b.q) s ov rs ++ R)) ∧ s2.Ok f ∧ Sz s2 n2 ∧ n2 + q ≤ N + aheadFuel ∧
        goP f (s.rows.length + m.toNat) q s2 = aheadS f s m.toNat ∧ measP f (s.rows.length + m.toNat) s2 ≤ q) aheadFuel ⟨a1, wakeP s, N, rfl, ⟨ov, rs, w4, fa.old.mono w4.tp, fa.rows.mono w4.tp⟩, okw, ⟨hz.r, hz.p, hz.s⟩, Nat.le_refl _, rfl, ?_⟩ ?_
    · unfold measP
      rw [hrw]
      have : (s.rows.length + m.toNat - s.rows.length) * 41 ≤ 12 * 41 := Nat.mul_le_mul_right _ (by omega)
      unfold aheadFuel
      cases hn : (wakeP s).now with
      | none => simp only; omega
      | some n =>
        have hb := (okw.nw n hn)
        have hk := okw.tn.kn hb.1
        have := hk.hi
        simp only
        omega
    · rintro q σ H4 ⟨a2, s2, n2, rfl, ⟨ov2, rs2, w5, fa2⟩, ok2, hz2, hq2, hgo, hme⟩
      have hrl2 := fa2.rows.len
      walk_at "rd"
      by_cases hp : s2.plays = true
      case' pos =>
        refine xIf_T hp ?_
        walk_at "rd"
        by_cases hr : s2.rows.length < s.rows.length + m.toNat
        case pos =>
          refine xWb_T (decide_eq_true (by rw [hrl2, hrl]; omega)) ?_
          have hpos := measP_pos (N := s.rows.length + m.toNat) ok2 hp
          obtain ⟨q', eq'⟩ : ∃ q', q = q' + 1 := ⟨q - 1, by omega⟩
          subst eq'
          have hst := measP_step (N := s.rows.length + m.toNat) ok2 hp hr
          walk_at "rd"
          refine st_call (of_Player_step ⟨a2, b, f, s2, _, rfl, ⟨ov2, rs2, w5.now, fa2⟩, ok2, hp, hz2.mono (by unfold aheadFuel at hq2; omega), fun H5 a3 ea3 pw => ?_⟩)
          refine ⟨q', Nat.lt_succ_self _, a3, stepP f s2, n2 + 1, by rw [ea3], PlW.tr w5 pw, ok2.step hp, hz2.step, by omega, ?_, by omega⟩
          rw [← hgo, goP_go ⟨hp, hr⟩]
        case' neg =>
          refine xWb_F (decide_eq_false (by rw [hrl2, hrl]; omega)) ?_
          rw [goP_stop (fun z => hr z.2)] at hgo
      case' neg =>
        refine xIf_F (by simpa using hp) ?_
        refine xWb_F rfl ?_
        rw [goP_stop (fun z => hp z.1)] at hgo
      all_goals
        walk_at "rd"
        refine st_new w5.now fun sl H5 w6' => ?_
        have w6n := w6'.tp
        have w6 := w5.tr w6'
        clear w6'
        have ec : cutV rs2 (some (rs.length : Int)) none = rs2.drop (min rs.length rs2.length) := by
          unfold cutV
          rw [HT.sIx_none, HT.sIx_nat, List.take_of_length_le (by rw [List.length_drop]; omega)]
        have em : rs2.drop (min rs.length rs2.length) = rs2.drop rs.length := by
          by_cases hc : rs.length ≤ rs2.length
          · rw [Nat.min_eq_left hc]
          · rw [Nat.min_eq_right (by omega), List.drop_of_length_le (Nat.le_refl _), List.drop_of_length_le (by omega)]
        rw [ec, em] at w6
        subst hgo
        have r5 : RowsAt H4 (rs2.drop rs.length) ((aheadS f s m.toNat).rows.drop s.rows.length) := by
          rw [hrl]
          exact fa2.rows.drop _
        unfold aheadP at k1
        have hyl : ((aheadS f s m.toNat).rows.drop s.rows.length).length ≤ 60000 := by
          rw [List.length_drop]
          have := hz2.r
          unfold aheadFuel at hq2
          omega
        generalize (aheadS f s m.toNat).rows.drop s.rows.length = ys at *
        generalize rs2.drop rs.length = zs at *
        walk_at "rd"
        refine st_lcRows (fun y => (y.1 - s.time, y.2)) (fun _ => true) w6 0 rfl (r5.mono w6n) hyl ?_ ?_
        · intro D q y P H' xs w7 hq kt kf
          walk_at "rd"
          refine xIf_T rfl ?_
          walk_at "rd"
          exact kt rfl
        · intro D H' xs w7 r7
          rw [List.filter_eq_self.mpr (fun _ _ => rfl)] at r7
          exact k1 H' D xs (W.keepHead (X := (sl, .lst zs) :: (plL A a2 (.ref b.q) (aheadS f s m.toNat) ov2 rs2)) w7).swapT r7
end
end TR
namespace TR
open PySem L2
/-! ### texts of numbers -/
def wordL : Option Int → List Nat
  | none => [45]
  | some n => TL.numL n.toNat
def wordT : Option Int → Str
  | none => "-"
  | some n => Str.ofString (toString n)
/-- a number that texts tell -/
def Wd (e : Option Int) : Prop := ∀ n, e = some n → 0 ≤ n ∧ n < 10 ^ 9
theorem Wd.non : Wd none := fun _ z => nomatch z
theorem Wd.of {n : Int} (h : 0 ≤ n) (h2 : n < 10 ^ 9) : Wd (some n) := fun m e => by cases e; exact ⟨h, h2⟩
theorem wordT_S {e : Option Int} (h : Wd e) : wordT e = SX.S (wordL e) := by
  cases e with
  | none => decide +kernel
  | some n =>
    have h0 := (h n rfl).1
    obtain ⟨m, rfl⟩ := Int.eq_ofNat_of_zero_le h0
    have e := TL.tl_num m
    show Str.ofString (toString ((m : Nat) : Int)) = SX.S (TL.numL ((m : Int)).toNat)
    rw [Int.toNat_natCast, ← e]
theorem wordL_free {e : Option Int} {c : Nat} (h : c < 45) : c ∉ wordL e := by
  cases e with
  | none => intro z; rw [show wordL none = [45] from rfl, List.mem_singleton] at z; omega
  | some n => exact TL.numL_free (.inl (by omega))
theorem wordL_in {e : Option Int} {c : Nat} (h : c ∈ wordL e) : c = 45 ∨ (48 ≤ c ∧ c ≤ 57) := by
  cases e with
  | none => exact .inl (List.mem_singleton.mp h)
  | some n =>
    by_cases h1 : c < 48 ∨ 57 < c
    · exact absurd h (TL.numL_free h1)
    · exact .inr (by omega)
theorem wordL_ne (e : Option Int) : wordL e ≠ [] := by
  cases e with
  | none => exact List.cons_ne_nil _ _
  | some n => exact TL.numL_ne _
theorem wordL_len {e : Option Int} (h : Wd e) : (wordL e).length ≤ 10 := by
  cases e with
  | none => decide
  | some n =>
    have := h n rfl
    exact TL.numL_len (by decide) (by show n.toNat < 10 ^ 10; omega)
theorem wordT_len {e : Option Int} (h : Wd e) : (wordT e).length ≤ 10 := by rw [wordT_S h, SX.S_len]; exact wordL_len h
theorem wordT_reads {n : Int} (h : Wd (some n)) : PySem.intText? (wordT (some n)) = some n := PySem.W.KIN.num_reads (h n rfl).1 (Int.lt_of_lt_of_le (h n rfl).2 (by decide))
theorem wordT_dash {n : Int} (h : Wd (some n)) : wordT (some n) ≠ "-" := by
  intro z
  rw [wordT_S h, show ("-" : Str) = SX.S [45] from by decide +kernel] at z
  have e : TL.numL n.toNat = [45] := SX.S_inj z
  exact absurd (by rw [e]; exact List.mem_singleton.mpr rfl) (TL.numL_free (n := n.toNat) (s := 45) (.inl (by decide)))
/-! ### rows -/
def rowT (xs : List (Option Int)) : Str := Txt.join " " (xs.map wordT)
def rowL (xs : List (Option Int)) : List Nat := TL.joinL [32] (xs.map wordL)
abbrev Wds (xs : List (Option Int)) : Prop := ∀ e ∈ xs, Wd e
theorem words_S {xs : List (Option Int)} (h : Wds xs) : xs.map wordT = (xs.map wordL).map SX.S := by
  rw [List.map_map]
  exact List.map_congr_left fun e he => wordT_S (h e he)
theorem sp_S : (" " : Str) = SX.S [32] := by decide +kernel
theorem nl_S : ("\n" : Str) = SX.S [10] := by decide +kernel
theorem rowT_S {xs : List (Option Int)} (h : Wds xs) : rowT xs = SX.S (rowL xs) := by
  unfold rowT rowL
  rw [words_S h, sp_S, SX.join_S]
theorem joinL_in {S : List Nat} {c : Nat} : ∀ {ps : List (List Nat)}, c ∈ TL.joinL S ps → c ∈ S ∨ ∃ p ∈ ps, c ∈ p
  | [], h => by cases h
  | [p], h => .inr ⟨p, List.mem_singleton.mpr rfl, h⟩
  | p :: q :: r, h => by
    rcases List.mem_append.mp h with z | z
    · exact .inr ⟨p, List.mem_cons_self, z⟩
    · rcases List.mem_append.mp z with z | z
      · exact .inl z
      · rcases joinL_in z with z | ⟨p2, h1, h2⟩
        · exact .inl z
        · exact .inr ⟨p2, List.mem_cons_of_mem _ h1, h2⟩
theorem joinL_ne {S : List Nat} : ∀ {ps : List (List Nat)}, ps ≠ [] → (∀ p ∈ ps, p ≠ []) → TL.joinL S ps ≠ []
  | [], h, _ => absurd rfl h
  | [p], _, h => h p (List.mem_singleton.mpr rfl)
  | p :: q :: r, _, h => by
    intro z
    exact h p List.mem_cons_self (List.append_eq_nil_iff.mp z).1
theorem joinL_len {S : List Nat} {n : Nat} : ∀ {ps : List (List Nat)}, (∀ p ∈ ps, p.length ≤ n) → (TL.joinL S ps).length ≤ ps.length * (n + S.length)
  | [], _ => Nat.zero_le _
  | [p], h => by
    have := h p (List.mem_singleton.mpr rfl)
    show p.length ≤ 1 * (n + S.length)
    omega
  | p :: q :: r, h => by
    have h1 := h p List.mem_cons_self
    have h2 := joinL_len (S := S) (n := n) (ps := q :: r) fun x hx => h x (List.mem_cons_of_mem _ hx)
    show (p ++ (S ++ TL.joinL S (q :: r))).length ≤ _
    rw [List.length_append, List.length_append, List.length_cons, Nat.add_mul]
    omega
theorem rowL_in {xs : List (Option Int)} {c : Nat} (h : c ∈ rowL xs) : c = 32 ∨ c = 45 ∨ (48 ≤ c ∧ c ≤ 57) := by
  rcases joinL_in h with z | ⟨p, hp, z⟩
  · exact .inl (List.mem_singleton.mp z)
  · obtain ⟨e, _, rfl⟩ := List.mem_map.mp hp
    exact .inr (wordL_in z)
theorem rowL_ne {xs : List (Option Int)} (h : xs ≠ []) : rowL xs ≠ [] := joinL_ne (fun z => h (List.map_eq_nil_iff.mp z)) fun p hp => by
  obtain ⟨e, _, rfl⟩ := List.mem_map.mp hp
  exact wordL_ne e
theorem rowT_nil : rowT [] = "" := by decide +kernel
theorem nil_S : ("" : Str) = SX.S [] := by decide +kernel
theorem rowT_ne {xs : List (Option Int)} (w : Wds xs) (h : xs ≠ []) : rowT xs ≠ "" := by
  intro z
  rw [rowT_S w, nil_S] at z
  exact rowL_ne h (SX.S_inj z)
theorem rowT_split {xs : List (Option Int)} (w : Wds xs) (h : xs ≠ []) : Txt.split (rowT xs) " " = xs.map wordT := by
  rw [rowT_S w, sp_S, SX.split_S (List.cons_ne_nil _ _) (by decide), words_S w]
  unfold rowL
  rw [SX.spl_join (fun z => h (List.map_eq_nil_iff.mp z)) fun p hp => by
    obtain ⟨e, _, rfl⟩ := List.mem_map.mp hp
    exact wordL_free (by decide)]
theorem rowL_len {xs : List (Option Int)} (w : Wds xs) : (rowL xs).length ≤ xs.length * 11 := by
  have := joinL_len (S := [32]) (n := 10) (ps := xs.map wordL) fun p hp => by
    obtain ⟨e, he, rfl⟩ := List.mem_map.mp hp
    exact wordL_len (w e he)
  rw [List.length_map] at this
  exact this
theorem rowT_len {xs : List (Option Int)} (w : Wds xs) : (rowT xs).length ≤ xs.length * 11 := by rw [rowT_S w, SX.S_len]; exact rowL_len w
theorem sum_le {n : Nat} : ∀ {ys : List Nat}, (∀ y ∈ ys, y ≤ n) → ys.sum ≤ ys.length * n
  | [], _ => Nat.zero_le _
  | y :: r, h => by
    have h1 := h y List.mem_cons_self
    have h2 := sum_le (n := n) (ys := r) fun x hx => h x (List.mem_cons_of_mem _ hx)
    rw [List.sum_cons, List.length_cons, Nat.add_mul]
    omega
/-- names of tunes in a row -/
structure Nm (x : Str) : Prop where
  ne : x.cps.toList ≠ []
  lo : ∀ c ∈ x.cps.toList, 97 ≤ c ∧ c ≤ 122
  len : x.length ≤ 6
def nameL (xs : List Str) : List Nat := TL.joinL [32] (xs.map fun x => x.cps.toList)
def nameT (xs : List Str) : Str := Txt.join " " xs
theorem names_S (xs : List Str) : xs = (xs.map fun x => x.cps.toList).map SX.S := by
  rw [List.map_map]
  exact (List.map_id xs).symm.trans (List.map_congr_left fun x _ => (SX.S_tl x).symm)
theorem nameT_S (xs : List Str) : nameT xs = SX.S (nameL xs) := by
  unfold nameT nameL
  rw [sp_S, ← SX.join_S, ← names_S]
theorem nameT_nil : nameT [] = "" := by decide +kernel
theorem nameT_ne {xs : List Str} (w : ∀ x ∈ xs, Nm x) (h : xs ≠ []) : nameT xs ≠ "" := by
  intro z
  rw [nameT_S, nil_S] at z
  refine joinL_ne (S := [32]) (fun z => h (List.map_eq_nil_iff.mp z)) (fun p hp => ?_) (SX.S_inj z)
  obtain ⟨x, hx, rfl⟩ := List.mem_map.mp hp
  exact (w x hx).ne
theorem nameT_split {xs : List Str} (w : ∀ x ∈ xs, Nm x) (h : xs ≠ []) : Txt.split (nameT xs) " " = xs := by
  rw [nameT_S, sp_S, SX.split_S (List.cons_ne_nil _ _) (by decide)]
  unfold nameL
  rw [SX.spl_join (fun z => h (List.map_eq_nil_iff.mp z)) fun p hp => by
    obtain ⟨x, hx, rfl⟩ := List.mem_map.mp hp
    intro z
    have := (w x hx).lo _ z
    omega]
  exact (names_S xs).symm
theorem nameL_in {xs : List Str} (w : ∀ x ∈ xs, Nm x) {c : Nat} (h : c ∈ nameL xs) : c = 32 ∨ (97 ≤ c ∧ c ≤ 122) := by
  rcases joinL_in h with z | ⟨p, hp, z⟩
  · exact .inl (List.mem_singleton.mp z)
  · obtain ⟨x, hx, rfl⟩ := List.mem_map.mp hp
    exact .inr ((w x hx).lo c z)
theorem nameL_len {xs : List Str} (w : ∀ x ∈ xs, Nm x) : (nameL xs).length ≤ xs.length * 7 := by
  have := joinL_len (S := [32]) (n := 6) (ps := xs.map fun x => x.cps.toList) fun p hp => by
    obtain ⟨x, hx, rfl⟩ := List.mem_map.mp hp
    have := (w x hx).len
    simpa [Str.length] using this
  rw [List.length_map] at this
  exact this
/-! ### a player's text -/
def bI (b : Bool) : Option Int := some (if b then 1 else 0)
def oldO : Option (Int × Int × Int) → List (Option Int)
  | none => []
  | some (e, p, l) => [some e, some p, some l]
def rowsP (s : Pl) : List Str :=
  [rowT [some s.ov, some s.time, s.now, some s.spot, s.sleep],
   rowT [bI s.plays, bI s.stops, bI s.o.mixed, bI s.o.gone],
   rowT [some s.o.num, some s.o.q.tunes.length, s.o.behind],
   s.o.again, rowT (oldO s.old), rowT (s.soon.map some), rowT (s.past.map some), rowT (s.o.q.turn.map some), rowT (s.o.deck.map some), nameT s.o.q.tunes,
   rowT (s.rows.map fun r => some r.1), rowT (s.rows.map fun r => some r.2)]
def textP (s : Pl) : Str := Txt.join "\n" (rowsP s)
/-- what a text can tell -/
structure Tx (s : Pl) : Prop where
  ov : Wd (some s.ov)
  tm : Wd (some s.time)
  nw : Wd s.now
  sp : Wd (some s.spot)
  sl : Wd s.sleep
  nu : Wd (some s.o.num)
  la : Wd (some (s.o.q.tunes.length : Int))
  bh : Wd s.o.behind
  od : Wds (oldO s.old)
  so : Wds (s.soon.map some)
  pa : Wds (s.past.map some)
  tr : Wds (s.o.q.turn.map some)
  dk : Wds (s.o.deck.map some)
  r1 : Wds (s.rows.map fun r => some r.1)
  r2 : Wds (s.rows.map fun r => some r.2)
  nm : ∀ x ∈ s.o.q.tunes, Nm x
  ag : s.o.again ∈ repeats
def Sgn (c : Nat) : Prop := c = 32 ∨ c = 45 ∨ (48 ≤ c ∧ c ≤ 57) ∨ (97 ≤ c ∧ c ≤ 122)
theorem rowT_sgn {xs : List (Option Int)} (w : Wds xs) : ∀ c ∈ (rowT xs).cps.toList, Sgn c := by
  rw [rowT_S w]
  intro c hc
  rcases rowL_in (xs := xs) hc with z | z | z
  · exact .inl z
  · exact .inr (.inl z)
  · exact .inr (.inr (.inl z))
theorem wds_cons {e : Option Int} {xs : List (Option Int)} (h : Wd e) (h2 : Wds xs) : Wds (e :: xs) := fun x hx => by
  rcases List.mem_cons.mp hx with rfl | z
  · exact h
  · exact h2 x z
theorem wds_nil : Wds [] := fun _ z => nomatch z
theorem wd_bI (b : Bool) : Wd (bI b) := by cases b <;> exact Wd.of (by decide) (by decide)
section
variable {s : Pl} (h : Tx s)
include h
theorem Tx.r0 : Wds [some s.ov, some s.time, s.now, some s.spot, s.sleep] := wds_cons h.ov (wds_cons h.tm (wds_cons h.nw (wds_cons h.sp (wds_cons h.sl wds_nil))))
theorem Tx.rb : Wds [bI s.plays, bI s.stops, bI s.o.mixed, bI s.o.gone] := wds_cons (wd_bI _) (wds_cons (wd_bI _) (wds_cons (wd_bI _) (wds_cons (wd_bI _) wds_nil)))
theorem Tx.rd : Wds [some s.o.num, some (s.o.q.tunes.length : Int), s.o.behind] := wds_cons h.nu (wds_cons h.la (wds_cons h.bh wds_nil))
theorem Tx.rows : ∀ x ∈ rowsP s, ∀ c ∈ x.cps.toList, Sgn c := by
  intro x hx
  unfold rowsP at hx
  simp only [List.mem_cons, List.not_mem_nil, or_false] at hx
  rcases hx with rfl | rfl | rfl | rfl | rfl | rfl | rfl | rfl | rfl | rfl | rfl | rfl
  · exact rowT_sgn h.r0
  · exact rowT_sgn h.rb
  · exact rowT_sgn h.rd
  · have e : ∀ y ∈ repeats, ∀ c ∈ y.cps.toList, 97 ≤ c ∧ c ≤ 122 := by decide +kernel
    exact fun c hc => .inr (.inr (.inr (e _ h.ag c hc)))
  · exact rowT_sgn h.od
  · exact rowT_sgn h.so
  · exact rowT_sgn h.pa
  · exact rowT_sgn h.tr
  · exact rowT_sgn h.dk
  · rw [nameT_S]
    intro c hc
    rcases nameL_in h.nm (c := c) hc with z | z
    · exact .inl z
    · exact .inr (.inr (.inr z))
  · exact rowT_sgn h.r1
  · exact rowT_sgn h.r2
theorem Tx.text : textP s = SX.S (TL.joinL [10] ((rowsP s).map fun x => x.cps.toList)) := by
  unfold textP
  rw [nl_S, ← SX.join_S, ← names_S]
theorem Tx.split : Txt.split (textP s) "\n" = rowsP s := by
  rw [h.text, nl_S, SX.split_S (List.cons_ne_nil _ _) (by decide)]
  rw [SX.spl_join (fun z => by have := List.map_eq_nil_iff.mp z; exact absurd this (List.cons_ne_nil _ _)) fun p hp => by
    obtain ⟨x, hx, rfl⟩ := List.mem_map.mp hp
    intro z
    rcases h.rows x hx _ z with q | q | q | q <;> omega]
  exact (names_S _).symm
theorem Tx.signs : ∀ c ∈ (textP s).cps.toList, c = 10 ∨ Sgn c := by
  rw [h.text]
  intro c hc
  rcases joinL_in (S := [10]) hc with z | ⟨p, hp, z⟩
  · exact .inl (List.mem_singleton.mp z)
  · obtain ⟨x, hx, rfl⟩ := List.mem_map.mp hp
    exact .inr (h.rows x hx c z)
theorem Tx.lens {N : Nat} (z : Sz s N) (ht : s.o.q.turn.length ≤ N) (hd : s.o.deck.length ≤ N) (hq : s.o.q.tunes.length ≤ N) (hN : 5 ≤ N) : ∀ x ∈ rowsP s, x.length ≤ N * 11 := by
  intro x hx
  have big : ∀ {xs : List (Option Int)}, Wds xs → xs.length ≤ N → (rowT xs).length ≤ N * 11 := fun w hl => Nat.le_trans (rowT_len w) (Nat.mul_le_mul_right _ hl)
  unfold rowsP at hx
  simp only [List.mem_cons, List.not_mem_nil, or_false] at hx
  rcases hx with rfl | rfl | rfl | rfl | rfl | rfl | rfl | rfl | rfl | rfl | rfl | rfl
  · exact big h.r0 hN
  · exact big h.rb (by show 4 ≤ N; omega)
  · exact big h.rd (by show 3 ≤ N; omega)
  · have e : ∀ y ∈ repeats, y.length ≤ 11 := by decide +kernel
    have := e _ h.ag
    omega
  · exact big h.od (by unfold oldO; split <;> (simp only [List.length_cons, List.length_nil]; omega))
  · exact big h.so (by rw [List.length_map]; exact z.s)
  · exact big h.pa (by rw [List.length_map]; exact z.p)
  · exact big h.tr (by rw [List.length_map]; exact ht)
  · exact big h.dk (by rw [List.length_map]; exact hd)
  · rw [nameT_S, SX.S_len]
    have := nameL_len h.nm
    have : s.o.q.tunes.length * 7 ≤ N * 7 := Nat.mul_le_mul_right _ hq
    omega
  · exact big h.r1 (by rw [List.length_map]; exact z.r)
  · exact big h.r2 (by rw [List.length_map]; exact z.r)
theorem Tx.len {N : Nat} (z : Sz s N) (ht : s.o.q.turn.length ≤ N) (hd : s.o.deck.length ≤ N) (hq : s.o.q.tunes.length ≤ N) (hN : 5 ≤ N) : (textP s).length ≤ 12 * (N * 11 + 1) := by
  rw [h.text, SX.S_len]
  have := joinL_len (S := [10]) (n := N * 11) (ps := (rowsP s).map fun x => x.cps.toList) fun p hp => by
    obtain ⟨x, hx, rfl⟩ := List.mem_map.mp hp
    have := h.lens z ht hd hq hN x hx
    simpa [Str.length] using this
  rw [List.length_map] at this
  exact this
end
end TR
namespace TR
open PySem PySem.Spec PyProof.Rows L2
/-! ### readings that waking needs more -/
section
variable {X : Cx} {pos : Pos}
/-- o.f = .. as a part of a target -/
def gFld (K : PySem.W.Frag) (ta : TE) (f : Str) : TG := fun v σ H Q => ta σ H fun x H1 => xFldSt K f x v H1 fun H2 => Q σ H2
theorem pg_fld {o : Expr} {ta : TE} {f : Str} (ho : PE X o ta)
    (ha : ∀ v, assign (.Attribute o f pos) X.env v = (do
      let ov ← holding [v] (eval o X.env)
      standAt pos.atName
      holding [v, ov] (setAttr ov f v)
      release [v, ov] []) := by intro _; rfl) : PG X (.Attribute o f pos) (gFld X.K ta f) := by
  refine ⟨fun pins s σ H v u Q I r h => ?_⟩
  rw [ha]
  refine wpAny_bind (wpAny_holding (thn (ho.run pins s σ H _ I h) fun ov s1 ⟨x, H1, I1, r1, q1⟩ => ?_))
  unfold xFldSt at q1
  obtain ⟨a, C, dx, fs, ex, ea, c, n, l, q2⟩ := q1
  subst ex
  obtain rfl : ov = Value.ref a := r1
  refine wpAny_bind (wpAny_standAt (wpAny_bind (wpAny_holding (setattr_ok I1 ea c n l r fun s3 I3 => ?_))))
  exact wpAny_release ⟨σ, _, I3, q2⟩
/-- a walk over a list or over a tuple -/
@[irreducible] def xSeq (K : PySem.W.Frag) (x : V) (R : It → Hp → Prop) (H1 : Hp) : Prop := ∃ a, x = .ref a ∧ (((∃ xs, SqL K H1 a xs) ∧ R (Itl K a) H1) ∨ ((∃ xs, SqT K H1 a xs) ∧ R (Itt K a) H1))
def iSeq (K : PySem.W.Frag) (tl : TE) : TI := fun σ H R => tl σ H fun x H1 => xSeq K x R H1
theorem pi_seq {tg l : Expr} {tl : TE} (hl : PE X l tl) : PI X tg l (iSeq X.K tl) := by
  refine ⟨fun pins s σ H R I h => ?_⟩
  refine thn (hl.run pins s σ H _ I h) fun v s1 ⟨x, H1, I1, r1, q1⟩ => ?_
  unfold xSeq at q1
  obtain ⟨a, e, q⟩ := q1
  subst e
  cases r1
  rcases q with ⟨⟨xs, hq⟩, q⟩ | ⟨⟨xs, hq⟩, q⟩
  · obtain ⟨its, rv, p, hz⟩ := I1.list hq
    refine wpAny_pyIter_list p.isList ?_
    refine ⟨s1.heap.objs.size, [s1.heap.objs.size], _, _, H1, rfl, I1.kept (t' := s1.toks) fun b o e => Heap.get?_push_of_some _ e, turn_list a _, ⟨_, Heap.get?_push_size _ rfl, rfl, rfl⟩, fun b hb => ?_, q⟩
    rw [List.mem_singleton.mp hb]
    exact I1.fpOk (Nat.le_refl _) (I1.hok.fresh (Nat.le_refl _))
  · obtain ⟨its, rv, p, hz⟩ := I1.tuple hq
    refine wpAny_pyIter_tuple (show s1.heap.IsTuple a its.toArray from p) ?_
    refine ⟨s1.heap.objs.size, [s1.heap.objs.size], _, _, H1, rfl, I1.kept (t' := s1.toks) fun b o e => Heap.get?_push_of_some _ e, turn_tuple a _, ⟨_, Heap.get?_push_size _ rfl, rfl, rfl⟩, fun b hb => ?_, q⟩
    rw [List.mem_singleton.mp hb]
    exact I1.fpOk (Nat.le_refl _) (I1.hok.fresh (Nat.le_refl _))
end
@[irreducible] def xSplit : V → List V → Hp → VK → Prop := fun x xs H Q => ∃ a b, x = .str a ∧ xs = [.str b] ∧ (b.length == 0) = false ∧ a.length + 2 ≤ sizeLine ∧ rNewStrs (Txt.split a b) H Q
@[irreducible] def xTupOf (K : PySem.W.Frag) : List V → Hp → VK → Prop := fun xs H Q => ∃ p ys, xs = [.ref p] ∧ ((SqL K H p ys ∧ ∀ l, H l = none → Q (.ref l) (upd H l (.tup ys))) ∨ (SqT K H p ys ∧ Q (.ref p) H))
@[irreducible] def xSortI : V → Hp → VK → Prop := fun x H Q => ∃ (a : Addr) (kvs : List (Key × V)) (ks : List Int), x = .ref a ∧ H a = some (.dK kvs) ∧ kvs.map (·.1) = ks.map Sum.inl ∧ ks.length < 64 ∧
  ∀ (ys : List Int) p, ys.Perm ks → ys.Pairwise (· ≤ ·) → H p = none → Q (.ref p) (upd H p (.lst (ys.map V.int)))
@[irreducible] def xInt1 : List V → Hp → VK → Prop := fun xs H Q => (∃ i, xs = [.int i] ∧ Q (.int i) H) ∨ ∃ k, xs = [.bl k] ∧ Q (.int (if k then 1 else 0)) H
def uSortI (td : TE) : TE := fun σ H Q => td σ H fun x H1 => xSortI x H1 Q
theorem ints_at : ∀ {us : List Value} {ks : List Int}, us.length = ks.length → (∀ (j : Nat) (v : Value), us[j]? = some v → ∃ (x : Int) (t : Tok), ks[j]? = some x ∧ v = Value.int x t) → IntsAre us ks
  | [], [], _, _ => .nil
  | [], _ :: _, h, _ => by simp at h
  | _ :: _, [], h, _ => by simp at h
  | u :: us, k :: ks, h, g => by
    obtain ⟨x, t, e1, e2⟩ := g 0 u rfl
    cases e1
    subst e2
    exact .cons k t (ints_at (by simpa using h) fun j v e => g (j + 1) v e)
section
variable {X : Cx}
theorem my_split {o e : Expr} {to te : TE} {apos pos : Pos} (ho : PE X o to) (he : PE X e te) (hs : starEach [e] X.env = [(false, eval e X.env)] := by rfl) (hbase : attributeBase o "split" X.env (eval o X.env) = eval o X.env := by rfl) (hline : (apos.endLine == pos.line) = true := by rfl) :
    PE X (.Call (.Attribute o "split" apos) [e] [] pos) (tM1 xSplit to te) := by
  unfold xSplit; exact pe_split ho he hs hbase hline
theorem my_tupleOf : CallR X (.type "tuple") (xTupOf X.K) := by unfold xTupOf; exact call_tuple_of
theorem my_int1 : CallR X (.type "int") xInt1 := by unfold xInt1; exact call_int1
theorem my_isS : CallR X (.builtin "isinstance") (rIsi X.K) := call_isi
theorem my_sortedKeysI {o : Expr} {td : TE} {p pos apos cpos : Pos} (hcalm : X.calm = true) (hg : Gl X "sorted") (hm : X.mg "sorted" = none) (ho : PE X o td)
    (hbase : attributeBase o "keys" X.env (eval o X.env) = eval o X.env := by rfl) (hline : (apos.endLine == cpos.line) = true := by rfl)
    (he : starEach [.Call (.Attribute o "keys" apos) [] [] cpos] X.env = (false, eval (.Call (.Attribute o "keys" apos) [] [] cpos) X.env) :: starEach [] X.env := by rfl) :
    PE X (.Call (.Name "sorted" p) [.Call (.Attribute o "keys" apos) [] [] cpos] [] pos) (uSortI td) := by
  refine ⟨fun pins s σ H Q I h => ?_⟩
  refine wpAny_Call_Name_kw (ld_blt I hg hm (u := .builtin "sorted") (by decide +kernel) ?_ (by decide) (by decide))
  refine PyProof.Rows.callWith_builtin1 ?_ he rfl
  rw [he]
  refine Calls.spliced_cons ?_
  refine wpAny_Call_method (T := "dict") (id := "dict.keys") hbase rfl hline F.plainAttrs_dict F.slot_dict_keys F.type_dict_keys (thn (ho.run pins s σ H _ I h) fun u s1 ⟨x, H1, I1, rx, q⟩ => ?_)
  unfold xSortI at q
  obtain ⟨a, kvs, ks, ex, hd, hks, h64, q⟩ := q
  subst ex
  obtain rfl : u = Value.ref a := rx
  obtain ⟨z, lo, vs, rel, dd⟩ := dk_of I1.hok hd
  refine ⟨dd.typeIs, dd.mapOf.noDict, ?_⟩
  obtain ⟨ep, hat⟩ := dd.dictAt
  have I2 : Inv X pins σ H1 { s1 with heap := s1.heap.push { cls := .type "dict_keys", data := .fields #[.ref a] } } := I1.kept (t' := s1.toks) fun b ob q => Heap.get?_push_of_some _ q
  refine method_meetsIn F.slot_dict_keys F.entry_dict_keys rfl (PySem.evalArgs_none ⟨rfl, dd.typeIs, F.args_dict_keys_1 _, _, PySem.W.kdl_meets_keys (mixKind X.prog X.w) a lo, ⟨vs, dd⟩, ?_⟩)
  refine Calls.spliced_nil ?_
  have hkeys : vs.map (·.1) = ks.map Sum.inl := rel.keys.symm.trans hks
  have hl : vs.length = ks.length := by
    have e := congrArg List.length hkeys
    rw [List.length_map, List.length_map] at e
    exact e
  have h16 : vs.length ≤ sizeLine := by rw [hl, sizeLine_eq]; omega
  have hat2 := hat.push { cls := .type "dict_keys", data := .fields #[.ref a] }
  refine Calls.call_function_entry PyProof.Rows.kind_sorted PyProof.Rows.plain_sorted PyProof.Rows.entry_sorted (PyProof.Rows.args_sorted1 _) ?_
  unfold Builtin.«sorted»
  refine wpAny_bind (m := checkCount "sorted" 1 1 _) (wpAny_pure ?_)
  refine wpAny_bind (PySem.W.kdu_collect (A := X.A.in1) (PySem.W.kdl_keys (knd := mixKind X.prog X.w) (kvs := vs) (ep := ep)) (I2.ok.hd hcalm) ⟨⟨_, Heap.get?_push_size _ rfl, rfl, rfl⟩, hat2⟩ h16 fun h' tk acc hk hacc => ?_)
  have hal : acc.toList.length = ks.length := by rw [Array.length_toList, hacc.1, hl]
  have hS : IntsAre acc.toList ks := ints_at hal fun j v e => by
    obtain ⟨k, x, e1, e2⟩ := hacc.2 j v (by rw [← Array.getElem?_toList]; exact e)
    have e3 : (vs.map (·.1))[j]? = some k := by rw [List.getElem?_map, e1]; all_goals rfl
    rw [hkeys, List.getElem?_map] at e3
    cases e4 : ks[j]? with
    | none => rw [e4] at e3; cases e3
    | some y =>
      rw [e4] at e3
      have e5 : Sum.inl y = k := Option.some.inj e3
      subst e5
      rcases keyIs_shape (k := Sum.inl y) (v := v) (show keyIs (Sum.inl y) v = true from e2) with ⟨i, t, q1, ev⟩ | ⟨x, t, q1, ev⟩
      · cases q1; exact ⟨y, t, rfl, ev⟩
      · cases q1
  have I3 : Inv X pins σ H1 { s1 with heap := h', toks := tk } := I2.kept (t' := tk) hk
  refine wpAny_bind (wpAny_newList ?_ (by rw [hal, sizeLine_eq]; omega))
  have hoL : (h'.push (seqObj "list" acc.toList.toArray 0)).get? h'.objs.size = some (seqObj "list" acc.toList.toArray 0) := Heap.get?_push_size _ rfl
  show wpAny _ _ _ _ _ { s1 with heap := h'.push (seqObj "list" acc.toList.toArray 0), toks := tk }
  refine wpAny_bind (wpAny_holding (wpAny_call_entry PyProof.Rows.slot_list_sort ⟨_, hoL, rfl⟩ PyProof.Rows.entry_list_sort
    (list_sort_tree (s := { s1 with heap := h'.push (seqObj "list" acc.toList.toArray 0), toks := tk }) hoL hS (by rw [hal]; exact h64) fun out ys g1 g2 g3 => ⟨_, rfl, ?_⟩)
    (PyProof.Rows.args_list_sort _)))
  obtain ⟨e', he'⟩ := PyProof.Rows.sortedHeap_at (vs := acc.toList) (out := out) hoL
  have hlen : (ys.map V.int).length ≤ sizeLine := by
    rw [List.length_map, g2.length_eq]
    exact Nat.le_trans (Nat.le_of_lt h64) (by decide)
  refine wpAny_pure ⟨_, rfl, .ref h'.objs.size, upd H1 h'.objs.size (.lst (ys.map V.int)), I3.laid (t' := tk) (fun b u e => ?_) (Nat.le_refl _)
    (show ObjOk X.prog X.w _ _ _ (.lst (ys.map V.int)) from ⟨hlen, out.toList, e', vals_of_ints g1, by rw [Array.toArray_toList]; exact he'⟩), rfl, q ys _ g2 g3 (I3.hok.fresh (Nat.le_refl _))⟩
  have hb : b < h'.objs.size := Heap.lt_size e
  rw [PyProof.Rows.sortedHeap_old (Nat.ne_of_lt hb) (by rw [size_push']; exact Nat.lt_succ_of_lt hb)]
  exact Heap.get?_push_of_some _ e
end
section
variable {K : PySem.W.Frag} {H0 H : Hp} {L : List Ent} {a : Addr} {Q : VK}
theorem st_seqL {R : It → Hp → Prop} {xs : List V} (h : SqL K H a xs) (k : R (Itl K a) H) : xSeq K (.ref a) R H := by unfold xSeq; exact ⟨a, rfl, .inl ⟨⟨xs, h⟩, k⟩⟩
theorem st_seqT {R : It → Hp → Prop} {xs : List V} (h : SqT K H a xs) (k : R (Itt K a) H) : xSeq K (.ref a) R H := by unfold xSeq; exact ⟨a, rfl, .inr ⟨⟨xs, h⟩, k⟩⟩
theorem st_int1b {b : Bool} (k : Q (.int (if b then 1 else 0)) H) : xInt1 [.bl b] H Q := by unfold xInt1; exact .inr ⟨b, rfl, k⟩
theorem st_ext {b : Addr} {xs zs : List V} (w : W H0 H L) (i j : Nat) (hi : L[i]? = some (a, .lst xs)) (hj : L[j]? = some (b, .lst zs)) (hz : xs.length + zs.length ≤ 100000) (k : ∀ H', W H0 H' (L.set i (a, .lst (xs ++ zs))) → Q .non H') : xExt (.ref a) [.ref b] H Q := by
  unfold xExt; exact ⟨a, b, xs, zs, rfl, rfl, w.get i hi, w.get j hj, szE hz, k _ (w.set i _ hi rfl)⟩
/-- a value for each pair of a list -/
theorem st_lcRw {g : TG} {tt : TT} {te : TE} {vs : List Nat} {σ : L2.St} {ys : List (Int × Int)} {zs : List V} (h : Int × Int → V) (w : W H0 H L) (j : Nat) (hj : L[j]? = some (a, .lst zs)) (r : RowsAt H zs ys) (hl : ys.length ≤ 60000)
    (hs : ∀ D q y P H' xs, W H0 H' ((D, .lst xs) :: L) → H' q = some (.tup [.int y.1, .int y.2]) → xAcc D P (h y) H' → LcTurn g tt te vs σ D P (.ref q) H')
    (k : ∀ D H', W H0 H' ((D, .lst (ys.map h)) :: L) → Q (.ref D) H') : xLc (Itl K a) g tt te vs σ H Q := by
  have hzy := r.len
  refine st_lcL (xs := zs) (fun D i H' => W H H' ((D, .lst ((ys.take i).map h)) :: L)) w.now (fun D H' w1 => w1) (fun D i H' _ w1 => SqL.of (w1.get (j + 1) (by simpa using hj))) ?_ ?_
  · rintro D i x H' hx w1
    obtain ⟨y, hy, q, rfl, hq⟩ := r.get i hx
    have e : (ys.take (i + 1)).map h = (ys.take i).map h ++ [h y] := by
      rw [List.take_succ, hy, List.map_append]; rfl
    refine hs D q y _ H' _ (w.tr w1) (w1.tp _ _ hq) ?_
    refine st_acc w1.now 0 rfl (szL (by rw [List.length_map, List.length_take]; omega)) fun H3 w3 => ?_
    show W H H3 ((D, .lst ((ys.take (i + 1)).map h)) :: L)
    rw [e]
    exact w1.tr w3
  · rintro D H' w1
    rw [hzy, List.take_length] at w1
    exact k D H' (w.tr w1)
theorem st_split {x y : Str} (w : W H0 H L) (hy : (y.length == 0) = false) (hx : x.length ≤ 16000000) (k : ∀ p H', W H0 H' ((p, .lst ((Txt.split x y).map V.str)) :: L) → Q (.ref p) H') : xSplit (.str x) [.str y] H Q := by
  unfold xSplit; exact ⟨x, y, rfl, rfl, hy, by rw [sizeLine_eq]; omega, fun p hp => k p _ (w.new _ hp)⟩
theorem st_tupOf {xs : List V} (w : W H0 H L) (i : Nat) (h : L[i]? = some (a, .lst xs)) (k : ∀ p H', W H0 H' ((p, .tup xs) :: L) → Q (.ref p) H') : xTupOf K [.ref a] H Q := by
  unfold xTupOf; exact ⟨a, xs, rfl, .inl ⟨SqL.of (w.get i h), fun p hp => k p _ (w.new _ hp)⟩⟩
theorem st_sortI {kvs : List (Key × V)} {ks : List Int} (w : W H0 H L) (i : Nat) (h : L[i]? = some (a, .dK kvs)) (hk : kvs.map (·.1) = ks.map Sum.inl) (hl : ks.length < 64)
    (k : ∀ (ys : List Int) p H', ys.Perm ks → ys.Pairwise (· ≤ ·) → W H0 H' ((p, .lst (ys.map V.int)) :: L) → Q (.ref p) H') : xSortI (.ref a) H Q := by
  unfold xSortI; exact ⟨a, kvs, ks, rfl, w.get i h, hk, hl, fun ys p h1 h2 hp => k ys p _ h1 h2 (w.new _ hp)⟩
end
/-! a dict of pairs -/
@[irreducible] def xDictP (K : PySem.W.Frag) : List V → Hp → VK → Prop := fun xs H Q => ∃ (a : Addr) (ps : List Addr) (kvs : List (Key × V)), xs = [.ref a] ∧ SqL K H a (ps.map V.ref) ∧ Paired (fun p kv => SqT K H p [kV kv.1, kv.2]) ps kvs ∧ ∀ p, H p = none → Q (.ref p) (upd H p (.dK (mergeK [] kvs)))
theorem my_dictP {X : Cx} (hc : X.calm = true) : CallR X (.type "dict") (xDictP X.K) := by unfold xDictP; exact call_dictP hc
def PrsAt (H : Hp) : List V → List (Key × V) → Prop
  | [], [] => True
  | v :: vs, r :: rs => (∃ q, v = .ref q ∧ H q = some (.tup [kV r.1, r.2])) ∧ PrsAt H vs rs
  | _, _ => False
theorem PrsAt.mono {H H' : Hp} (t : Tps H H') : ∀ {vs : List V} {rs : List (Key × V)}, PrsAt H vs rs → PrsAt H' vs rs
  | [], [], _ => True.intro
  | v :: vs, r :: rs, ⟨⟨q, e, h⟩, b⟩ => ⟨⟨q, e, t _ _ h⟩, PrsAt.mono t b⟩
  | [], _ :: _, h => h.elim
  | _ :: _, [], h => h.elim
theorem PrsAt.len {H : Hp} : ∀ {vs : List V} {rs : List (Key × V)}, PrsAt H vs rs → vs.length = rs.length
  | [], [], _ => rfl
  | v :: vs, r :: rs, ⟨_, b⟩ => by rw [List.length_cons, List.length_cons, PrsAt.len b]
  | [], _ :: _, h => h.elim
  | _ :: _, [], h => h.elim
theorem PrsAt.snoc {H : Hp} {v : V} {r : Key × V} : ∀ {vs : List V} {rs : List (Key × V)}, PrsAt H vs rs → (∃ q, v = .ref q ∧ H q = some (.tup [kV r.1, r.2])) → PrsAt H (vs ++ [v]) (rs ++ [r])
  | [], [], _, h => ⟨h, True.intro⟩
  | v :: vs, r :: rs, ⟨a, b⟩, h => ⟨a, PrsAt.snoc b h⟩
  | [], _ :: _, h, _ => h.elim
  | _ :: _, [], h, _ => h.elim
theorem PrsAt.pairs (K : PySem.W.Frag) {H : Hp} : ∀ {vs : List V} {rs : List (Key × V)}, PrsAt H vs rs → ∃ ps : List Addr, vs = ps.map V.ref ∧ Paired (fun p (kv : Key × V) => SqT K H p [kV kv.1, kv.2]) ps rs
  | [], [], _ => ⟨[], rfl, .nil⟩
  | v :: vs, r :: rs, ⟨⟨q, e, h⟩, b⟩ => by
    obtain ⟨ps, e1, e2⟩ := PrsAt.pairs K b
    subst e e1
    exact ⟨q :: ps, rfl, .cons (SqT.of h) e2⟩
  | [], _ :: _, h => h.elim
  | _ :: _, [], h => h.elim
section
variable {K : PySem.W.Frag} {H0 H : Hp} {L : List Ent} {a : Addr} {Q : VK} {g : TG} {tt : TT} {te : TE} {vs : List Nat} {σ : L2.St}
theorem st_dictP {xs : List V} {kvs : List (Key × V)} (w : W H0 H L) (i : Nat) (hi : L[i]? = some (a, .lst xs)) (r : PrsAt H xs kvs) (k : ∀ p H', W H0 H' ((p, .dK (mergeK [] kvs)) :: L) → Q (.ref p) H') : xDictP K [.ref a] H Q := by
  obtain ⟨ps, e, hp⟩ := r.pairs K
  subst e
  unfold xDictP
  exact ⟨a, ps, _, rfl, SqL.of (w.get i hi), hp, fun p hn => k p _ (w.new _ hn)⟩
/-- pairs of a key and a value, made over a range -/
theorem st_lcPr {lo : Int} {n : Nat} (h : Nat → Key × V) (w : W H0 H L) (hn : n ≤ 60000)
    (hs : ∀ D i P H' xs, i < n → W H0 H' ((D, .lst xs) :: L) → Tps H H' → xNew (.tup [kV (h i).1, (h i).2]) H' (fun v H4 => xAcc D P v H4) → LcTurn g tt te vs σ D P (.int (lo + (i : Int))) H')
    (k : ∀ D H' xs, W H0 H' ((D, .lst xs) :: L) → PrsAt H' xs ((List.range n).map h) → Tps H H' → Q (.ref D) H') : xLc (Itr lo n) g tt te vs σ H Q := by
  refine st_lcR (fun D i H' => ∃ xs, W H H' ((D, .lst xs) :: L) ∧ PrsAt H' xs ((List.range i).map h)) w.now (fun D H' w1 => ⟨[], w1, True.intro⟩) ?_ ?_
  · rintro D i H' hi ⟨xs, w1, r1⟩
    refine hs D i _ H' xs hi (w.tr w1) w1.tp ?_
    refine st_new w1.now fun q2 H2 w2 => ?_
    have hq2 := w2.get 0 rfl
    have hlen : xs.length = i := by rw [r1.len, List.length_map, List.length_range]
    refine st_acc w2.now 1 rfl (szL (by omega)) fun H3 w3 => ?_
    refine ⟨xs ++ [V.ref q2], w1.tr (w2.tr w3).drop1, ?_⟩
    rw [List.range_succ, List.map_append]
    exact ((r1.mono w2.tp).mono w3.tp).snoc ⟨q2, rfl, w3.tp _ _ hq2⟩
  · rintro D H' ⟨xs, w1, r1⟩
    exact k D H' xs (w.tr w1) r1 w1.tp
/-- a value for each item of a list or of a tuple -/
theorem st_lcMap {α : Type} {zs : List α} (f h : α → V) (w : W H0 H L) (hl : zs.length ≤ 60000)
    (hs : ∀ D x P H' xs, x ∈ zs → W H0 H' ((D, .lst xs) :: L) → Tps H H' → xAcc D P (h x) H' → LcTurn g tt te vs σ D P (f x) H')
    (k : ∀ D H', W H0 H' ((D, .lst (zs.map h)) :: L) → Q (.ref D) H') :
    (H a = some (.tup (zs.map f)) → xLc (Itt K a) g tt te vs σ H Q) ∧ ((∃ j : Nat, L[j]? = some (a, .lst (zs.map f))) → xLc (Itl K a) g tt te vs σ H Q) := by
  have body : ∀ D i x H', (zs.map f)[i]? = some x → W H H' ((D, .lst ((zs.take i).map h)) :: L) → LcTurn g tt te vs σ D (fun H' => W H H' ((D, .lst ((zs.take (i + 1)).map h)) :: L)) x H' := by
    intro D i x H' hx w1
    rw [List.getElem?_map] at hx
    obtain ⟨y, hy, rfl⟩ := Option.map_eq_some_iff.mp hx
    refine hs D y _ H' _ (List.mem_of_getElem? hy) (w.tr w1) w1.tp ?_
    refine st_acc w1.now 0 rfl (szL (by rw [List.length_map, List.length_take]; omega)) fun H3 w3 => ?_
    show W H H3 ((D, .lst ((zs.take (i + 1)).map h)) :: L)
    rw [List.take_succ, hy, List.map_append]
    exact w1.tr w3
  refine ⟨fun ht => ?_, fun ⟨j, hj⟩ => ?_⟩
  · refine st_lcT (xs := zs.map f) (fun D i H' => W H H' ((D, .lst ((zs.take i).map h)) :: L)) w.now (fun D H' w1 => w1) (fun D i H' _ w1 => SqT.of (w1.tp _ _ ht)) (fun D i x H' hx w1 => body D i x H' hx w1) ?_
    rintro D H' w1
    rw [List.length_map, List.take_length] at w1
    exact k D H' (w.tr w1)
  · refine st_lcL (xs := zs.map f) (fun D i H' => W H H' ((D, .lst ((zs.take i).map h)) :: L)) w.now (fun D H' w1 => w1) (fun D i H' _ w1 => SqL.of (w1.get (j + 1) (by simpa using hj))) (fun D i x H' hx w1 => body D i x H' hx w1) ?_
    rintro D H' w1
    rw [List.length_map, List.take_length] at w1
    exact k D H' (w.tr w1)
end
theorem merge_tunes : ∀ (rest done : List Str), mergeK (tunesK done) (tunesF done.length rest) = tunesK (done ++ rest)
  | [], done => by rw [List.append_nil]; rfl
  | x :: r, done => by
    show mergeK (putK (tunesK done) (Sum.inl ((done.length : Int) + 1)) (.str x)) (tunesF (done.length + 1) r) = _
    rw [tunesK_put]
    have := merge_tunes r (done ++ [x])
    rw [List.length_append, List.append_assoc] at this
    exact this
end TR
namespace TR
open PySem PySem.Spec PyProof.Rows L2
/-! ### list(zip(xs, ys)) -/
def ZSt (a b z TI TO i1 i2 S : Addr) (i : Nat) (h : Heap) : Prop :=
  IsPair h TI (.ref i1) (.ref i2) ∧ h.IsListIter i1 a i ∧ h.IsListIter i2 b i ∧ (∃ o, h.get? TO = some o) ∧
  ((IsZip h z TI TO .none ∧ ∃ x y, IsPair h TO x y) ∨ ∃ T f oT, IsZipHeld h z TI TO T f ∧ h.get? T = some oT ∧ T ≠ z ∧ T ≠ i1 ∧ T ≠ i2 ∧ T ≠ S)
theorem ZSt.keep {a b z TI TO i1 i2 S : Addr} {i : Nat} {h h' : Heap} (st : ZSt a b z TI TO i1 i2 S i h) (hz : z ≠ S) (hTI : TI ≠ S) (hTO : TO ≠ S) (h1 : i1 ≠ S) (h2 : i2 ≠ S) (k : ∀ c o, c ≠ S → h.get? c = some o → h'.get? c = some o) : ZSt a b z TI TO i1 i2 S i h' := by
  obtain ⟨e1, e2, e3, ⟨oO, eO⟩, e4⟩ := st
  refine ⟨k _ _ hTI e1, e2.at fun o q => k _ o h1 q, e3.at fun o q => k _ o h2 q, ⟨oO, k _ _ hTO eO⟩, ?_⟩
  rcases e4 with ⟨e4, x, y, e5⟩ | ⟨T, f, oT, e4, e5, n1, n2, n3, n4⟩
  · exact .inl ⟨k _ _ hz e4, x, y, k _ _ hTO e5⟩
  · exact .inr ⟨T, f, oT, k _ _ hz e4, k _ _ n4 e5, n1, n2, n3, n4⟩
def zipQ (S : Addr) (Q : VK) : List (V × V) → List V → Hp → Prop
  | [], _, H => Q (.ref S) H
  | p :: r, acc, H => ∀ q, H q = none → zipQ S Q r (acc ++ [.ref q]) (upd (upd H q (.tup [p.1, p.2])) S (.lst (acc ++ [.ref q])))
theorem zip_loop {X : Cx} (hc : X.calm = true) {pins : List (Addr × Obj)} {σ : L2.St} {A : Around} (hA : A.handled = none) {Q : VK} {R : Result → Shared → Prop} {res : Value} {a b z TI TO i1 i2 S : Addr} (D : ZipApart z TI TO i1 i2 a b) (haS : a ≠ S) (hbS : b ≠ S) {xs ys : List V} (hl : xs.length = ys.length) (hz : xs.length ≤ 60000)
    (hR : ∀ s' H', Inv X pins σ H' s' → Q (.ref S) H' → R (.ok (.ret res)) s') :
    ∀ (k i : Nat) (s : Shared) (H : Hp) (acc : List V), xs.length - i = k → i ≤ xs.length → Inv X pins σ H s → (∀ c ∈ [z, TI, TO, i1, i2], FpOk X pins H c) → ZSt a b z TI TO i1 i2 S i s.heap → H a = some (.lst xs) → H b = some (.lst ys) → H S = some (.lst acc) → acc.length = i →
      zipQ S Q ((xs.zip ys).drop i) acc H → codeAny (model X.prog X.w) A (.builtin "list.extend.loop" ⟨[.ref S, .ref z, res], []⟩) R s
  | 0, i, s, H, acc, hk, hi, I, hf, st, ha, hb, hS, hacc, q => by
    have hin : i = xs.length := by omega
    subst hin
    obtain ⟨its, rv, p, _⟩ := I.list (SqL.of ha)
    obtain ⟨its2, rv2, p2, _⟩ := I.list (SqL.of hb)
    have l1 := rv.length
    have l2 := rv2.length
    have he : its.toArray[xs.length]? = none ∨ its2.toArray[xs.length]? = none := .inl (by simp; omega)
    obtain ⟨hTI, h1, h2, _, hzz⟩ := st
    rw [List.drop_eq_nil_of_le (by rw [List.length_zip]; omega)] at q
    refine codeAny_builtin F.entry_extend_loop ?_
    rw [Around.under_plainId F.plain_extend_loop _]
    show wpAny _ A.in1 (pyNext (.ref z) >>= _) _ _ s
    rcases hzz with ⟨hzz, x, y, hTO⟩ | ⟨T, f, oT, hzz, hT, n1, n2, n3, n4⟩
    · refine wpAny_bind (wpAny_pyNext_zip_end hA D hzz hTI hTO h1 h2 p.isList p2.isList he fun h' hk => ?_)
      have I1 : Inv X pins σ H { s with heap := h' } := I.turnedL (t' := s.toks) (ch := [z, TI, TO, i1, i2]) (fun c o hb q => hk c o (fun q' => hb (by simp [q'])) (fun q' => hb (by simp [q'])) (fun q' => hb (by simp [q'])) (fun q' => hb (by simp [q'])) q) hf
      exact wpAny_pure (hR _ H I1 q)
    · refine wpAny_bind (wpAny_pyNext_zip_end_held hA D hzz hT hTI h1 h2 p.isList p2.isList he fun h' hk => ?_)
      have I1 : Inv X pins σ H { s with heap := h' } := I.turnedL (t' := s.toks) (ch := [z, TI, TO, i1, i2]) (fun c o hb q => hk c o (fun q' => hb (by simp [q'])) (fun q' => hb (by simp [q'])) (fun q' => hb (by simp [q'])) q) hf
      exact wpAny_pure (hR _ H I1 q)
  | k + 1, i, s, H, acc, hk, hi, I, hf, st, ha, hb, hS, hacc, q => by
    have hlt : i < xs.length := by omega
    have hlt2 : i < ys.length := by omega
    obtain ⟨its, rv, p, _⟩ := I.list (SqL.of ha)
    obtain ⟨its2, rv2, p2, _⟩ := I.list (SqL.of hb)
    obtain ⟨u, hu, ru⟩ := rv.get (List.getElem?_eq_getElem hlt)
    obtain ⟨u2, hu2, ru2⟩ := rv2.get (List.getElem?_eq_getElem hlt2)
    have edr : (xs.zip ys).drop i = (xs[i], ys[i]) :: (xs.zip ys).drop (i + 1) := by
      rw [List.drop_eq_getElem_cons (by rw [List.length_zip]; omega), List.getElem_zip]
    rw [edr] at q
    have nS : ∀ c ∈ [z, TI, TO, i1, i2], c ≠ S := fun c hc e => by
      have := (hf c hc).1
      rw [e, hS] at this
      cases this
    have nz := nS z (by simp)
    have nTI := nS TI (by simp)
    have nTO := nS TO (by simp)
    have n1 := nS i1 (by simp)
    have n2 := nS i2 (by simp)
    have hST : S ≠ s.heap.objs.size := fun e => by
      have := I.hok.fresh (Nat.le_refl s.heap.objs.size)
      rw [← e, hS] at this
      cases this
    have haT : a ≠ s.heap.objs.size := fun e => by
      have := I.hok.fresh (Nat.le_refl s.heap.objs.size)
      rw [← e, ha] at this
      cases this
    have hbT : b ≠ s.heap.objs.size := fun e => by
      have := I.hok.fresh (Nat.le_refl s.heap.objs.size)
      rw [← e, hb] at this
      cases this
    obtain ⟨hTI, h1, h2, ⟨oO, eO⟩, hzz⟩ := st
    have lt : ∀ {c o}, s.heap.get? c = some o → s.heap.objs.size ≠ c := fun e => Nat.ne_of_gt (Heap.lt_size e)
    have m1 : s.heap.objs.size ≠ i1 := let ⟨_, e, _⟩ := h1; lt e
    have m2 : s.heap.objs.size ≠ i2 := let ⟨_, e, _⟩ := h2; lt e
    have mz : s.heap.objs.size ≠ z := by
      rcases hzz with ⟨e, _⟩ | ⟨_, _, _, e, _⟩
      · exact lt e
      · exact lt e
    have mall : ∀ c ∈ [z, TI, TO, i1, i2], c ≠ s.heap.objs.size := fun c hcm => by
      have e' : c = z ∨ c = TI ∨ c = TO ∨ c = i1 ∨ c = i2 := by simpa using hcm
      rcases e' with q | q | q | q | q
      · rw [q]; exact mz.symm
      · rw [q]; exact (lt hTI).symm
      · rw [q]; exact (lt eO).symm
      · rw [q]; exact m1.symm
      · rw [q]; exact m2.symm
    -- what goes on behind the next one
    have go : ∀ h', IsPair h' s.heap.objs.size u u2 → ZSt a b z TI TO i1 i2 S (i + 1) h' → (∀ c o, c ∉ [z, TI, TO, i1, i2] → s.heap.get? c = some o → h'.get? c = some o) →
        wpAny (model X.prog X.w) A.in1 (updateSeq S (·.push (.ref s.heap.objs.size)) >>= fun _ => again (.builtin "list.extend.loop" ⟨[.ref S, .ref z, res], []⟩))
          (fun fin s' => match fin with | .done f => R (.ok f) s' | .again c' => c'.quiet = true ∧ codeAny (model X.prog X.w) A c' R s') (fun e s' => R (.error e) s') { s with heap := h' } := by
      intro h' hp st' hk'
      have new : ObjOk X.prog X.w (upd H s.heap.objs.size (.tup [xs[i], ys[i]])) h' s.heap.objs.size (.tup [xs[i], ys[i]]) :=
        ⟨by show 2 ≤ sizeLine; decide, [u, u2], .cons ru (.cons ru2 .nil), ⟨_, hp, rfl, _, rfl⟩⟩
      have I1 : Inv X pins σ (upd H s.heap.objs.size (.tup [xs[i], ys[i]])) { s with heap := h' } := I.turnedNew (t' := s.toks) (ch := [z, TI, TO, i1, i2]) hk' hf (Nat.le_refl _) new
      have hS1 : upd H s.heap.objs.size (.tup [xs[i], ys[i]]) S = some (.lst acc) := by rw [upd_ne hST]; exact hS
      obtain ⟨zz, itsS, nn, rS, lS, eS⟩ := I1.lstM hS1
      have I2 := I1.lset (t' := s.toks) (f := (·.push (.ref s.heap.objs.size))) (its' := itsS ++ [.ref s.heap.objs.size]) (ys := acc ++ [.ref s.heap.objs.size]) hS1 eS (by simp) (rS.append (.cons (show RelV (.ref s.heap.objs.size) (Value.ref s.heap.objs.size) from rfl) .nil)) (by rw [List.length_append, List.length_singleton, sizeLine_eq]; omega)
      refine wpAny_bind (wpAny_updateSeq eS rfl ?_ (by rw [List.size_toArray, ← lS, sizeLine_eq]; omega) (by rw [Array.size_push, List.size_toArray, ← lS, sizeLine_eq]; omega))
      refine wpAny_pure ⟨plainId_quiet F.plain_extend_loop _, zip_loop hc hA D haS hbS hl hz hR k (i + 1) _ _ (acc ++ [.ref s.heap.objs.size]) (by omega) hlt I2 (fun c hcm => ?_) ?_ ?_ ?_ ?_ ?_ ?_⟩
      · have f0 := hf c hcm
        refine ⟨?_, f0.2⟩
        rw [upd_ne (nS c hcm), upd_ne (mall c hcm)]
        exact f0.1
      · exact st'.keep nz nTI nTO n1 n2 fun c o hcS e => (Heap.get?_update_other _ _ (Ne.symm hcS)).trans e
      · rw [upd_ne haS, upd_ne haT]; exact ha
      · rw [upd_ne hbS, upd_ne hbT]; exact hb
      · exact upd_same ..
      · rw [List.length_append, hacc]; rfl
      · exact q _ (I.hok.fresh (Nat.le_refl _))
    refine codeAny_builtin F.entry_extend_loop ?_
    rw [Around.under_plainId F.plain_extend_loop _]
    show wpAny _ A.in1 (pyNext (.ref z) >>= _) _ _ s
    rcases hzz with ⟨hzz, x, y, hTO⟩ | ⟨T, f, oT, hzz, hT, r1, r2, r3, r4⟩
    · refine wpAny_bind (wpAny_pyNext_zip_item D hzz hTI hTO h1 h2 p.isList p2.isList (x := u) (y := u2) (by simpa using hu) (by simpa using hu2) fun h' z' TO' h1' h2' hT hsz hk => ?_)
      exact go h' hT ⟨hk _ _ D.TIz D.TITO D.TIi1 D.TIi2 hTI, h1', h2', ⟨_, TO'⟩, .inr ⟨s.heap.objs.size, false, _, z', hT, lt hzz, m1, m2, fun e => hST e.symm⟩⟩
        (fun c o hb q => hk c o (fun q' => hb (by simp [q'])) (fun q' => hb (by simp [q'])) (fun q' => hb (by simp [q'])) (fun q' => hb (by simp [q'])) q)
    · refine wpAny_bind (wpAny_pyNext_zip_item_held D hzz hT hTI h1 h2 p.isList p2.isList (x := u) (y := u2) (by simpa using hu) (by simpa using hu2) fun h' z' h1' h2' hT' hsz hk => ?_)
      exact go h' hT' ⟨hk _ _ D.TIz D.TIi1 D.TIi2 hTI, h1', h2', ⟨oO, hk _ _ D.TOz D.TOi1 D.TOi2 eO⟩, .inr ⟨T, true, oT, z', hk _ _ r1 r2 r3 hT, r1, r2, r3, r4⟩⟩
        (fun c o hb q => hk c o (fun q' => hb (by simp [q'])) (fun q' => hb (by simp [q'])) (fun q' => hb (by simp [q'])) q)
theorem zip_no_len : typeLookup (.type "zip") "__len__" = pure none := by rw [typeLookup_type, builtinLookup_eq_fast]; kernel_rfl
theorem zip_no_hint : typeLookup (.type "zip") "__length_hint__" = pure none := by rw [typeLookup_type, builtinLookup_eq_fast]; kernel_rfl
theorem call_list_zip {X : Cx} (hc : X.calm = true) {pins : List (Addr × Obj)} {σ : L2.St} {A : Around} (hA : A.handled = none) {Q : VK} {E : Value → Shared → Prop} {s : Shared} {H : Hp} {a b z TI TO i1 i2 : Addr} (D : ZipApart z TI TO i1 i2 a b) {xs ys : List V} (hl : xs.length = ys.length) (hz : xs.length ≤ 60000)
    (I : Inv X pins σ H s) (hf : ∀ c ∈ [z, TI, TO, i1, i2], FpOk X pins H c) (hzz : IsZip s.heap z TI TO .none) (hTI : IsPair s.heap TI (.ref i1) (.ref i2)) (hTO : ∃ x y, IsPair s.heap TO x y) (h1 : s.heap.IsListIter i1 a 0) (h2 : s.heap.IsListIter i2 b 0)
    (ha : H a = some (.lst xs)) (hb : H b = some (.lst ys)) (q : ∀ S, H S = none → zipQ S Q (xs.zip ys) [] (upd H S (.lst []))) : wpAny (model X.prog X.w) A (call (.type "list") [.ref z]) (EP X pins σ Q) E s := by
  have lt : ∀ {c o}, s.heap.get? c = some o → c ≠ s.heap.objs.size := fun e => Nat.ne_of_lt (Heap.lt_size e)
  have m1 : i1 ≠ s.heap.objs.size := let ⟨_, e, _⟩ := h1; lt e
  have m2 : i2 ≠ s.heap.objs.size := let ⟨_, e, _⟩ := h2; lt e
  obtain ⟨x0, y0, hTO⟩ := hTO
  have hfr := I.hok.fresh (Nat.le_refl s.heap.objs.size)
  have haS : a ≠ s.heap.objs.size := fun e => by rw [← e, ha] at hfr; cases hfr
  have hbS : b ≠ s.heap.objs.size := fun e => by rw [← e, hb] at hfr; cases hfr
  refine callType_codes (Q₁ := fun obj s₁ => obj = .ref s.heap.objs.size ∧ s₁ = { s with heap := s.heap.push { cls := .type "list", data := .seq #[] } }) F.called_list (F.typeCall_list_1 _) F.entry_list_init
    (code_list_new _ ⟨rfl, rfl⟩) fun obj s₁ h₁ => ?_
  obtain ⟨rfl, rfl⟩ := h₁
  have hS : (s.heap.push { cls := .type "list", data := .seq #[] }).get? s.heap.objs.size = some { cls := .type "list", data := .seq #[] } := Heap.get?_push_size _ rfl
  refine ⟨⟨_, hS, rfl⟩, F.args_list_init_2 _ _, ?_⟩
  show wpAny _ A.in1.in1 (do let old ← Builtin.List.listItems (.ref s.heap.objs.size); Builtin.List.listUpdate (.ref s.heap.objs.size) (fun _ => #[]); letGo old.toList.reverse; Builtin.List.listExtendWith (.ref s.heap.objs.size) (.ref z) .none) _ _ _
  refine wpAny_bind ?_
  unfold Builtin.List.listItems
  refine wpAny_bind (wpAny_seqItems hS rfl (wpAny_pure ?_))
  show wpAny _ A.in1.in1 (updateSeq s.heap.objs.size (fun _ => #[]) >>= fun _ => letGo (#[] : Array Value).toList.reverse >>= fun _ => Builtin.List.listExtendWith (.ref s.heap.objs.size) (.ref z) .none) _ _ _
  refine wpAny_bind (wpAny_updateSeq hS rfl ?_)
  have hS₂ := Heap.get?_update_self (Obj.mapSeq (fun _ => (#[] : Array Value))) hS rfl
  generalize hh2 : (s.heap.push { cls := .type "list", data := .seq #[] }).update s.heap.objs.size (Obj.mapSeq (fun _ => (#[] : Array Value))) = hp2 at hS₂
  have oth2 : ∀ c o, s.heap.get? c = some o → hp2.get? c = some o := fun c o e => by
    rw [← hh2]
    exact (Heap.get?_update_other _ _ (Ne.symm (lt e))).trans (Heap.get?_push_of_some _ e)
  refine wpAny_bind (wpAny_letGo ?_)
  have hz2 : IsZip hp2 z TI TO .none := oth2 _ _ hzz
  have hSz : s.heap.objs.size ≠ z := (lt hzz).symm
  unfold Builtin.List.listExtendWith
  refine wpAny_bind (wpAny_typeOf (T := "zip") ⟨_, hz2, rfl⟩ ?_)
  have e1 : Builtin.List.listSameRef (.ref s.heap.objs.size) (.ref z) = false := by simp [Builtin.List.listSameRef, hSz]
  have e2 : (Value.type "zip" == Value.type "list") = false := by decide
  have e3 : (Value.type "zip" == Value.type "tuple") = false := by decide
  simp only [e1, e2, e3, Bool.or_false, Bool.false_eq_true, if_false]
  refine wpAny_bind (wpAny_pyIter_zip hz2 ?_)
  refine wpAny_bind (wpAny_holding ?_)
  unfold Builtin.List.listLengthHint
  refine wpAny_bind (wpAny_specialOf (T := "zip") ⟨_, hz2, rfl⟩ zip_no_len ?_)
  show wpAny _ A.in1.in1 (specialOf (Value.ref z) (Str.ofString "__length_hint__") >>= _) _ _ _
  refine wpAny_bind (wpAny_specialOf (T := "zip") ⟨_, hz2, rfl⟩ zip_no_hint ?_)
  refine wpAny_pure ?_
  show wpAny _ A.in1.in1 (rule "list.extend.makes-room" >>= fun _ => Builtin.List.listTouch (.ref s.heap.objs.size) >>= fun _ =>
    again (.builtin "list.extend.loop" ⟨[.ref s.heap.objs.size, .ref z, .none], []⟩)) _ _ _
  refine wpAny_bind (wpAny_rule ?_)
  refine wpAny_bind ?_
  show wpAny _ A.in1.in1 (updateSeq s.heap.objs.size (·.push .none) >>= fun _ => updateSeq s.heap.objs.size (·.pop)) _ _ _
  refine wpAny_bind (wpAny_updateSeq hS₂ rfl ?_)
  have hS₃ := Heap.get?_update_self (Obj.mapSeq (·.push Value.none)) hS₂ rfl
  refine wpAny_updateSeq (hz := by seq_fits) hS₃ rfl ?_
  have hS₄ := Heap.get?_update_self (Obj.mapSeq (·.pop)) hS₃ rfl
  have oth : ∀ c o, s.heap.get? c = some o → ((hp2.update s.heap.objs.size (Obj.mapSeq (·.push Value.none))).update s.heap.objs.size (Obj.mapSeq (·.pop))).get? c = some o :=
    fun c o e => (Heap.get?_update_other _ _ (Ne.symm (lt e))).trans ((Heap.get?_update_other _ _ (Ne.symm (lt e))).trans (oth2 c o e))
  generalize (hp2.update s.heap.objs.size (Obj.mapSeq (·.push Value.none))).update s.heap.objs.size (Obj.mapSeq (·.pop)) = hp4 at hS₄ oth
  have I4 : Inv X pins σ (upd H s.heap.objs.size (.lst [])) { s with heap := hp4 } := I.laid (t' := s.toks) oth (Nat.le_refl _) (show ObjOk X.prog X.w _ _ _ (.lst []) from ⟨Nat.zero_le _, [], _, .nil, hS₄⟩)
  refine wpAny_pure ⟨plainId_quiet F.plain_extend_loop _, zip_loop hc (A := A.in1) hA D haS hbS hl hz (Q := Q) (res := .none) (fun s' H' I' q' => ?_) xs.length 0 _ _ [] (by omega) (Nat.zero_le _) I4 (fun c hcm => ?_) ?_ ?_ ?_ ?_ rfl ?_⟩
  · exact ⟨rfl, .ref s.heap.objs.size, H', I', rfl, q'⟩
  · have f0 := hf c hcm
    refine ⟨?_, f0.2⟩
    have e' : c = z ∨ c = TI ∨ c = TO ∨ c = i1 ∨ c = i2 := by simpa using hcm
    have hcS : c ≠ s.heap.objs.size := by
      rcases e' with q | q | q | q | q
      · rw [q]; exact hSz.symm
      · rw [q]; exact lt hTI
      · rw [q]; exact lt hTO
      · rw [q]; exact m1
      · rw [q]; exact m2
    rw [upd_ne hcS]
    exact f0.1
  · exact ⟨oth _ _ hTI, h1.at fun o e => oth _ o e, h2.at fun o e => oth _ o e, ⟨_, oth _ _ hTO⟩, .inl ⟨oth _ _ hzz, x0, y0, oth _ _ hTO⟩⟩
  · rw [upd_ne haS]; exact ha
  · rw [upd_ne hbS]; exact hb
  · exact upd_same ..
  · rw [List.drop_zero]
    exact q _ hfr
@[irreducible] def xListZip (vs : List V) (H : Hp) (Q : VK) : Prop := ∃ a b xs ys, vs = [.ref a, .ref b] ∧ H a = some (.lst xs) ∧ H b = some (.lst ys) ∧ xs.length = ys.length ∧ xs.length ≤ 60000 ∧ ∀ S, H S = none → zipQ S Q (xs.zip ys) [] (upd H S (.lst []))
def uListZip (ta : TA) : TE := fun σ H Q => ta σ H fun vs H1 => xListZip vs H1 Q
theorem my_listZip {X : Cx} {e e2 : Expr} {ta : TA} {p p2 pos pos2 : Pos} (hc : X.calm = true) (hg : Gl X "list") (hm : X.mg "list" = none) (hg2 : Gl X "zip") (hm2 : X.mg "zip" = none) (ha : L2.PA X [e, e2] ta)
    (na : starEach [.Call (.Name "zip" p2) [e, e2] [] pos2] X.env = (false, eval (.Call (.Name "zip" p2) [e, e2] [] pos2) X.env) :: starEach [] X.env := by rfl)
    (hs : starEach [e, e2] X.env = (false, eval e X.env) :: starEach [e2] X.env := by rfl) (hpl : (backTo pos2 (starEach [e2] X.env)).any (·.1) = false := by rfl) :
    PE X (.Call (.Name "list" p) [.Call (.Name "zip" p2) [e, e2] [] pos2] [] pos) (uListZip ta) := by
  refine ⟨fun pins s σ H Q I h => ?_⟩
  refine Call_ (ld_blt I hg hm boot_list (PyProof.Rows.callWith_type1 (args_cons ?_ na) na))
  refine Call_ (ld_blt I hg2 hm2 PyProof.Rows.boot_zip (PyProof.Rows.callWith_type1 (thn (ha.run pos2 pins s σ H _ I h) fun us s1 ⟨vs, H1, I1, r1, q1⟩ => ?_) hs hpl))
  unfold xListZip at q1
  obtain ⟨a, b, xs, ys, ex, hqx, hqy, hl, hz, q⟩ := q1
  subst ex
  cases r1 with
  | cons r rr =>
    cases rr with
    | cons r' rr =>
      cases rr
      cases r
      cases r'
      have fresh5 : ∀ c, c ∈ [s1.heap.objs.size + 4, s1.heap.objs.size + 2, s1.heap.objs.size + 3, s1.heap.objs.size, s1.heap.objs.size + 1] → FpOk X pins H1 c := fun c hcm => by
        have e' : c = s1.heap.objs.size + 4 ∨ c = s1.heap.objs.size + 2 ∨ c = s1.heap.objs.size + 3 ∨ c = s1.heap.objs.size ∨ c = s1.heap.objs.size + 1 := by simpa using hcm
        have hle : s1.heap.objs.size ≤ c := by
          rcases e' with z | z | z | z | z
          · rw [z]; exact Nat.le_add_right _ _
          · rw [z]; exact Nat.le_add_right _ _
          · rw [z]; exact Nat.le_add_right _ _
          · rw [z]; exact Nat.le_refl _
          · rw [z]; exact Nat.le_add_right _ _
        exact I1.fpOk hle (I1.hok.fresh hle)
      obtain ⟨its, rv, p1, _⟩ := I1.list (SqL.of hqx)
      obtain ⟨its2, rv2, p2, _⟩ := I1.list (SqL.of hqy)
      refine call_zip_2 p1.isList p2.isList fun h' hz' hTI hTO h1 h2 hsz hk => ?_
      have I2 : Inv X pins σ H1 { s1 with heap := h' } := I1.kept (t' := s1.toks) hk
      refine args_nil ?_
      exact call_list_zip hc (I2.ok.hd hc) (PySem.W.ktu_apart s1.heap.objs.size a b p1.lt p2.lt) hl hz I2 fresh5 hz' hTI ⟨_, _, hTO⟩ h1 h2 hqx hqy q
section
variable {H0 H : Hp} {L : List Ent} {Q : VK}
/-- the pairs laid, one behind the other -/
theorem st_zipQ {S : Addr} : ∀ (r : List (Int × Int)) (acc : List V) (done : List (Int × Int)) (H : Hp), W H0 H ((S, .lst acc) :: L) → RowsAt H acc done → (∀ H' zs, W H0 H' ((S, .lst zs) :: L) → RowsAt H' zs (done ++ r) → Q (.ref S) H') →
    zipQ S Q (r.map fun p => (V.int p.1, V.int p.2)) acc H
  | [], acc, done, H, w, hr, k => k H acc w (by rw [List.append_nil]; exact hr)
  | p :: r, acc, done, H, w, hr, k => by
    intro q hq
    have w1 : W H0 (upd H q (.tup [.int p.1, .int p.2])) ((q, .tup [.int p.1, .int p.2]) :: (S, .lst acc) :: L) := w.new _ hq
    have t1 : Tps H (upd H q (.tup [.int p.1, .int p.2])) := W.tp (w.now.new (.tup [.int p.1, .int p.2]) hq)
    have w2 := w1.set 1 (.lst (acc ++ [.ref q])) rfl rfl
    have t2 : Tps (upd H q (.tup [.int p.1, .int p.2])) (upd (upd H q (.tup [.int p.1, .int p.2])) S (.lst (acc ++ [.ref q]))) := W.tp (w1.now.set 1 (.lst (acc ++ [.ref q])) rfl rfl)
    refine st_zipQ r (acc ++ [.ref q]) (done ++ [p]) _ w2.drop1 (((hr.mono t1).mono t2).snoc ⟨q, rfl, t2 _ _ (w1.get 0 rfl)⟩) fun H' zs w' r' => k H' zs w' ?_
    rw [List.append_assoc] at r'
    exact r'
theorem zip_maps : ∀ r : List (Int × Int), ((r.map (·.1)).map V.int).zip ((r.map (·.2)).map V.int) = r.map fun p => (V.int p.1, V.int p.2)
  | [] => rfl
  | p :: r => congrArg (fun z => (V.int p.1, V.int p.2) :: z) (zip_maps r)
theorem st_listZip {a b : Addr} {r : List (Int × Int)} (w : W H0 H L) (i j : Nat) (hi : L[i]? = some (a, .lst ((r.map (·.1)).map V.int))) (hj : L[j]? = some (b, .lst ((r.map (·.2)).map V.int))) (hz : r.length ≤ 60000)
    (k : ∀ S H' zs, W H0 H' ((S, .lst zs) :: L) → RowsAt H' zs r → Q (.ref S) H') : xListZip [.ref a, .ref b] H Q := by
  unfold xListZip
  refine ⟨a, b, _, _, rfl, w.get i hi, w.get j hj, by simp, by simpa using hz, fun S hS => ?_⟩
  rw [zip_maps]
  exact st_zipQ r [] [] _ (w.new _ hS) True.intro fun H' zs w' r' => k S H' zs w' r'
end
end TR

namespace TR
open PySem L2
/-! ### players written as texts -/
@[irreducible] def sp_told_as : Sp := fun vs H Q _ => ∃ e, vs = [oV e] ∧ Wd e ∧ Q (.str (wordT e)) H
theorem of_told_as  {vs : List V} {H : Hp} {Q : VK} {E : XK} (h :  ∃ e, vs = [oV e] ∧ Wd e ∧ Q (.str (wordT e)) H) : sp_told_as  vs H Q E := by unfold sp_told_as; exact h
@[irreducible] def sp_number_in : Sp := fun vs H Q _ => ∃ e, vs = [.str (wordT e)] ∧ Wd e ∧ Q (oV e) H
theorem of_number_in  {vs : List V} {H : Hp} {Q : VK} {E : XK} (h :  ∃ e, vs = [.str (wordT e)] ∧ Wd e ∧ Q (oV e) H) : sp_number_in  vs H Q E := by unfold sp_number_in; exact h
@[irreducible] def sp_row_of : Sp := fun vs H Q _ => ∃ (l : Addr) (xs : List (Option Int)) (L : List Ent), vs = [.ref l] ∧ W H H L ∧ ((∃ j : Nat, L[j]? = some (l, .lst (xs.map oV))) ∨ H l = some (.tup (xs.map oV))) ∧ Wds xs ∧ xs.length ≤ 60000 ∧ ∀ H', W H H' L → Q (.str (rowT xs)) H'
theorem of_row_of  {vs : List V} {H : Hp} {Q : VK} {E : XK} (h :  ∃ (l : Addr) (xs : List (Option Int)) (L : List Ent), vs = [.ref l] ∧ W H H L ∧ ((∃ j : Nat, L[j]? = some (l, .lst (xs.map oV))) ∨ H l = some (.tup (xs.map oV))) ∧ Wds xs ∧ xs.length ≤ 60000 ∧ ∀ H', W H H' L → Q (.str (rowT xs)) H') : sp_row_of  vs H Q E := by unfold sp_row_of; exact h
@[irreducible] def sp_numbers_in : Sp := fun vs H Q _ => ∃ (xs : List (Option Int)) (L : List Ent), vs = [.str (rowT xs)] ∧ W H H L ∧ Wds xs ∧ xs.length ≤ 60000 ∧ ∀ H' l, W H H' ((l, .lst (xs.map oV)) :: L) → Q (.ref l) H'
theorem of_numbers_in  {vs : List V} {H : Hp} {Q : VK} {E : XK} (h :  ∃ (xs : List (Option Int)) (L : List Ent), vs = [.str (rowT xs)] ∧ W H H L ∧ Wds xs ∧ xs.length ≤ 60000 ∧ ∀ H' l, W H H' ((l, .lst (xs.map oV)) :: L) → Q (.ref l) H') : sp_numbers_in  vs H Q E := by unfold sp_numbers_in; exact h
theorem log_wd {n : Int} (h : Wd (some n)) : n.natAbs.log2 < 1920 := by
  have h1 := h n rfl
  by_cases h0 : n.natAbs = 0
  · rw [h0]; decide
  · rw [Nat.log2_lt h0]
    exact Nat.lt_of_lt_of_le (show n.natAbs < 2 ^ 30 by omega) (Nat.pow_le_pow_right (by decide) (by decide))
section
variable {P : Program} {w : World} {K : PySem.W.Frag} {mg : Str → Option Value} {base : Heap} {A : Ads}
theorem ok_told_as (T : Txt K mg A) : FnOk P w K mg base (L2.CX P w) 1 A.f_told_as A.d_told_as P_told_as (sp_told_as) := by
  refine T.F_told_as.okX sc_told_as (fun vs H Q E h => ?_) (fun cdv Ar outer s H vs Q E hr h => ?_)
  · unfold sp_told_as at h; obtain ⟨e, rfl, _⟩ := h; rfl
  · unfold sp_told_as at h; obtain ⟨e, rfl, wd, k⟩ := h
    refine ⟨_, (pss_one (ps_ret (my_ifExp (pt_cmpR op_isN (pv 0) pe_non (nomark _)) pe_str (pe_callTy call_str_int (by rfl) T.z_str (by decide +kernel) (pa_cons (pv 0) pa_nil))))), ?_⟩
    cases e with
    | none =>
      walk_at "rd"
      refine xIf_T rfl ?_
      exact k
    | some n =>
      walk_at "rd"
      refine xIf_F rfl ?_
      exact ⟨_, rfl, n, rfl, log_wd wd, k⟩
theorem ok_number_in (T : Txt K mg A) : FnOk P w K mg base (L2.CX P w) 1 A.f_number_in A.d_number_in P_number_in (sp_number_in) := by
  refine T.F_number_in.okX sc_number_in (fun vs H Q E h => ?_) (fun cdv Ar outer s H vs Q E hr h => ?_)
  · unfold sp_number_in at h; obtain ⟨e, rfl, _⟩ := h; rfl
  · unfold sp_number_in at h; obtain ⟨e, rfl, wd, k⟩ := h
    refine ⟨_, (pss_one (ps_ret (my_ifExp (pt_cmpR op_eq (pv 0) pe_str (nomark _)) pe_non (pe_callTy call_int_str (by rfl) T.z_int (by decide +kernel) (pa_cons (pv 0) pa_nil))))), ?_⟩
    cases e with
    | none =>
      walk_at "rd"
      refine xIf_T (decide_eq_true rfl) ?_
      exact k
    | some n =>
      walk_at "rd"
      refine xIf_F (decide_eq_false fun z => wordT_dash wd (V.str.inj z)) ?_
      exact ⟨_, rfl, _, n, rfl, wordT_reads wd, Nat.le_trans (wordT_len wd) (by decide), k⟩
theorem words_len {xs : List (Option Int)} (wd : Wds xs) (hl : xs.length ≤ 60000) : ((xs.map wordT).map (·.length)).sum + (xs.map wordT).length * (" " : Str).length ≤ 16777216 := by
  have h1 := sum_le (n := 10) (ys := (xs.map wordT).map (·.length)) fun y hy => by
    obtain ⟨z, hz, rfl⟩ := List.mem_map.mp hy
    obtain ⟨e, he, rfl⟩ := List.mem_map.mp hz
    exact wordT_len (wd e he)
  rw [List.length_map, List.length_map] at h1
  rw [List.length_map, show (" " : Str).length = 1 from by decide +kernel]
  omega
theorem ok_row_of (T : Txt K mg A) : FnOk P w K mg base (L2.CX P w) 2 A.f_row_of A.d_row_of P_row_of (sp_row_of) := by
  refine T.F_row_of.okX sc_row_of (fun vs H Q E h => ?_) (fun cdv Ar outer s H vs Q E hr h => ?_)
  · unfold sp_row_of at h; obtain ⟨l, xs, L, rfl, _⟩ := h; rfl
  · unfold sp_row_of at h; obtain ⟨l, xs, L, rfl, w, hq, wd, hl, k⟩ := h
    refine ⟨_, (pss_one (ps_ret (my_join pe_str (my_lc (own := [("one", 1)]) rfl sc_row_of.nd (pi_seq (pv 0)) (blkOk_by (own := [("one", 1)]) (N := N_row_of) (sc := defScope s_row_of) (by decide +kernel)) (fun _ _ _ _ _ => (pg_name (i := 1) sc_row_of.nd rfl (by first | exact Or.inl rfl | exact Or.inr rfl))) (fun _ _ _ _ _ => pts_nil) (fun _ _ _ _ _ => (my_call (ok_told_as T) (hr.mono (by decide)) (by rfl) T.g_told_as T.k_told_as T.b_told_as passL (pa_cons (pv 1) pa_nil))))))), ?_⟩
    walk_at "rd"
    rcases hq with ⟨j, hj⟩ | ht
    case' inl =>
      refine st_seqL (SqL.of (w.get j hj)) ?_
      refine (st_lcMap (zs := xs) oV (fun e => V.str (wordT e)) w.now hl ?_ ?_).2 ⟨j, hj⟩
    case' inr =>
      refine st_seqT (SqT.of ht) ?_
      refine (st_lcMap (zs := xs) oV (fun e => V.str (wordT e)) w.now hl ?_ ?_).1 ht
    all_goals first
      | (intro D x P H' zs hx w1 _ kt
         walk_at "rd"
         refine xIf_T rfl ?_
         walk_at "rd"
         refine st_call (of_told_as ⟨x, rfl, wd x hx, ?_⟩)
         exact kt)
      | (intro D H' w1
         rw [show (xs.map fun e => V.str (wordT e)) = (xs.map wordT).map V.str from by rw [List.map_map]; rfl] at w1
         refine st_join (ys := xs.map wordT) (SqL.of (w1.get 0 rfl)) (words_len wd hl) ?_
         exact k _ w1.drop1)
theorem ok_numbers_in (T : Txt K mg A) : FnOk P w K mg base (L2.CX P w) 2 A.f_numbers_in A.d_numbers_in P_numbers_in (sp_numbers_in) := by
  refine T.F_numbers_in.okX sc_numbers_in (fun vs H Q E h => ?_) (fun cdv Ar outer s H vs Q E hr h => ?_)
  · unfold sp_numbers_in at h; obtain ⟨xs, L, rfl, _⟩ := h; rfl
  · unfold sp_numbers_in at h; obtain ⟨xs, L, rfl, w, wd, hl, k⟩ := h
    refine ⟨_, (pss_one (ps_ret (my_ifExp (pt_cmpR op_ne (pv 0) pe_str (nomark _)) (my_lc (own := [("word", 1)]) rfl sc_numbers_in.nd (pi_list (my_split (pv 0) pe_str)) (blkOk_by (own := [("word", 1)]) (N := N_numbers_in) (sc := defScope s_numbers_in) (by decide +kernel)) (fun _ _ _ _ _ => (pg_name (i := 1) sc_numbers_in.nd rfl (by first | exact Or.inl rfl | exact Or.inr rfl))) (fun _ _ _ _ _ => pts_nil) (fun _ _ _ _ _ => (my_call (ok_number_in T) (hr.mono (by decide)) (by rfl) T.g_number_in T.k_number_in T.b_number_in passL (pa_cons (pv 1) pa_nil)))) (my_lst pa_nil)))), ?_⟩
    walk_at "rd"
    by_cases hx : xs = []
    · subst hx
      refine xIf_F (by rw [rowT_nil]; decide +kernel) ?_
      walk_at "rd"
      refine st_new w fun l H1 w1 => ?_
      exact k _ _ w1
    · refine xIf_T (by rw [Bool.not_eq_true', decide_eq_false_iff_not]; exact fun z => rowT_ne wd hx (V.str.inj z)) ?_
      walk_at "rd"
      refine st_split w.now (by decide +kernel) (by have := rowT_len wd; omega) fun p H1 w1 => ?_
      rw [rowT_split wd hx, show (xs.map wordT).map V.str = xs.map fun e => V.str (wordT e) from by rw [List.map_map]; rfl] at w1
      walk_at "rd"
      refine (st_lcMap (zs := xs) (fun e => V.str (wordT e)) oV w1.now hl ?_ ?_).2 ⟨0, rfl⟩
      · intro D x P H' zs hx w1 _ kt
        walk_at "rd"
        refine xIf_T rfl ?_
        walk_at "rd"
        refine st_call (of_number_in ⟨x, rfl, wd x hx, ?_⟩)
        exact kt
      · intro D H' w2
        exact k _ _ ((w1.tr w2).rot 1 1).drop1
end
end TR

namespace TR
open PySem L2
@[irreducible] def sp_written (A : Ads) : Sp := fun vs H Q _ => ∃ (a : PA) (sh : V) (s : Pl) (ov : V) (rs : List V) (N : Nat) (R : List Ent), vs = [.ref a.p] ∧ W H H (plL A a sh s ov rs ++ R) ∧ PlF H s ov rs ∧ Tx s ∧ s.o.Ok ∧ s.o.q.tunes.length < 64 ∧ Sz s N ∧ N ≤ 40000 ∧
  ∀ H', W H H' (plL A a sh s ov rs ++ R) → Q (.str (textP s)) H'
theorem of_written {A : Ads} {vs : List V} {H : Hp} {Q : VK} {E : XK} (h :  ∃ (a : PA) (sh : V) (s : Pl) (ov : V) (rs : List V) (N : Nat) (R : List Ent), vs = [.ref a.p] ∧ W H H (plL A a sh s ov rs ++ R) ∧ PlF H s ov rs ∧ Tx s ∧ s.o.Ok ∧ s.o.q.tunes.length < 64 ∧ Sz s N ∧ N ≤ 40000 ∧
  ∀ H', W H H' (plL A a sh s ov rs ++ R) → Q (.str (textP s)) H') : sp_written A vs H Q E := by unfold sp_written; exact h
theorem map_some (xs : List Int) : xs.map V.int = (xs.map some).map oV := by rw [List.map_map]; rfl
theorem nodup_in {xs : List Int} (nd : xs.Nodup) {n : Nat} (h : ∀ e ∈ xs, 1 ≤ e ∧ e ≤ (n : Int)) : xs.length ≤ n := by
  have := nodup_len (b := rgI 1 ((n : Int) + 1)) nd fun x hx => by
    have := h x hx
    unfold rgI
    rw [List.mem_map]
    exact ⟨(x - 1).toNat, List.mem_range.mpr (by omega), by omega⟩
  rw [rgI_len] at this
  omega
/-- the keys of the tunes -/
theorem tunes_keys : ∀ (k : Nat) (ts : List Str), (tunesF k ts).map (·.1) = (rgI ((k : Int) + 1) ((k : Int) + 1 + ts.length)).map Sum.inl
  | k, [] => by simp [tunesF, rgI]
  | k, x :: r => by
    show (Sum.inl ((k : Int) + 1)) :: (tunesF (k + 1) r).map (·.1) = _
    rw [tunes_keys (k + 1) r]
    unfold rgI
    rw [show ((k : Int) + 1 + ((x :: r).length : Int) - ((k : Int) + 1)).toNat = r.length + 1 by rw [List.length_cons]; omega, show (((k + 1 : Nat) : Int) + 1 + (r.length : Int) - (((k + 1 : Nat) : Int) + 1)).toNat = r.length by omega]
    rw [List.range_succ_eq_map, List.map_cons, List.map_cons, List.map_map, List.map_map, List.map_map]
    refine List.cons_eq_cons.mpr ⟨by simp, List.map_congr_left fun i _ => ?_⟩
    show Sum.inl (((k + 1 : Nat) : Int) + 1 + (i : Int)) = Sum.inl ((k : Int) + 1 + ((i + 1 : Nat) : Int))
    congr 1
    omega
theorem tunes_names (q : Qu) : (rgI 1 (1 + q.tunes.length)).map (fun e => V.str (q.tune e)) = q.tunes.map V.str := by
  unfold rgI
  rw [show ((1 : Int) + (q.tunes.length : Int) - 1).toNat = q.tunes.length by omega, List.map_map]
  refine List.ext_getElem? fun i => ?_
  rw [List.getElem?_map, List.getElem?_map]
  by_cases h : i < q.tunes.length
  · rw [List.getElem?_range h, List.getElem?_eq_getElem h]
    show some (V.str (q.tune (1 + (i : Int)))) = some (V.str q.tunes[i])
    unfold Qu.tune
    rw [show (1 + (i : Int) - 1).toNat = i by omega, List.getD_eq_getElem?_getD, List.getElem?_eq_getElem h]
    rfl
  · rw [List.getElem?_eq_none (by rw [List.length_range]; omega), List.getElem?_eq_none (by omega)]
    rfl
section
variable {P : Program} {w : World} {K : PySem.W.Frag} {mg : Str → Option Value} {base : Heap} {A : Ads}
theorem row_at {H0 H : Hp} {L : List Ent} {l : Addr} {xs : List (Option Int)} {vs : List V} {Q : VK} {E : XK} (w : W H0 H L) (hq : (∃ j : Nat, L[j]? = some (l, .lst vs)) ∨ H l = some (.tup vs)) (e : vs = xs.map oV) (wd : Wds xs) (hl : xs.length ≤ 60000) (k : ∀ H', W H0 H' L → Q (.str (rowT xs)) H') :
    xCall sp_row_of [.ref l] H Q E := by
  subst e
  exact st_call (of_row_of ⟨l, xs, L, rfl, w.now, hq, wd, hl, fun H' w' => k H' (w.tr w')⟩)
theorem ok_written (T : Txt K mg A) : FnOk P w K mg base (L2.CX P w) 3 A.f_written A.d_written P_written (sp_written A) := by
  refine T.F_written.okX sc_written (fun vs H Q E h => ?_) (fun cdv Ar outer s H vs Q E hr h => ?_)
  · unfold sp_written at h; obtain ⟨a, sh, s, ov, rs, N, R, rfl, _⟩ := h; rfl
  · unfold sp_written at h; obtain ⟨a, sh, s, ov, rs, N, R, rfl, w, fa, tx, ok, h64, hz, hN, k⟩ := h
    refine ⟨_, (pss_cons (ps_set (i := 1) sc_written.nd rfl (by first | exact Or.inl rfl | exact Or.inr rfl) (pe_fld (pv 0) rfl))
      (pss_cons (ps_set (i := 2) sc_written.nd rfl (by first | exact Or.inl rfl | exact Or.inr rfl) (my_lst (pa_cons (my_call (ok_row_of T) (hr.mono (by decide)) (by rfl) T.g_row_of T.k_row_of T.b_row_of passE (pa_cons (my_lst (pa_cons (pe_fld (pv 0) rfl) (pa_cons (pe_fld (pv 0) rfl) (pa_cons (pe_fld (pv 0) rfl) (pa_cons (pe_fld (pv 0) rfl) (pa_cons (pe_fld (pv 0) rfl) pa_nil)))))) pa_nil)) pa_nil)))
      (pss_cons (ps_expr (pe_bm PySem.F.plainAttrs_list PySem.F.slot_list_append PySem.F.type_list_append my_append (pv 2) (pa_cons (my_call (ok_row_of T) (hr.mono (by decide)) (by rfl) T.g_row_of T.k_row_of T.b_row_of passE (pa_cons (my_lst (pa_cons (pe_callTy my_int1 (by rfl) T.z_int (by decide +kernel) (pa_cons (pe_fld (pv 0) rfl) pa_nil)) (pa_cons (pe_callTy my_int1 (by rfl) T.z_int (by decide +kernel) (pa_cons (pe_fld (pv 0) rfl) pa_nil)) (pa_cons (pe_callTy my_int1 (by rfl) T.z_int (by decide +kernel) (pa_cons (pe_fld (pv 1) rfl) pa_nil)) (pa_cons (pe_callTy my_int1 (by rfl) T.z_int (by decide +kernel) (pa_cons (pe_fld (pv 1) rfl) pa_nil)) pa_nil))))) pa_nil)) pa_nil)))
      (pss_cons (ps_expr (pe_bm PySem.F.plainAttrs_list PySem.F.slot_list_append PySem.F.type_list_append my_append (pv 2) (pa_cons (my_call (ok_row_of T) (hr.mono (by decide)) (by rfl) T.g_row_of T.k_row_of T.b_row_of passE (pa_cons (my_lst (pa_cons (pe_fld (pe_fld (pv 1) rfl) rfl) (pa_cons (pe_fld (pe_fld (pv 1) rfl) rfl) (pa_cons (pe_fld (pv 1) rfl) pa_nil)))) pa_nil)) pa_nil)))
      (pss_cons (ps_expr (pe_bm PySem.F.plainAttrs_list PySem.F.slot_list_append PySem.F.type_list_append my_append (pv 2) (pa_cons (pe_fld (pv 1) rfl) pa_nil)))
      (pss_cons (ps_expr (pe_bm PySem.F.plainAttrs_list PySem.F.slot_list_append PySem.F.type_list_append my_append (pv 2) (pa_cons (my_call (ok_row_of T) (hr.mono (by decide)) (by rfl) T.g_row_of T.k_row_of T.b_row_of passE (pa_cons (my_ifExp (pt_cmpR op_notN (pe_fld (pv 0) rfl) pe_non (nomark _)) (pe_fld (pv 0) rfl) (my_lst pa_nil)) pa_nil)) pa_nil)))
      (pss_cons (ps_expr (pe_bm PySem.F.plainAttrs_list PySem.F.slot_list_extend PySem.F.type_list_extend my_extend (pv 2) (pa_cons (my_lst (pa_cons (my_call (ok_row_of T) (hr.mono (by decide)) (by rfl) T.g_row_of T.k_row_of T.b_row_of passE (pa_cons (pe_fld (pv 0) rfl) pa_nil)) (pa_cons (my_call (ok_row_of T) (hr.mono (by decide)) (by rfl) T.g_row_of T.k_row_of T.b_row_of passE (pa_cons (pe_fld (pv 0) rfl) pa_nil)) (pa_cons (my_call (ok_row_of T) (hr.mono (by decide)) (by rfl) T.g_row_of T.k_row_of T.b_row_of passE (pa_cons (pe_fld (pe_fld (pv 1) rfl) rfl) pa_nil)) (pa_cons (my_call (ok_row_of T) (hr.mono (by decide)) (by rfl) T.g_row_of T.k_row_of T.b_row_of passE (pa_cons (pe_fld (pv 1) rfl) pa_nil)) pa_nil))))) pa_nil)))
      (pss_cons (ps_expr (pe_bm PySem.F.plainAttrs_list PySem.F.slot_list_append PySem.F.type_list_append my_append (pv 2) (pa_cons (my_join pe_str (my_lc (own := [("entry", 3)]) rfl sc_written.nd (pi_list (my_sortedKeysI rfl (by rfl) T.z_sorted (pe_fld (pe_fld (pv 1) rfl) rfl))) (blkOk_by (own := [("entry", 3)]) (N := N_written) (sc := defScope s_written) (by decide +kernel)) (fun _ _ _ _ _ => (pg_name (i := 3) sc_written.nd rfl (by first | exact Or.inl rfl | exact Or.inr rfl))) (fun _ _ _ _ _ => pts_nil) (fun _ _ _ _ _ => (pe_dget (hu_of hr) (pe_fldB (pe_fldB (pv 1) rfl) rfl) (pv 3) (fun _ _ => rfl))))) pa_nil)))
      (pss_cons (ps_expr (pe_bm PySem.F.plainAttrs_list PySem.F.slot_list_append PySem.F.type_list_append my_append (pv 2) (pa_cons (my_call (ok_row_of T) (hr.mono (by decide)) (by rfl) T.g_row_of T.k_row_of T.b_row_of passE (pa_cons (my_lc (own := [("time", 4), ("entry", 3)]) rfl sc_written.nd (pi_list (pe_fld (pv 0) rfl)) (blkOk_by (own := [("time", 4), ("entry", 3)]) (N := N_written) (sc := defScope s_written) (by decide +kernel)) (fun _ _ _ _ _ => (by exact (pg_tupB (n := 2) rfl (pgs_cons (pg_name (i := 4) sc_written.nd rfl (by first | exact Or.inl rfl | exact Or.inr rfl)) (pgs_cons (pg_name (i := 3) sc_written.nd rfl (by first | exact Or.inl rfl | exact Or.inr rfl)) pgs_nil))))) (fun _ _ _ _ _ => pts_nil) (fun _ _ _ _ _ => (pv 4))) pa_nil)) pa_nil)))
      (pss_cons (ps_expr (pe_bm PySem.F.plainAttrs_list PySem.F.slot_list_append PySem.F.type_list_append my_append (pv 2) (pa_cons (my_call (ok_row_of T) (hr.mono (by decide)) (by rfl) T.g_row_of T.k_row_of T.b_row_of passE (pa_cons (my_lc (own := [("time", 4), ("entry", 3)]) rfl sc_written.nd (pi_list (pe_fld (pv 0) rfl)) (blkOk_by (own := [("time", 4), ("entry", 3)]) (N := N_written) (sc := defScope s_written) (by decide +kernel)) (fun _ _ _ _ _ => (by exact (pg_tupB (n := 2) rfl (pgs_cons (pg_name (i := 4) sc_written.nd rfl (by first | exact Or.inl rfl | exact Or.inr rfl)) (pgs_cons (pg_name (i := 3) sc_written.nd rfl (by first | exact Or.inl rfl | exact Or.inr rfl)) pgs_nil))))) (fun _ _ _ _ _ => pts_nil) (fun _ _ _ _ _ => (pv 3))) pa_nil)) pa_nil)))
      (pss_one (ps_ret (my_join pe_str (pv 2)))))))))))))), ?_⟩
    have hzr := hz.r
    have hzp := hz.p
    have hzs := hz.s
    have hturn := ok.q.sz
    have hdeck : s.o.deck.length ≤ 12 := Nat.le_trans (nodup_len ok.nd ok.sub) ok.q.sz
    walk_at "rd"
    refine st_new w fun l1 H1 w1 => ?_
    walk_at "rd"
    refine row_at w1 (.inl ⟨0, rfl⟩) (xs := [some s.ov, some s.time, s.now, some s.spot, s.sleep]) rfl tx.r0 (by show 5 ≤ 60000; decide) fun H2 w2 => ?_
    replace w2 := w2.drop1
    walk_at "rd"
    refine st_new w2 fun rl H3 w3 => ?_
    clear w1 w2
    walk_at "rd"
    refine st_int1b ?_
    walk_at "rd"
    refine st_int1b ?_
    walk_at "rd"
    refine st_int1b ?_
    walk_at "rd"
    refine st_int1b ?_
    walk_at "rd"
    refine st_new w3 fun l2 H4 w4 => ?_
    walk_at "rd"
    refine row_at w4 (.inl ⟨0, rfl⟩) (xs := [bI s.plays, bI s.stops, bI s.o.mixed, bI s.o.gone]) rfl tx.rb (by show 4 ≤ 60000; decide) fun H5 w5 => ?_
    replace w5 := w5.drop1
    walk_at "rd"
    refine st_app w5 0 rfl (szL (by simp only [List.length_append, List.length_cons, List.length_nil]; omega)) fun H6 w6 => ?_
    clear w3 w4 w5
    walk_at "rd"
    refine st_new w6 fun l3 H7 w7 => ?_
    walk_at "rd"
    refine row_at w7 (.inl ⟨0, rfl⟩) (xs := [some s.o.num, some (s.o.q.tunes.length : Int), s.o.behind]) rfl tx.rd (by show 3 ≤ 60000; decide) fun H8 w8 => ?_
    replace w8 := w8.drop1
    walk_at "rd"
    refine st_app w8 0 rfl (szL (by simp only [List.length_append, List.length_cons, List.length_nil]; omega)) fun H9 w9 => ?_
    clear w6 w7 w8
    walk_at "rd"
    refine st_app w9 0 rfl (szL (by simp only [List.length_append, List.length_cons, List.length_nil]; omega)) fun H10 w10 => ?_
    clear w9
    have fa10 := fa.mono w10.tp
    walk_at "rd"
    have hO := fa10.old
    cases hod : s.old
    case' none =>
      rw [hod] at hO
      have hO : ov = .non := hO
      subst hO
      refine xIf_F rfl ?_
      walk_at "rd"
      refine st_new w10 fun l4 H11 w11 => ?_
      walk_at "rd"
      refine row_at w11 (.inl ⟨0, rfl⟩) (xs := oldO s.old) (by rw [hod]; rfl) tx.od (by rw [hod]; exact Nat.le_of_ble_eq_true rfl) fun H12 w12 => ?_
      replace w12 := w12.drop1
    case' some q =>
      obtain ⟨e, p, l⟩ := q
      rw [hod] at hO
      obtain ⟨q, eq, hq⟩ : ∃ q, ov = .ref q ∧ H10 q = some (.tup [.int e, .int p, .int l]) := hO
      subst eq
      refine xIf_T rfl ?_
      walk_at "rd"
      refine row_at w10 (.inr hq) (xs := oldO s.old) (by rw [hod]; rfl) tx.od (by rw [hod]; exact Nat.le_of_ble_eq_true rfl) fun H12 w12 => ?_
    all_goals
      clear w10 fa10
      walk_at "rd"
      refine st_app w12 0 rfl (szL (by simp only [List.length_append, List.length_cons, List.length_nil]; omega)) fun H13 w13 => ?_
      clear w12
      walk_at "rd"
      refine row_at w13 (.inl ⟨2, rfl⟩) (map_some _) tx.so (by rw [List.length_map]; omega) fun H14 w14 => ?_
      clear w13
      walk_at "rd"
      refine row_at w14 (.inl ⟨3, rfl⟩) (map_some _) tx.pa (by rw [List.length_map]; omega) fun H15 w15 => ?_
      clear w14
      walk_at "rd"
      refine row_at w15 (.inl ⟨8, rfl⟩) (map_some _) tx.tr (by rw [List.length_map]; omega) fun H16 w16 => ?_
      clear w15
      walk_at "rd"
      refine row_at w16 (.inl ⟨10, rfl⟩) (map_some _) tx.dk (by rw [List.length_map]; omega) fun H17 w17 => ?_
      clear w16
      walk_at "rd"
      refine st_new w17 fun l5 H18 w18 => ?_
      clear w17
      walk_at "rd"
      refine st_ext w18 1 0 rfl rfl (by simp only [List.length_append, List.length_cons, List.length_nil]; omega) fun H19 w19 => ?_
      replace w19 := w19.drop1
      clear w18
      walk_at "rd"
      refine st_sortI w19 7 rfl (ks := rgI 1 (1 + s.o.q.tunes.length)) (by have := tunes_keys 0 s.o.q.tunes; simpa using this) (by rw [rgI_len]; omega) fun ys p H20 hp hs w20 => ?_
      obtain rfl := sorted_same hp hs (rgI_sorted _ _)
      clear w19
      walk_at "rd"
      refine (st_lcMap (zs := rgI 1 (1 + s.o.q.tunes.length)) V.int (fun e => V.str (s.o.q.tune e)) w20.now (by rw [rgI_len]; omega) ?_ ?_).2 ⟨0, rfl⟩
      · intro D x P H' zs hx w1 _ kt
        have hx1 : 1 ≤ x ∧ x ≤ s.o.q.tunes.length := by
          unfold rgI at hx
          obtain ⟨i, hi, rfl⟩ := List.mem_map.mp hx
          rw [List.mem_range] at hi
          omega
        walk_at "rd"
        refine xIf_T rfl ?_
        walk_at "rd"
        refine ⟨?_, ?_⟩
        · rw [← s.o.q.val_some hx1]
          exact DGet.k (k := Sum.inl x) (w1.get 9 rfl)
        exact kt
      intro D H21 w21
      rw [tunes_names] at w21
      refine st_join (ys := s.o.q.tunes) (SqL.of (w21.get 0 rfl)) (by
        have h1 := sum_le (n := 6) (ys := s.o.q.tunes.map (·.length)) fun y hy => by
          obtain ⟨z, hz, rfl⟩ := List.mem_map.mp hy
          exact (tx.nm z hz).len
        rw [List.length_map] at h1
        rw [show (" " : Str).length = 1 from by decide +kernel]
        omega) ?_
      have w22 := (w20.tr w21).drop1.drop1
      clear w20 w21
      walk_at "rd"
      refine st_app w22 0 rfl (szL (by simp only [List.length_append, List.length_cons, List.length_nil]; omega)) fun H23 w23 => ?_
      clear w22
      walk_at "rd"
      refine st_lcRw (fun y => V.int y.1) w23.now 4 rfl (fa.rows.mono w23.tp) (by omega) ?_ ?_
      · intro D q y P H' xs w1 hq kt
        walk_at "rd"
        refine xIf_T rfl ?_
        walk_at "rd"
        exact kt
      intro D H24a w23a
      walk_at "rd"
      refine row_at w23a (.inl ⟨0, rfl⟩) (xs := s.rows.map fun r => some r.1) (by rw [List.map_map]; rfl) tx.r1 (by rw [List.length_map]; omega) fun H24b w23b => ?_
      have w23c := (w23.tr w23b).drop1
      clear w23a w23b
      walk_at "rd"
      refine st_app w23c 0 rfl (szL (by simp only [List.length_append, List.length_cons, List.length_nil]; omega)) fun H24d w25 => ?_
      clear w23c w23
      walk_at "rd"
      refine st_lcRw (fun y => V.int y.2) w25.now 4 rfl (fa.rows.mono w25.tp) (by omega) ?_ ?_
      · intro D q y P H' xs w1 hq kt
        walk_at "rd"
        refine xIf_T rfl ?_
        walk_at "rd"
        exact kt
      intro D H26a w25a
      walk_at "rd"
      refine row_at w25a (.inl ⟨0, rfl⟩) (xs := s.rows.map fun r => some r.2) (by rw [List.map_map]; rfl) tx.r2 (by rw [List.length_map]; omega) fun H26b w25b => ?_
      have w25c := (w25.tr w25b).drop1
      clear w25a w25b
      walk_at "rd"
      refine st_app w25c 0 rfl (szL (by simp only [List.length_append, List.length_cons, List.length_nil]; omega)) fun H26d w27 => ?_
      clear w25c w25
      walk_at "rd"
      replace w27 : W H H26d ((rl, .lst ((rowsP s).map V.str)) :: (plL A a sh s _ rs ++ R)) := w27
      refine st_join (ys := rowsP s) (SqL.of (w27.get 0 rfl)) (by
        have hqt : s.o.q.tunes.length ≤ N + 64 := by omega
        have h1 := sum_le (n := (N + 64) * 11) (ys := (rowsP s).map (·.length)) fun y hy => by
          obtain ⟨z, hz', rfl⟩ := List.mem_map.mp hy
          exact tx.lens (hz.mono (by omega)) (by omega) (by omega) hqt (by omega) z hz'
        rw [List.length_map, show (rowsP s).length = 12 from rfl] at h1
        rw [show ("\n" : Str).length = 1 from by decide +kernel, show (rowsP s).length = 12 from rfl]
        omega) ?_
      exact k _ w27.drop1
end
end TR

namespace TR
open PySem L2
@[irreducible] def sp_woken_order (A : Ads) : Sp := fun vs H Q _ => ∃ (l : Addr) (s : Pl) (N : Nat) (R : List Ent), vs = [.ref l] ∧ W H H ((l, .lst ((rowsP s).map V.str)) :: R) ∧ Tx s ∧ s.o.Ok ∧ Sz s N ∧ N ≤ 40000 ∧
  ∀ H' a, W H H' (orL A a s.o ++ ((l, .lst ((rowsP s).map V.str)) :: R)) → Q (.ref a.o) H'
theorem of_woken_order {A : Ads} {vs : List V} {H : Hp} {Q : VK} {E : XK} (h :  ∃ (l : Addr) (s : Pl) (N : Nat) (R : List Ent), vs = [.ref l] ∧ W H H ((l, .lst ((rowsP s).map V.str)) :: R) ∧ Tx s ∧ s.o.Ok ∧ Sz s N ∧ N ≤ 40000 ∧
  ∀ H' a, W H H' (orL A a s.o ++ ((l, .lst ((rowsP s).map V.str)) :: R)) → Q (.ref a.o) H') : sp_woken_order A vs H Q E := by unfold sp_woken_order; exact h
theorem bI_eq (b : Bool) : decide (oV (bI b) = V.int 1) = b := by cases b <;> rfl
theorem tunes_rangeK : ∀ (k : Nat) (ts : List Str), (List.range ts.length).map (fun (i : Nat) => ((Sum.inl ((k : Int) + (i : Int) + 1) : Key), V.str (ts.getD i ""))) = tunesF k ts
  | k, [] => rfl
  | k, x :: r => by
    rw [List.length_cons, List.range_succ_eq_map, List.map_cons, List.map_map]
    refine List.cons_eq_cons.mpr ⟨by simp, ?_⟩
    rw [← tunes_rangeK (k + 1) r]
    refine List.map_congr_left fun i _ => ?_
    show ((Sum.inl ((k : Int) + ((i + 1 : Nat) : Int) + 1) : Key), V.str ((x :: r).getD (i + 1) "")) = (Sum.inl (((k + 1 : Nat) : Int) + (i : Int) + 1), V.str (r.getD i ""))
    rw [show (k : Int) + ((i + 1 : Nat) : Int) + 1 = ((k + 1 : Nat) : Int) + (i : Int) + 1 by omega]
    rfl
theorem tunes_range (ts : List Str) : (List.range ts.length).map (fun (i : Nat) => ((Sum.inl ((i : Int) + 1) : Key), V.str (ts.getD i ""))) = tunesF 0 ts := by
  rw [← tunes_rangeK 0 ts]
  exact List.map_congr_left fun i _ => by simp
section
variable {P : Program} {w : World} {K : PySem.W.Frag} {mg : Str → Option Value} {base : Heap} {A : Ads}
theorem nums_at {H0 H : Hp} {L : List Ent} {xs : List (Option Int)} {Q : VK} {E : XK} (w : W H0 H L) (wd : Wds xs) (hl : xs.length ≤ 60000) (k : ∀ H' l, W H0 H' ((l, .lst (xs.map oV)) :: L) → Q (.ref l) H') : xCall sp_numbers_in [.str (rowT xs)] H Q E :=
  st_call (of_numbers_in ⟨xs, L, rfl, w.now, wd, hl, fun H' l w' => k H' l (w.tr w')⟩)
theorem ok_woken_order (T : Txt K mg A) : FnOk P w K mg base (L2.CX P w) 5 A.f_woken_order A.d_woken_order P_woken_order (sp_woken_order A) := by
  refine T.F_woken_order.okX sc_woken_order (fun vs H Q E h => ?_) (fun cdv Ar outer s H vs Q E hr h => ?_)
  · unfold sp_woken_order at h; obtain ⟨l, s, N, R, rfl, _⟩ := h; rfl
  · unfold sp_woken_order at h; obtain ⟨l, s, N, R, rfl, w, tx, ok, hz, hN, k⟩ := h
    refine ⟨_, (pss_cons (ps_set (i := 1) sc_woken_order.nd rfl (by first | exact Or.inl rfl | exact Or.inr rfl) (my_make T.M_Order (ok_Order_init__ T) (hr.mono (by decide)) (by rfl) T.g_Order T.b_Order_init__ passE (pa_cons (pe_ix ix_list (my_call (ok_numbers_in T) (hr.mono (by decide)) (by rfl) T.g_numbers_in T.k_numbers_in T.b_numbers_in passE (pa_cons (pe_ix ix_list (pv 0) pe_int (fun _ _ => rfl)) pa_nil)) pe_int (fun _ _ => rfl)) pa_nil)))
      (pss_cons (ps_asg (my_lc (own := [("one", 3)]) rfl sc_woken_order.nd (pi_list (pe_slice my_sl (my_call (ok_numbers_in T) (hr.mono (by decide)) (by rfl) T.g_numbers_in T.k_numbers_in T.b_numbers_in passE (pa_cons (pe_ix ix_list (pv 0) pe_int (fun _ _ => rfl)) pa_nil)) (po_some pe_int) po_none)) (blkOk_by (own := [("one", 3)]) (N := N_woken_order) (sc := defScope s_woken_order) (by decide +kernel)) (fun _ _ _ _ _ => (pg_name (i := 3) sc_woken_order.nd rfl (by first | exact Or.inl rfl | exact Or.inr rfl))) (fun _ _ _ _ _ => pts_nil) (fun _ _ _ _ _ => (pe_cmpR op_eq (pv 3) pe_int (nomark _)))) (pg_lst rfl (pgs_cons (pg_fld (pv 1)) (pgs_cons (pg_fld (pv 1)) pgs_nil))))
      (pss_cons (ps_asg (pe_slice my_sl (my_call (ok_numbers_in T) (hr.mono (by decide)) (by rfl) T.g_numbers_in T.k_numbers_in T.b_numbers_in passE (pa_cons (pe_ix ix_list (pv 0) pe_int (fun _ _ => rfl)) pa_nil)) (po_some pe_int) po_none) (pg_lst rfl (pgs_cons (pg_fld (pe_fld (pv 1) rfl)) (pgs_cons (pg_fld (pv 1)) pgs_nil))))
      (pss_cons (my_fld (pv 1) (pe_ix ix_list (pv 0) pe_int (fun _ _ => rfl)))
      (pss_cons (my_fld (pe_fld (pv 1) rfl) (my_call (ok_numbers_in T) (hr.mono (by decide)) (by rfl) T.g_numbers_in T.k_numbers_in T.b_numbers_in passE (pa_cons (pe_ix ix_list (pv 0) pe_int (fun _ _ => rfl)) pa_nil)))
      (pss_cons (my_fld (pv 1) (my_call (ok_numbers_in T) (hr.mono (by decide)) (by rfl) T.g_numbers_in T.k_numbers_in T.b_numbers_in passE (pa_cons (pe_ix ix_list (pv 0) pe_int (fun _ _ => rfl)) pa_nil)))
      (pss_cons (ps_set (i := 2) sc_woken_order.nd rfl (by first | exact Or.inl rfl | exact Or.inr rfl) (my_ifExp (pt_cmpR op_ne (pe_ix ix_list (pv 0) pe_int (fun _ _ => rfl)) pe_str (nomark _)) (my_split (pe_ix ix_list (pv 0) pe_int (fun _ _ => rfl)) pe_str) (my_lst pa_nil)))
      (pss_cons (my_fld (pe_fld (pv 1) rfl) (pe_callTy (my_dictP rfl) (by rfl) T.z_dict (by decide +kernel) (pa_cons (my_lc (own := [("k", 4)]) rfl sc_woken_order.nd (pi_range1 (by rfl) T.z_range (pa_cons (pe_callB my_lenQ (by rfl) T.z_len PySem.boot_len (pa_cons (pv 2) pa_nil)) pa_nil)) (blkOk_by (own := [("k", 4)]) (N := N_woken_order) (sc := defScope s_woken_order) (by decide +kernel)) (fun _ _ _ _ _ => (pg_name (i := 4) sc_woken_order.nd rfl (by first | exact Or.inl rfl | exact Or.inr rfl))) (fun _ _ _ _ _ => pts_nil) (fun _ _ _ _ _ => (my_tup (pa_cons (pe_op op_add (pv 4) pe_int) (pa_cons (pe_ix ix_listB (pv 2) (pv 4) (fun _ _ => rfl)) pa_nil))))) pa_nil)))
      (pss_one (ps_ret (pv 1))))))))))), ?_⟩
    have hzr := hz.r
    have hzp := hz.p
    have hzs := hz.s
    have hturn := ok.q.sz
    have htz := ok.q.tz
    have hdeck : s.o.deck.length ≤ 12 := Nat.le_trans (nodup_len ok.nd ok.sub) ok.q.sz
    have r1 : atI ((rowsP s).map V.str) 1 = some (.str (rowT [bI s.plays, bI s.stops, bI s.o.mixed, bI s.o.gone])) := rfl
    have r2 : atI ((rowsP s).map V.str) 2 = some (.str (rowT [some s.o.num, some (s.o.q.tunes.length : Int), s.o.behind])) := rfl
    have r3 : atI ((rowsP s).map V.str) 3 = some (.str s.o.again) := rfl
    have r7 : atI ((rowsP s).map V.str) 7 = some (.str (rowT (s.o.q.turn.map some))) := rfl
    have r8 : atI ((rowsP s).map V.str) 8 = some (.str (rowT (s.o.deck.map some))) := rfl
    have r9 : atI ((rowsP s).map V.str) 9 = some (.str (nameT s.o.q.tunes)) := rfl
    walk_at "rd"
    refine nums_at w tx.rd (by show 3 ≤ 60000; decide) fun H1 l1 w1 => ?_
    walk_at "rd"
    refine st_make w1 fun o dx H2 w2 => ?_
    refine of_Order_init ⟨o, dx, s.o.num, _, rfl, w2.now, fun _ H3 b eo w3 => ?_, fun z => absurd ok.num z⟩
    subst eo
    have w4 : W H H3 (orL A b (order0 s.o.num) ++ ((l, .lst ((rowsP s).map V.str)) :: R)) := (w2.tr w3).pick 7 [0, 1, 2, 3, 4, 5]
    clear w1 w2 w3
    walk_at "rd"
    refine nums_at w4 tx.rb (by show 4 ≤ 60000; decide) fun H5 l5 w5 => ?_
    walk_at "rd"
    refine st_new w5 fun l6 H6 w6 => ?_
    replace w6 : W H H6 ((l6, .lst ([s.o.mixed, s.o.gone].map fun b => oV (bI b))) :: _) := w6
    walk_at "rd"
    refine (st_lcMap (zs := [s.o.mixed, s.o.gone]) (fun b => oV (bI b)) V.bl w6.now (Nat.le_of_ble_eq_true rfl) ?_ ?_).2 ⟨0, rfl⟩
    · intro D x P H' zs hx w1 _ kt
      walk_at "rd"
      refine xIf_T rfl ?_
      walk_at "rd"
      rw [← bI_eq x] at kt
      exact kt
    intro D H7 w7
    have w8 : W H H7 ((D, .lst [.bl s.o.mixed, .bl s.o.gone]) :: (orL A b (order0 s.o.num) ++ ((l, .lst ((rowsP s).map V.str)) :: R))) := (w6.tr w7).pick 3 [0]
    clear w4 w5 w6 w7
    walk_at "rd"
    refine sf_Order_is_mixed T w8 1 rfl fun H8 w9 => ?_
    walk_at "rd"
    refine sf_Order_is_gone T w9 1 rfl fun H9 w10 => ?_
    replace w10 := w10.drop1
    clear w8 w9
    walk_at "rd"
    refine nums_at w10 tx.rd (by show 3 ≤ 60000; decide) fun H11 l11 w11 => ?_
    walk_at "rd"
    refine st_new w11 fun l12 H12 w12 => ?_
    replace w12 : W H H12 ((l12, .lst [.int (s.o.q.tunes.length : Int), oV s.o.behind]) :: _) := w12
    clear w10 w11
    walk_at "rd"
    refine sf_Queue_last T w12 3 rfl fun H13 w13 => ?_
    walk_at "rd"
    refine sf_Order_behind T w13 2 rfl fun H14 w14 => ?_
    replace w14 := w14.drop1.drop1
    clear w12 w13
    walk_at "rd"
    refine sf_Order_again T w14 0 rfl fun H15 w15 => ?_
    clear w14
    walk_at "rd"
    refine nums_at w15 tx.tr (by rw [List.length_map]; omega) fun H16 l16 w16 => ?_
    walk_at "rd"
    refine sf_Queue_turn T w16 2 rfl fun H17 w17 => ?_
    clear w15 w16
    walk_at "rd"
    refine nums_at w17 tx.dk (by rw [List.length_map]; omega) fun H18 l18 w18 => ?_
    walk_at "rd"
    refine sf_Order_deck T w18 2 rfl fun H19 w19 => ?_
    clear w17 w18
    walk_at "rd"
    by_cases hx : s.o.q.tunes = []
    case' pos =>
      refine xIf_F (by rw [hx, nameT_nil]; decide +kernel) ?_
      walk_at "rd"
      refine st_new w19 fun l20 H20 w20 => ?_
      rw [show ([] : List V) = s.o.q.tunes.map V.str from by rw [hx]; rfl] at w20
    case' neg =>
      refine xIf_T (by rw [Bool.not_eq_true', decide_eq_false_iff_not]; exact fun z => nameT_ne tx.nm hx (V.str.inj z)) ?_
      walk_at "rd"
      refine st_split w19 (by decide +kernel) (by rw [nameT_S, SX.S_len]; have := nameL_len tx.nm; omega) fun l20 H20 w20 => ?_
      rw [nameT_split tx.nm hx] at w20
    all_goals
      clear w19
      walk_at "rd"
      refine st_lcPr (fun (i : Nat) => (Sum.inl ((i : Int) + 1), V.str (s.o.q.tunes.getD i ""))) w20.now (by rw [List.length_map]; omega) ?_ ?_
      · intro D i P H' xs hi w1 _ kt
        rw [List.length_map] at hi
        have hi2 : i < s.o.q.tunes.length := by omega
        have a1 : atI (s.o.q.tunes.map V.str) (0 + (i : Int)) = some (.str (s.o.q.tunes.getD i "")) := at_of (j := i) (by omega) (by rw [List.getElem?_map, List.getElem?_eq_getElem hi2, List.getD_eq_getElem?_getD, List.getElem?_eq_getElem hi2]; rfl)
        walk_at "rd"
        refine xIf_T rfl ?_
        walk_at "rd"
        rw [show (i : Int) + 1 = 0 + (i : Int) + 1 by omega] at kt
        exact kt
      intro D H21 xs w21 pr _
      rw [List.length_map, show ((s.o.q.tunes.length : Int)).toNat = s.o.q.tunes.length by omega, tunes_range] at pr
      walk_at "rd"
      refine st_dictP w21.now 0 rfl pr fun dd H22 w22 => ?_
      rw [show mergeK [] (tunesF 0 s.o.q.tunes) = tunesK s.o.q.tunes from merge_tunes s.o.q.tunes []] at w22
      have w23 := (w20.tr w21).tr w22
      clear w20 w21 w22
      walk_at "rd"
      refine sf_Queue_tunes T w23 6 rfl fun H24 w24 => ?_
      clear w23
      walk_at "rd"
      rw [← map_some, ← map_some] at w24
      exact k H24 { b with q := { b.q with d := dd, t := l16 }, k := l18 } (w24.pick 12 [5, 6, 0, 4, 9, 3, 11])
end
end TR

namespace TR
open PySem L2
@[irreducible] def sp_woken (A : Ads) : Sp := fun vs H Q _ => ∃ (sh : V) (s : Pl) (N : Nat) (R : List Ent), vs = [sh, .str (textP s)] ∧ W H H R ∧ Tx s ∧ s.o.Ok ∧ (0 ≤ s.ov ∧ s.ov ≤ 9) ∧ Sz s N ∧ N ≤ 40000 ∧
  ∀ H' a ov rs, W H H' (plL A a sh s ov rs ++ R) → PlF H' s ov rs → Q (.ref a.p) H'
theorem of_woken {A : Ads} {vs : List V} {H : Hp} {Q : VK} {E : XK} (h :  ∃ (sh : V) (s : Pl) (N : Nat) (R : List Ent), vs = [sh, .str (textP s)] ∧ W H H R ∧ Tx s ∧ s.o.Ok ∧ (0 ≤ s.ov ∧ s.ov ≤ 9) ∧ Sz s N ∧ N ≤ 40000 ∧
  ∀ H' a ov rs, W H H' (plL A a sh s ov rs ++ R) → PlF H' s ov rs → Q (.ref a.p) H') : sp_woken A vs H Q E := by unfold sp_woken; exact h
section
variable {P : Program} {w : World} {K : PySem.W.Frag} {mg : Str → Option Value} {base : Heap} {A : Ads}
theorem ok_woken (T : Txt K mg A) : FnOk P w K mg base (L2.CX P w) 7 A.f_woken A.d_woken P_woken (sp_woken A) := by
  refine T.F_woken.okX sc_woken (fun vs H Q E h => ?_) (fun cdv Ar outer s H vs Q E hr h => ?_)
  · unfold sp_woken at h; obtain ⟨sh, s, N, R, rfl, _⟩ := h; rfl
  · unfold sp_woken at h; obtain ⟨sh, s, N, R, rfl, w, tx, ok, hov, hz, hN, k⟩ := h
    refine ⟨_, (pss_cons (ps_set (i := 2) sc_woken.nd rfl (by first | exact Or.inl rfl | exact Or.inr rfl) (my_split (pv 1) pe_str))
      (pss_cons (ps_asg (my_call (ok_numbers_in T) (hr.mono (by decide)) (by rfl) T.g_numbers_in T.k_numbers_in T.b_numbers_in passE (pa_cons (pe_ix ix_list (pv 2) pe_int (fun _ _ => rfl)) pa_nil)) (pg_lst rfl (pgs_cons (pg_name (i := 3) sc_woken.nd rfl (by first | exact Or.inl rfl | exact Or.inr rfl)) (pgs_cons (pg_name (i := 4) sc_woken.nd rfl (by first | exact Or.inl rfl | exact Or.inr rfl)) (pgs_cons (pg_name (i := 5) sc_woken.nd rfl (by first | exact Or.inl rfl | exact Or.inr rfl)) (pgs_cons (pg_name (i := 6) sc_woken.nd rfl (by first | exact Or.inl rfl | exact Or.inr rfl)) (pgs_cons (pg_name (i := 7) sc_woken.nd rfl (by first | exact Or.inl rfl | exact Or.inr rfl)) pgs_nil)))))))
      (pss_cons (ps_set (i := 8) sc_woken.nd rfl (by first | exact Or.inl rfl | exact Or.inr rfl) (my_make T.M_Player (ok_Player_init__ T) (hr.mono (by decide)) (by rfl) T.g_Player T.b_Player_init__ passE (pa_cons (pv 0) (pa_cons (pv 3) (pa_cons pe_int pa_nil)))))
      (pss_cons (my_fld (pv 8) (my_call (ok_woken_order T) (hr.mono (by decide)) (by rfl) T.g_woken_order T.k_woken_order T.b_woken_order passE (pa_cons (pv 2) pa_nil)))
      (pss_cons (ps_asg (my_tup (pa_cons (pv 4) (pa_cons (pv 5) (pa_cons (pv 6) (pa_cons (pv 7) pa_nil))))) (pg_tup rfl (pgs_cons (pg_fld (pv 8)) (pgs_cons (pg_fld (pv 8)) (pgs_cons (pg_fld (pv 8)) (pgs_cons (pg_fld (pv 8)) pgs_nil))))))
      (pss_cons (ps_asg (my_lc (own := [("one", 9)]) rfl sc_woken.nd (pi_list (pe_slice my_sl (my_call (ok_numbers_in T) (hr.mono (by decide)) (by rfl) T.g_numbers_in T.k_numbers_in T.b_numbers_in passE (pa_cons (pe_ix ix_list (pv 2) pe_int (fun _ _ => rfl)) pa_nil)) po_none (po_some pe_int))) (blkOk_by (own := [("one", 9)]) (N := N_woken) (sc := defScope s_woken) (by decide +kernel)) (fun _ _ _ _ _ => (pg_name (i := 9) sc_woken.nd rfl (by first | exact Or.inl rfl | exact Or.inr rfl))) (fun _ _ _ _ _ => pts_nil) (fun _ _ _ _ _ => (pe_cmpR op_eq (pv 9) pe_int (nomark _)))) (pg_lst rfl (pgs_cons (pg_fld (pv 8)) (pgs_cons (pg_fld (pv 8)) pgs_nil))))
      (pss_cons (my_fld (pv 8) (my_ifExp (pt_cmpR op_ne (pe_ix ix_list (pv 2) pe_int (fun _ _ => rfl)) pe_str (nomark _)) (pe_callTy my_tupleOf (by rfl) T.z_tuple (by decide +kernel) (pa_cons (my_call (ok_numbers_in T) (hr.mono (by decide)) (by rfl) T.g_numbers_in T.k_numbers_in T.b_numbers_in passE (pa_cons (pe_ix ix_list (pv 2) pe_int (fun _ _ => rfl)) pa_nil)) pa_nil)) pe_non))
      (pss_cons (ps_asg (my_tup (pa_cons (my_call (ok_numbers_in T) (hr.mono (by decide)) (by rfl) T.g_numbers_in T.k_numbers_in T.b_numbers_in passE (pa_cons (pe_ix ix_list (pv 2) pe_int (fun _ _ => rfl)) pa_nil)) (pa_cons (my_call (ok_numbers_in T) (hr.mono (by decide)) (by rfl) T.g_numbers_in T.k_numbers_in T.b_numbers_in passE (pa_cons (pe_ix ix_list (pv 2) pe_int (fun _ _ => rfl)) pa_nil)) pa_nil))) (pg_tup rfl (pgs_cons (pg_fld (pv 8)) (pgs_cons (pg_fld (pv 8)) pgs_nil))))
      (pss_cons (my_fld (pv 8) (my_listZip rfl (by rfl) T.z_list (by rfl) T.z_zip (pa_cons (my_call (ok_numbers_in T) (hr.mono (by decide)) (by rfl) T.g_numbers_in T.k_numbers_in T.b_numbers_in passE (pa_cons (pe_ix ix_list (pv 2) pe_int (fun _ _ => rfl)) pa_nil)) (pa_cons (my_call (ok_numbers_in T) (hr.mono (by decide)) (by rfl) T.g_numbers_in T.k_numbers_in T.b_numbers_in passE (pa_cons (pe_ix ix_list (pv 2) pe_int (fun _ _ => rfl)) pa_nil)) pa_nil))))
      (pss_one (ps_ret (pv 8)))))))))))), ?_⟩
    have hzr := hz.r
    have hzp := hz.p
    have hzs := hz.s
    have hturn := ok.q.sz
    have htz := ok.q.tz
    have hdeck : s.o.deck.length ≤ 12 := Nat.le_trans (nodup_len ok.nd ok.sub) ok.q.sz
    have r0 : atI ((rowsP s).map V.str) 0 = some (.str (rowT [some s.ov, some s.time, s.now, some s.spot, s.sleep])) := rfl
    have r1 : atI ((rowsP s).map V.str) 1 = some (.str (rowT [bI s.plays, bI s.stops, bI s.o.mixed, bI s.o.gone])) := rfl
    have r4 : atI ((rowsP s).map V.str) 4 = some (.str (rowT (oldO s.old))) := rfl
    have r5 : atI ((rowsP s).map V.str) 5 = some (.str (rowT (s.soon.map some))) := rfl
    have r6 : atI ((rowsP s).map V.str) 6 = some (.str (rowT (s.past.map some))) := rfl
    have r10 : atI ((rowsP s).map V.str) 10 = some (.str (rowT (s.rows.map fun r => some r.1))) := rfl
    have r11 : atI ((rowsP s).map V.str) 11 = some (.str (rowT (s.rows.map fun r => some r.2))) := rfl
    walk_at "rd"
    refine st_split w (by decide +kernel) (by have := tx.len (N := N + 1000) (hz.mono (by omega)) (by omega) (by omega) (by omega) (by omega); omega) fun rl H1 w1 => ?_
    rw [tx.split] at w1
    walk_at "rd"
    refine nums_at w1 tx.r0 (by show 5 ≤ 60000; decide) fun H2 l2 w2 => ?_
    clear w1
    walk_at "rd"
    replace w2 := w2.drop1
    refine st_make w2 fun pp dx H3 w3 => ?_
    refine of_Player_init ⟨pp, dx, sh, s.ov, 0, _, rfl, w3.now, fun _ H4 ap eap w4 => ?_, fun z => absurd ⟨hov, by decide, by decide⟩ z⟩
    subst eap
    have w5 : W H H4 (plL A ap sh (pl0 s.ov 0) .non [] ++ ((rl, .lst ((rowsP s).map V.str)) :: R)) := w3.tr w4
    clear w2 w3 w4
    walk_at "rd"
    refine st_call (of_woken_order ⟨rl, s, N, _, rfl, (w5.rot 10 1).now, tx, ok, hz, hN, fun H6 ao w6 => ?_⟩)
    have w7 := w5.tr w6
    clear w5 w6
    have w8 := w7.pick 17 [7, 6, 0, 1, 2, 3, 4, 5]
    clear w7
    walk_at "rd"
    refine sf_Player_order T w8 0 rfl fun H7 w9 => ?_
    clear w8
    walk_at "rd"
    refine st_new w9 fun t4 H8 w10 => ?_
    clear w9
    walk_at "rd"
    refine sf_Player_time T w10 1 rfl fun H9 w11 => ?_
    clear w10
    walk_at "rd"
    refine sf_Player_now T w11 1 rfl fun H10 w12 => ?_
    clear w11
    walk_at "rd"
    refine sf_Player_spot T w12 1 rfl fun H11 w13 => ?_
    clear w12
    walk_at "rd"
    refine sf_Player_sleep_left T w13 1 rfl fun H12 w14 => ?_
    clear w13
    replace w14 : W H H12 ((ap.p, .ins A.c_Player ap.dx (fl_Player sh (.int s.ov) (.ref ao.o) (.int s.time) (oV s.now) (.int s.spot) .non (.ref ap.so) (.ref ap.pa) (.ref ap.ro) (.bl false) (.bl false) (oV s.sleep))) :: (rl, .lst ((rowsP s).map V.str)) :: (orL A ao s.o ++ R)) := w14.drop1
    walk_at "rd"
    refine nums_at w14 tx.rb (by show 4 ≤ 60000; decide) fun H13 l13 w15 => ?_
    walk_at "rd"
    refine st_new w15 fun l14 H14 w16 => ?_
    replace w16 : W H H14 ((l14, .lst ([s.plays, s.stops].map fun b => oV (bI b))) :: _) := w16
    walk_at "rd"
    refine (st_lcMap (zs := [s.plays, s.stops]) (fun b => oV (bI b)) V.bl w16.now (Nat.le_of_ble_eq_true rfl) ?_ ?_).2 ⟨0, rfl⟩
    · intro D x P H' zs hx w1 _ kt
      walk_at "rd"
      refine xIf_T rfl ?_
      walk_at "rd"
      rw [← bI_eq x] at kt
      exact kt
    intro D H15 w17
    have w18 := (w16.tr w17).pick 4 [0, 3]
    clear w14 w15 w16 w17
    walk_at "rd"
    refine sf_Player_is_playing T w18 1 rfl fun H16 w19 => ?_
    clear w18
    walk_at "rd"
    refine sf_Player_stops T w19 1 rfl fun H17 w20 => ?_
    clear w19
    replace w20 : W H H17 ((ap.p, .ins A.c_Player ap.dx (fl_Player sh (.int s.ov) (.ref ao.o) (.int s.time) (oV s.now) (.int s.spot) .non (.ref ap.so) (.ref ap.pa) (.ref ap.ro) (.bl s.plays) (.bl s.stops) (oV s.sleep))) :: (rl, .lst ((rowsP s).map V.str)) :: (orL A ao s.o ++ R)) := w20.drop1
    walk_at "rd"
    cases hod : s.old
    case' none =>
      refine xIf_F (by rw [show rowT (oldO none) = "" from rowT_nil]; decide +kernel) ?_
      walk_at "rd"
      refine sf_Player_old T w20 0 rfl fun H18 w21 => ?_
      obtain ⟨ov, eov⟩ : ∃ ov : V, ov = .non := ⟨_, rfl⟩
      have hO : OldAt H18 ov s.old := by rw [hod]; exact eov
      rw [← eov] at w21
    case' some q =>
      obtain ⟨e, p, l⟩ := q
      have htx := tx.od
      rw [hod] at htx
      refine xIf_T (by rw [Bool.not_eq_true', decide_eq_false_iff_not]; exact fun z => rowT_ne htx (List.cons_ne_nil _ _) (V.str.inj z)) ?_
      walk_at "rd"
      refine nums_at w20 tx.od (by rw [hod]; exact Nat.le_of_ble_eq_true rfl) fun H18a l18 w20a => ?_
      rw [hod] at w20a
      walk_at "rd"
      refine st_tupOf w20a 0 rfl fun q18 H18b w20b => ?_
      walk_at "rd"
      refine sf_Player_old T w20b 2 rfl fun H18 w20c => ?_
      have hq := w20c.get 0 rfl
      have w21 := w20c.drop1.drop1
      obtain ⟨ov, eov⟩ : ∃ ov : V, ov = .ref q18 := ⟨_, rfl⟩
      have hO : OldAt H18 ov s.old := by rw [hod]; exact ⟨q18, eov, hq⟩
      rw [← eov] at w21
      clear w20a w20b w20c
    all_goals
      replace w21 : W H H18 ((ap.p, .ins A.c_Player ap.dx (fl_Player sh (.int s.ov) (.ref ao.o) (.int s.time) (oV s.now) (.int s.spot) ov (.ref ap.so) (.ref ap.pa) (.ref ap.ro) (.bl s.plays) (.bl s.stops) (oV s.sleep))) :: (rl, .lst ((rowsP s).map V.str)) :: (orL A ao s.o ++ R)) := w21
      clear w20
      have v21 := w21.now
      walk_at "rd"
      refine nums_at v21 tx.so (by rw [List.length_map]; omega) fun H19 l19 v22 => ?_
      walk_at "rd"
      refine nums_at v22 tx.pa (by rw [List.length_map]; omega) fun H20 l20 v23 => ?_
      clear v21 v22
      walk_at "rd"
      refine st_new v23 fun t21 H21 v24 => ?_
      clear v23
      walk_at "rd"
      refine sf_Player_soon T v24 3 rfl fun H22 v25 => ?_
      clear v24
      walk_at "rd"
      refine sf_Player_past T v25 3 rfl fun H23 v26 => ?_
      clear v25
      replace v26 := v26.drop1
      rw [← map_some, ← map_some] at v26
      walk_at "rd"
      refine nums_at v26 tx.r1 (by rw [List.length_map]; omega) fun H24 l24 v27 => ?_
      walk_at "rd"
      refine nums_at v27 tx.r2 (by rw [List.length_map]; omega) fun H25 l25 v28 => ?_
      clear v26 v27
      rw [show (s.rows.map fun r => some r.1).map oV = (s.rows.map (·.1)).map V.int from by rw [List.map_map, List.map_map]; rfl, show (s.rows.map fun r => some r.2).map oV = (s.rows.map (·.2)).map V.int from by rw [List.map_map, List.map_map]; rfl] at v28
      walk_at "rd"
      refine st_listZip (r := s.rows) v28 1 0 rfl rfl (by omega) fun S H26 zs v29 rz => ?_
      clear v28
      walk_at "rd"
      refine sf_Player_rows T v29.now 5 rfl fun H27 v30 => ?_
      have v31 := v29.tr v30
      walk_at "rd"
      exact k H27 ⟨ap.p, ap.dx, l19, l20, S, ao⟩ ov zs (w21.tr (v31.pick 13 [5, 4, 3, 0, 7, 8, 9, 10, 11, 12])) ⟨hO.mono v31.tp, rz.mono v30.tp⟩
end
end TR
namespace TR
open PySem L2
/-! ### the law's calls, as plain functions of the draws -/
def names6 : List Str := ["a", "b", "c", "d", "ee", "sixabc"]
def agains4 : List Str := ["none", "all", "all", "one"]
def turnAt (s : Pl) (i : Int) : Int := s.o.q.turn.getD i.toNat 0
def queueP (ns : List Int) (n : Nat) (s : Pl) : Nat × Pl :=
  if drawP ns n 6 < 3 ∨ s.o.q.turn = [] then
    if s.o.q.turn.length = 12 then (n + 1, s)
    else (n + 3, addP s (names6.getD (drawP ns (n + 1) 6).toNat "") (drawP ns (n + 2) ((s.o.q.turn.length : Int) + 1)))
  else if drawP ns n 6 = 3 then (n + 2, removeP s (turnAt s (drawP ns (n + 1) s.o.q.turn.length)))
  else if drawP ns n 6 = 4 then (n + 3, moveP s (turnAt s (drawP ns (n + 1) s.o.q.turn.length)) (drawP ns (n + 2) s.o.q.turn.length))
  else (n + 2, soonP s (turnAt s (drawP ns (n + 1) s.o.q.turn.length)))
def pauseP (s : Pl) : Pl := { s with plays := false }
def stopP (s : Pl) (b : Bool) : Pl := { s with stops := b }
def sleepS (s : Pl) (m : Option Int) : Pl := { s with sleep := m }
def wayP (f : Sf) (ns : List Int) (n : Nat) (s : Pl) : Nat × Pl :=
  if drawP ns n 9 = 0 then (n + 2, againS s (agains4.getD (drawP ns (n + 1) 4).toNat ""))
  else if drawP ns n 9 = 1 then (n + 2, mixedP s (decide (drawP ns (n + 1) 2 = 0)))
  else if drawP ns n 9 = 2 ∧ s.o.q.turn ≠ [] then (n + 2, playP f s (turnAt s (drawP ns (n + 1) s.o.q.turn.length)))
  else if drawP ns n 9 = 3 then (n + 1, backP f s)
  else if drawP ns n 9 = 4 then (n + 1, skipP f s)
  else if drawP ns n 9 = 5 then (n + 2, stopP s (decide (drawP ns (n + 1) 3 = 0)))
  else if drawP ns n 9 = 6 then (n + 3, sleepS s ([none, some 1, some 5, some (1 + drawP ns (n + 1) 50)].getD (drawP ns (n + 2) 4).toNat none))
  else match s.now with
    | some e => if drawP ns n 9 = 7 then (n + 2, seekP s (drawP ns (n + 1) (longO f s.o e))) else (n + 1, pauseP s)
    | none => (n + 1, pauseP s)
def callP (f : Sf) (ns : List Int) (n : Nat) (s : Pl) : Nat × Pl :=
  if drawP ns n 8 < 2 then queueP ns (n + 1) s
  else if drawP ns n 8 < 4 then wayP f ns (n + 1) s
  else if drawP ns n 8 = 4 then (n + 1, resumeP f s)
  else (n + 3, tickP f ([0, 1, 1, 3, 20, drawP ns (n + 1) 60].getD (drawP ns (n + 2) 6).toNat 0).toNat s)
/-- all six names are on the shelf -/
def Full (f : Sf) : Prop := ∀ x ∈ names6, ∃ n, f.lookup x = some n ∧ 1 ≤ n ∧ n ≤ 40
theorem turnAt_mem {s : Pl} {i : Int} (h0 : 0 ≤ i) (h1 : i < s.o.q.turn.length) : turnAt s i ∈ s.o.q.turn := by
  unfold turnAt
  have hl : i.toNat < s.o.q.turn.length := by omega
  rw [List.getD_eq_getElem?_getD, List.getElem?_eq_getElem hl]
  exact List.getElem_mem hl
theorem turnAt_draw {s : Pl} (ns : List Int) (n : Nat) (h : s.o.q.turn ≠ []) : turnAt s (drawP ns n s.o.q.turn.length) ∈ s.o.q.turn := by
  have hl := List.length_pos_iff.mpr h
  exact turnAt_mem (drawP_nn ns n (by omega)) (drawP_lt ns n (by omega))
theorem names6_mem {i : Int} (h0 : 0 ≤ i) (h1 : i < 6) : names6.getD i.toNat "" ∈ names6 := by
  have hl : i.toNat < names6.length := by show i.toNat < 6; omega
  rw [List.getD_eq_getElem?_getD, List.getElem?_eq_getElem hl]
  exact List.getElem_mem hl
theorem queueP_ok {f : Sf} {ns : List Int} {n : Nat} {s : Pl} (ok : s.Ok f) (hf : Full f) (ht : s.o.q.tunes.length < 1000) : (queueP ns n s).2.Ok f := by
  unfold queueP
  split
  · split
    · exact ok
    · rename_i h12
      exact ok.add (hf _ (names6_mem (drawP_nn _ _ (by decide)) (drawP_lt _ _ (by decide)))) h12 ht
  · rename_i hc
    have hne : s.o.q.turn ≠ [] := fun z => hc (.inr z)
    split
    · exact ok.remove (turnAt_draw ns (n + 1) hne)
    · split
      · exact ok.move (turnAt_draw ns (n + 1) hne)
      · exact ok.playSoon (turnAt_draw ns (n + 1) hne)
theorem wayP_ok {f : Sf} {ns : List Int} {n : Nat} {s : Pl} (ok : s.Ok f) : (wayP f ns n s).2.Ok f := by
  unfold wayP
  split
  · exact ok.again _
  split
  · exact ok.mixed _
  split
  · rename_i h
    exact ok.play (turnAt_draw ns (n + 1) h.2)
  split
  · exact ok.back
  split
  · exact ok.skip
  split
  · exact ok.stop _
  split
  · refine ok.sleep fun k hk => ?_
    have hd := drawP_nn ns (n + 1) (m := 50) (by decide)
    have hi := drawP_nn ns (n + 2) (m := 4) (by decide)
    have hj := drawP_lt ns (n + 2) (m := 4) (by decide)
    obtain ⟨i, ei⟩ : ∃ i : Nat, (drawP ns (n + 2) 4).toNat = i := ⟨_, rfl⟩
    rw [ei] at hk
    have : i < 4 := by omega
    match i, this with
    | 0, _ => cases hk
    | 1, _ => cases hk; decide
    | 2, _ => cases hk; decide
    | 3, _ =>
      have e : some (1 + drawP ns (n + 1) 50) = some k := hk
      have := Option.some.inj e
      omega
  split
  · rename_i e he
    split
    · have hk := (ok.tn.kn (ok.nw e he).1).lo
      exact ok.seek he (drawP_nn _ _ (by omega)) (drawP_lt _ _ (by omega))
    · exact ok.pause
  · exact ok.pause
theorem callP_ok {f : Sf} {ns : List Int} {n : Nat} {s : Pl} (ok : s.Ok f) (hf : Full f) (ht : s.o.q.tunes.length < 1000) : (callP f ns n s).2.Ok f := by
  unfold callP
  split
  · exact queueP_ok ok hf ht
  split
  · exact wayP_ok ok
  split
  · exact ok.resume
  · exact Pl.Ok.tick _ ok
/-! sizes -/
def tl (s : Pl) : Nat := s.o.q.tunes.length
theorem tl_put (s : Pl) (x : Str) (p : Int) : tl (addP s x p) = tl s + 1 := by
  unfold tl addP
  rw [putO_q]
  show (s.o.q.tunes ++ [x]).length = _
  rw [List.length_append]
  rfl
theorem Sz.push {s : Pl} {n : Nat} (h : Sz s n) : (pushN s).past.length ≤ n + 1 ∧ (pushN s).rows = s.rows ∧ (pushN s).soon = s.soon ∧ (pushN s).o = s.o := by
  unfold pushN
  split
  · exact ⟨Nat.le_succ_of_le h.p, rfl, rfl, rfl⟩
  · refine ⟨?_, rfl, rfl, rfl⟩
    show (s.past ++ [_]).length ≤ _
    rw [List.length_append]
    exact Nat.succ_le_succ h.p
theorem Sz.play {f : Sf} {s : Pl} {n : Nat} (h : Sz s n) (e : Int) : Sz (playP f s e) (n + 1) := by
  obtain ⟨a, b, c, _⟩ := h.push
  have h1 := Sz.begin (f := f) (s := pushN s) (n := n) (by rw [b]; exact h.r) a (by rw [c]; exact Nat.le_succ_of_le h.s) (some e) false
  exact ⟨h1.r, h1.p, h1.s⟩
theorem Sz.skip {f : Sf} {s : Pl} {n : Nat} (h : Sz s n) : Sz (skipP f s) (n + 1) := by
  obtain ⟨x, y, z⟩ := nextS_len s true
  have h0 : Sz (nextS s true) n := ⟨by rw [x]; exact h.r, by rw [y]; exact h.p, Nat.le_trans z h.s⟩
  obtain ⟨a, b, c, _⟩ := h0.push
  have h1 := Sz.begin (f := f) (s := pushN (nextS s true)) (n := n) (by rw [b]; exact h0.r) a (by rw [c]; exact Nat.le_succ_of_le h0.s) (nextV s true) false
  exact ⟨h1.r, h1.p, h1.s⟩
theorem Sz.resume {f : Sf} {s : Pl} {n : Nat} (h : Sz s n) : Sz (resumeP f s) (n + 1) := by
  have h1 := h.mono (Nat.le_succ n)
  unfold resumeP
  split
  · exact ⟨h1.r, h1.p, h1.s⟩
  · split
    · rename_i x r e
      have hr : r.length ≤ n + 1 := by
        have := h.s
        rw [e, List.length_cons] at this
        omega
      have h2 := Sz.begin (f := f) (s := { s with soon := r }) (n := n) h.r h1.p hr (some x) false
      exact ⟨h2.r, h2.p, h2.s⟩
    · split
      · exact ⟨h1.r, h1.p, h1.s⟩
      · rename_i x hx
        have h2 := Sz.begin (f := f) (s := { s with o := firstS s.o }) (n := n) h.r h1.p h1.s (some x) false
        exact ⟨h2.r, h2.p, h2.s⟩
theorem Sz.again {f : Sf} {s : Pl} {n : Nat} (h : Sz s n) : Sz (againP f s) (n + 1) := by
  unfold againP
  split
  · exact h.mono (Nat.le_succ n)
  · exact Sz.begin h.r (Nat.le_succ_of_le h.p) (Nat.le_succ_of_le h.s) _ _
theorem Sz.back {f : Sf} {s : Pl} {n : Nat} (h : Sz s n) : Sz (backP f s) (n + 1) := by
  have hd := Nat.le_trans (dropT_len s.o.q.turn s.past) h.p
  have h1 : Sz { s with past := dropT s.o.q.turn s.past } n := ⟨h.r, hd, h.s⟩
  unfold backP
  split
  · exact h1.again
  · split
    · exact h1.again
    · refine Sz.begin (s := { s with past := (dropT s.o.q.turn s.past).dropLast, soon := backSoon s }) h.r ?_ ?_ _ _
      · show (dropT s.o.q.turn s.past).dropLast.length ≤ _
        rw [List.length_dropLast]
        omega
      · show (backSoon s).length ≤ _
        have := h.s
        unfold backSoon
        split
        · omega
        · split
          · rw [List.length_cons]; omega
          · omega
theorem queueP_sz {ns : List Int} {n N : Nat} {s : Pl} (h : Sz s N) : Sz (queueP ns n s).2 (N + 1) ∧ tl (queueP ns n s).2 ≤ tl s + 1 ∧ (queueP ns n s).1 ≤ n + 3 := by
  have h1 := h.mono (Nat.le_succ N)
  unfold queueP
  split
  · split
    · exact ⟨h1, Nat.le_succ _, by show n + 1 ≤ n + 3; omega⟩
    · exact ⟨⟨h1.r, h1.p, h1.s⟩, Nat.le_of_eq (tl_put _ _ _), Nat.le_refl _⟩
  · split
    · exact ⟨⟨h1.r, h1.p, Nat.le_trans (List.length_filter_le _ _) h1.s⟩, Nat.le_succ _, by show n + 2 ≤ n + 3; omega⟩
    · split
      · exact ⟨⟨h1.r, h1.p, h1.s⟩, Nat.le_succ _, Nat.le_refl _⟩
      · refine ⟨⟨h1.r, h1.p, ?_⟩, Nat.le_succ _, by show n + 2 ≤ n + 3; omega⟩
        show (s.soon ++ [_]).length ≤ _
        rw [List.length_append]
        exact Nat.succ_le_succ h.s
theorem tl_q {s s' : Pl} (h : s'.o.q = s.o.q) : tl s' ≤ tl s + 1 := by unfold tl; rw [h]; exact Nat.le_succ _
theorem pushN_o (s : Pl) : (pushN s).o = s.o := by unfold pushN; split <;> rfl
theorem beginP_oq (f : Sf) (s : Pl) (e : Option Int) (j : Bool) : (beginP f s e j).o.q = s.o.q := by cases e <;> rfl
theorem againP_q (f : Sf) (s : Pl) : (againP f s).o.q = s.o.q := by
  unfold againP
  split
  · rfl
  · exact beginP_oq _ _ _ _
theorem backP_q (f : Sf) (s : Pl) : (backP f s).o.q = s.o.q := by
  unfold backP
  split
  · exact againP_q _ _
  · split
    · exact againP_q _ _
    · exact beginP_oq _ _ _ _
theorem playP_q (f : Sf) (s : Pl) (e : Int) : (playP f s e).o.q = s.o.q := by
  show (beganO (pushN s).o e).q = _
  rw [pushN_o]; rfl
theorem skipP_q (f : Sf) (s : Pl) : (skipP f s).o.q = s.o.q := by
  show (beginP f (pushN (nextS s true)) (nextV s true) false).o.q = _
  rw [beginP_oq, pushN_o, nextS_o]
theorem resumeP_q (f : Sf) (s : Pl) : (resumeP f s).o.q = s.o.q := by
  unfold resumeP
  split
  · rfl
  · split
    · rfl
    · split
      · exact firstS_q _
      · exact firstS_q _
theorem turnP_q (f : Sf) (s : Pl) : (turnP f s).o.q = s.o.q := by
  unfold turnP
  split
  · rfl
  · split
    · split
      · show (nextS s false).o.q = _
        exact nextS_o _ _
      · rfl
    · split <;> rfl
theorem stepP_q (f : Sf) (s : Pl) : (stepP f s).o.q = s.o.q := by
  unfold stepP
  rw [(sleepP_same _).2.2.1, turnP_q]
  rfl
theorem tickP_q (f : Sf) : ∀ (n : Nat) (s : Pl), (tickP f n s).o.q = s.o.q
  | 0, _ => rfl
  | n + 1, s => by
    show (tickP f n (tick1 f s)).o.q = _
    rw [tickP_q f n]
    unfold tick1
    split
    · exact stepP_q f s
    · rfl
theorem wayP_sz {f : Sf} {ns : List Int} {n N : Nat} {s : Pl} (h : Sz s N) : Sz (wayP f ns n s).2 (N + 1) ∧ tl (wayP f ns n s).2 ≤ tl s + 1 ∧ (wayP f ns n s).1 ≤ n + 3 := by
  have h1 := h.mono (Nat.le_succ N)
  unfold wayP
  split
  · exact ⟨⟨h1.r, h1.p, h1.s⟩, Nat.le_succ _, by show n + 2 ≤ n + 3; omega⟩
  split
  · exact ⟨⟨h1.r, h1.p, h1.s⟩, tl_q (setM_q _ _ _), by show n + 2 ≤ n + 3; omega⟩
  split
  · exact ⟨h.play _, tl_q (playP_q _ _ _), by show n + 2 ≤ n + 3; omega⟩
  split
  · exact ⟨h.back, tl_q (backP_q _ _), by show n + 1 ≤ n + 3; omega⟩
  split
  · exact ⟨h.skip, tl_q (skipP_q _ _), by show n + 1 ≤ n + 3; omega⟩
  split
  · exact ⟨⟨h1.r, h1.p, h1.s⟩, Nat.le_succ _, by show n + 2 ≤ n + 3; omega⟩
  split
  · exact ⟨⟨h1.r, h1.p, h1.s⟩, Nat.le_succ _, by show n + 3 ≤ n + 3; omega⟩
  split
  · split
    · exact ⟨⟨h1.r, h1.p, h1.s⟩, Nat.le_succ _, by show n + 2 ≤ n + 3; omega⟩
    · exact ⟨⟨h1.r, h1.p, h1.s⟩, Nat.le_succ _, by show n + 1 ≤ n + 3; omega⟩
  · exact ⟨⟨h1.r, h1.p, h1.s⟩, Nat.le_succ _, by show n + 1 ≤ n + 3; omega⟩
theorem many_le {ns : List Int} {n : Nat} : 0 ≤ ([0, 1, 1, 3, 20, drawP ns (n + 1) 60].getD (drawP ns (n + 2) 6).toNat 0) ∧ ([0, 1, 1, 3, 20, drawP ns (n + 1) 60].getD (drawP ns (n + 2) 6).toNat 0) ≤ 59 := by
  have hd := drawP_nn ns (n + 1) (m := 60) (by decide)
  have hd2 := drawP_lt ns (n + 1) (m := 60) (by decide)
  have hj := drawP_lt ns (n + 2) (m := 6) (by decide)
  obtain ⟨i, ei⟩ : ∃ i : Nat, (drawP ns (n + 2) 6).toNat = i := ⟨_, rfl⟩
  rw [ei]
  have : i < 6 := by omega
  match i, this with
  | 0, _ => exact ⟨by show (0 : Int) ≤ 0; decide, by show (0 : Int) ≤ 59; decide⟩
  | 1, _ => exact ⟨by show (0 : Int) ≤ 1; decide, by show (1 : Int) ≤ 59; decide⟩
  | 2, _ => exact ⟨by show (0 : Int) ≤ 1; decide, by show (1 : Int) ≤ 59; decide⟩
  | 3, _ => exact ⟨by show (0 : Int) ≤ 3; decide, by show (3 : Int) ≤ 59; decide⟩
  | 4, _ => exact ⟨by show (0 : Int) ≤ 20; decide, by show (20 : Int) ≤ 59; decide⟩
  | 5, _ => exact ⟨hd, by show drawP ns (n + 1) 60 ≤ 59; omega⟩
theorem callP_sz {f : Sf} {ns : List Int} {n N : Nat} {s : Pl} (h : Sz s N) : Sz (callP f ns n s).2 (N + 60) ∧ tl (callP f ns n s).2 ≤ tl s + 1 ∧ (callP f ns n s).1 ≤ n + 4 := by
  unfold callP
  split
  · obtain ⟨a, b, c⟩ := queueP_sz (ns := ns) (n := n + 1) h
    exact ⟨a.mono (by omega), b, by omega⟩
  split
  · obtain ⟨a, b, c⟩ := wayP_sz (f := f) (ns := ns) (n := n + 1) h
    exact ⟨a.mono (by omega), b, by omega⟩
  split
  · exact ⟨h.resume.mono (by omega), tl_q (resumeP_q _ _), by show n + 1 ≤ n + 4; omega⟩
  · have hm := many_le (ns := ns) (n := n)
    exact ⟨(Sz.tick (f := f) _ h).mono (by omega), tl_q (tickP_q _ _ _), by show n + 3 ≤ n + 4; omega⟩
end TR
namespace TR
open PySem L2
/-! ### what texts can tell of a player stays so -/
structure Nb (s : Pl) (t : Nat) : Prop where
  tm : 0 ≤ s.time ∧ s.time ≤ t
  sl : ∀ k, s.sleep = some k → k ≤ 60
  od : ∀ e p l, s.old = some (e, p, l) → 0 ≤ p ∧ p ≤ 100 ∧ 0 ≤ l ∧ l ≤ 100
  rw_ : ∀ r ∈ s.rows, 0 ≤ r.1 ∧ r.1 ≤ t ∧ s.o.has r.2
  bh : ∀ b, s.o.behind = some b → s.o.has b
  ag : s.o.again ∈ repeats
theorem Nb.mono {s : Pl} {t u : Nat} (h : Nb s t) (hu : t ≤ u) : Nb s u := ⟨⟨h.tm.1, by have := h.tm.2; omega⟩, h.sl, h.od, (fun r hr => ⟨(h.rw_ r hr).1, by have := (h.rw_ r hr).2.1; omega, (h.rw_ r hr).2.2⟩), h.bh, h.ag⟩
/-- an order of the same queue -/
def SmO (o o' : Or) : Prop := o'.q = o.q ∧ o'.behind = o.behind ∧ o'.again = o.again
theorem SmO.refl (o : Or) : SmO o o := ⟨rfl, rfl, rfl⟩
theorem refill_sm (o : Or) (e : Option Int) : SmO o (refill o e) := by unfold refill; split <;> exact ⟨rfl, rfl, rfl⟩
theorem skipS_sm (o : Or) (e : Option Int) : SmO o (skipS o e) := by
  unfold skipS
  split
  · have := refill_sm o e
    exact ⟨this.1, this.2.1, this.2.2⟩
  · exact SmO.refl o
theorem afterS_sm (o : Or) (e : Option Int) : SmO o (afterS o e) := by
  unfold afterS
  split
  · exact SmO.refl o
  · exact skipS_sm o e
theorem firstS_sm (o : Or) : SmO o (firstS o) := by
  unfold firstS
  split
  · unfold popS fillF
    split <;> exact ⟨rfl, rfl, rfl⟩
  · exact SmO.refl o
theorem setM_sm (o : Or) (b : Bool) (e : Option Int) : SmO o (setM o b e) := by
  unfold setM
  split
  · split
    · exact SmO.refl o
    · exact ⟨rfl, rfl, rfl⟩
  · exact ⟨rfl, rfl, rfl⟩
theorem Nb.order {s : Pl} {t : Nat} (h : Nb s t) {o : Or} (ho : SmO s.o o) : Nb { s with o := o } t :=
  ⟨h.tm, h.sl, h.od, (fun r hr => ⟨(h.rw_ r hr).1, (h.rw_ r hr).2.1, has_q ho.1 (h.rw_ r hr).2.2⟩), (fun b hb => has_q ho.1 (h.bh b (by rw [← ho.2.1]; exact hb))), by show o.again ∈ repeats; rw [ho.2.2]; exact h.ag⟩
theorem Nb.same {s s' : Pl} {t : Nat} (h : Nb s t) (h1 : s'.time = s.time) (h2 : s'.sleep = s.sleep) (h3 : s'.old = s.old) (h4 : s'.rows = s.rows) (h5 : s'.o = s.o) : Nb s' t :=
  ⟨by rw [h1]; exact h.tm, by rw [h2]; exact h.sl, by rw [h3]; exact h.od, by rw [h4, h5]; exact h.rw_, by rw [h5]; exact h.bh, by rw [h5]; exact h.ag⟩
theorem Nb.next {s : Pl} {t : Nat} (h : Nb s t) (l : Bool) : Nb (nextS s l) t := by
  unfold nextS
  split
  · exact h.same rfl rfl rfl rfl rfl
  · refine h.order ?_
    split
    · exact skipS_sm _ _
    · exact afterS_sm _ _
theorem Nb.push {s : Pl} {t : Nat} (h : Nb s t) : Nb (pushN s) t := by
  unfold pushN
  split
  · exact h
  · exact h.same rfl rfl rfl rfl rfl
/-- one begins -/
theorem Nb.begin {f : Sf} {s : Pl} {t : Nat} (h : Nb s t) {e : Option Int} {j : Bool} (he : ∀ x, e = some x → s.o.has x) (hj : j = true → ∀ n, s.now = some n → 0 ≤ s.spot ∧ s.spot ≤ longO f s.o n ∧ longO f s.o n ≤ 40) : Nb (beginP f s e j) t := by
  have ho : ∀ a p l, oldJ f s j = some (a, p, l) → 0 ≤ p ∧ p ≤ 100 ∧ 0 ≤ l ∧ l ≤ 100 := fun a p l z => by
    unfold oldJ at z
    split at z
    · rename_i hjt
      cases hn : s.now with
      | none => rw [hn] at z; cases z
      | some n =>
        rw [hn] at z
        cases z
        have := hj hjt _ hn
        omega
    · cases z
  cases e with
  | none => exact ⟨h.tm, h.sl, ho, h.rw_, h.bh, h.ag⟩
  | some x =>
    refine ⟨h.tm, h.sl, ho, fun r hr => ?_, h.bh, h.ag⟩
    rcases List.mem_append.mp hr with q | q
    · exact h.rw_ r q
    · rw [List.mem_singleton.mp q]
      exact ⟨h.tm.1, h.tm.2, he x rfl⟩
theorem Nb.resume {f : Sf} {s : Pl} {t : Nat} (h : Nb s t) (ok : s.Ok f) : Nb (resumeP f s) t := by
  unfold resumeP
  split
  · exact h.same rfl rfl rfl rfl rfl
  · split
    · rename_i x r e
      have h2 : Nb { s with soon := r } t := h.same rfl rfl rfl rfl rfl
      exact (h2.begin (f := f) (e := some x) (j := false) (fun y hy => by cases hy; exact ok.o.has (ok.sn x (by rw [e]; exact List.mem_cons_self))) (fun z => nomatch z)).same rfl rfl rfl rfl rfl
    · have h2 := h.order (firstS_sm s.o)
      split
      · exact h2.same rfl rfl rfl rfl rfl
      · rename_i x hx
        exact (h2.begin (f := f) (e := some x) (j := false) (fun y hy => by cases hy; exact has_q (firstS_q s.o) (ok.o.has (firstV_mem ok.o hx))) (fun z => nomatch z)).same rfl rfl rfl rfl rfl
theorem Nb.skip {f : Sf} {s : Pl} {t : Nat} (h : Nb s t) (ok : s.Ok f) : Nb (skipP f s) t := by
  unfold skipP
  have h1 := (h.next true).push
  have eo : (pushN (nextS s true)).o = (nextS s true).o := by unfold pushN; split <;> rfl
  refine (h1.begin (f := f) (e := nextV s true) (j := false) (fun x hx => ?_) (fun z => nomatch z)).same rfl rfl rfl rfl rfl
  rw [eo]
  exact has_q (nextS_o s true) (ok.o.has (nextV_mem ok.o ok.sn hx))
theorem Nb.play {f : Sf} {s : Pl} {t : Nat} (h : Nb s t) (ok : s.Ok f) {e : Int} (he : e ∈ s.o.q.turn) : Nb (playP f s e) t := by
  unfold playP
  have eo : (pushN s).o = s.o := by unfold pushN; split <;> rfl
  refine (h.push.begin (f := f) (e := some e) (j := false) (fun x hx => ?_) (fun z => nomatch z)).same rfl rfl rfl rfl rfl
  cases hx
  rw [eo]
  exact ok.o.has he
theorem Nb.againP {f : Sf} {s : Pl} {t : Nat} (h : Nb s t) (ok : s.Ok f) : Nb (againP f s) t := by
  unfold TR.againP
  split
  · exact h
  · rename_i n hn
    exact h.begin (f := f) (e := some n) (j := false) (fun x hx => by cases hx; exact (ok.nw n hn).1) (fun z => nomatch z)
theorem Nb.back {f : Sf} {s : Pl} {t : Nat} (h : Nb s t) (ok : s.Ok f) : Nb (backP f s) t := by
  have h1 : Nb { s with past := dropT s.o.q.turn s.past } t := h.same rfl rfl rfl rfl rfl
  have ok1 := Pl.OkB.past ok (xs := dropT s.o.q.turn s.past) fun e he => ok.ps e (dropT_mem he)
  unfold backP
  split
  · exact h1.againP ok1
  · rename_i y hy
    split
    · exact h1.againP ok1
    · have h2 : Nb { s with past := (dropT s.o.q.turn s.past).dropLast, soon := backSoon s } t := h.same rfl rfl rfl rfl rfl
      exact h2.begin (f := f) (e := some y) (j := false) (fun x hx => by cases hx; exact ok.o.has (dropT_last hy)) (fun z => nomatch z)
theorem Nb.turn {f : Sf} {s : Pl} {t : Nat} (h : Nb s t) (ok : s.OkB f 1) : Nb (turnP f s) t := by
  unfold turnP
  split
  · exact h
  · rename_i n hn
    have hk := ok.tn.kn (ok.nw n hn).1
    split
    · rename_i x hx
      split
      · have hxm : x ∈ s.o.q.turn := by
          unfold foundP at hx
          split at hx
          · cases hx
          · exact nextV_mem ok.o ok.sn hx
        have h2 : Nb { nextS s false with past := s.past ++ [n] } t := (h.next false).same rfl rfl rfl rfl rfl
        have en : ({ nextS s false with past := s.past ++ [n] } : Pl).now = s.now ∧ ({ nextS s false with past := s.past ++ [n] } : Pl).spot = s.spot := by
          show (nextS s false).now = _ ∧ (nextS s false).spot = _
          unfold nextS
          split <;> exact ⟨rfl, rfl⟩
        refine h2.begin (f := f) (e := some x) (fun y hy => ?_) (fun hj m hm => ?_)
        · cases hy
          exact has_q (nextS_o s false) (ok.o.has hxm)
        · rw [en.1, hn] at hm
          cases hm
          rw [en.2]
          have e3 : longO f ({ nextS s false with past := s.past ++ [n] } : Pl).o n = longO f s.o n := longO_q (nextS_o s false) n
          rw [e3]
          have := (ok.nw n hn).2
          have := hk.hi
          omega
      · exact h
    · split
      · have h2 : Nb { s with past := s.past ++ [n] } t := h.same rfl rfl rfl rfl rfl
        exact (h2.begin (f := f) (e := none) (j := false) (fun y hy => nomatch hy) (fun z => nomatch z)).same rfl rfl rfl rfl rfl
      · exact h
theorem Nb.slp {s : Pl} {t : Nat} (h : Nb s t) : Nb (sleepP s) t := by
  unfold sleepP
  split
  · exact h
  · rename_i k hk
    split
    · exact ⟨h.tm, (fun j z => nomatch z), h.od, h.rw_, h.bh, h.ag⟩
    · exact ⟨h.tm, (fun j z => by cases z; have := h.sl k hk; omega), h.od, h.rw_, h.bh, h.ag⟩
theorem Nb.tick1 {f : Sf} {s : Pl} {t : Nat} (h : Nb s t) (ok : s.Ok f) : Nb (tick1 f s) (t + 1) := by
  unfold TR.tick1
  split
  · rename_i hp
    obtain ⟨n, hn⟩ := ok.now_of hp
    have okp := Pl.Ok.pre ok (by rw [hn]; exact fun z => nomatch z)
    have h1 : Nb (preP f s) (t + 1) := by
      refine ⟨⟨by have := h.tm; show 0 ≤ s.time + 1; omega, by have := h.tm; show s.time + 1 ≤ _; push_cast; omega⟩, h.sl, fun e p l z => ?_, (h.mono (Nat.le_succ t)).rw_, h.bh, h.ag⟩
      have z : oldP f s = some (e, p, l) := z
      unfold oldP at z
      split at z
      · cases z
      · rename_i e2 p2 l2 h2
        split at z
        · rename_i hlt
          cases z
          have := h.od _ _ _ h2
          have := (ok.tn.kn (ok.od _ _ _ h2)).hi
          omega
        · cases z
    exact (h1.turn okp).slp
  · exact h.mono (Nat.le_succ t)
theorem Nb.tick {f : Sf} : ∀ (n : Nat) {s : Pl} {t : Nat}, Nb s t → s.Ok f → Nb (tickP f n s) (t + n)
  | 0, _, _, h, _ => h
  | n + 1, s, t, h, ok => by
    have := Nb.tick (f := f) n (h.tick1 ok) ok.tick1
    rw [show t + 1 + n = t + (n + 1) by omega] at this
    exact this
theorem Nb.add {s : Pl} {t : Nat} (h : Nb s t) (x : Str) (p : Int) : Nb (addP s x p) t := by
  have e : (putO s.o x p).behind = s.o.behind ∧ (putO s.o x p).again = s.o.again := by unfold putO; split <;> exact ⟨rfl, rfl⟩
  exact ⟨h.tm, h.sl, h.od, (fun r hr => ⟨(h.rw_ r hr).1, (h.rw_ r hr).2.1, has_put (h.rw_ r hr).2.2⟩), (fun b hb => has_put (h.bh b (by rw [← e.1]; exact hb))), by show (putO s.o x p).again ∈ repeats; rw [e.2]; exact h.ag⟩
theorem Nb.remove {s : Pl} {t : Nat} (h : Nb s t) (ok : s.o.Ok) (e : Int) : Nb (removeP s e) t := by
  refine ⟨h.tm, h.sl, h.od, h.rw_, fun b hb => ?_, h.ag⟩
  have hb : (if s.now = some e ∨ (s.o.gone = true ∧ s.o.behind = some e) then behindOf s.o.q.turn e else s.o.behind) = some b := hb
  split at hb
  · exact ok.has (behindOf_mem hb)
  · exact h.bh b hb
theorem Nb.move {s : Pl} {t : Nat} (h : Nb s t) (e p : Int) : Nb (moveP s e p) t := ⟨h.tm, h.sl, h.od, h.rw_, h.bh, h.ag⟩
theorem lookup_mem {x : Str} {n : Int} : ∀ {f : Sf}, f.lookup x = some n → (x, n) ∈ f
  | [], h => by cases h
  | p :: r, h => by
    rw [List.lookup_cons] at h
    by_cases e : x = p.1
    · rw [e, beq_self_eq_true] at h
      cases h
      rw [e]
      exact List.mem_cons_self
    · have e2 : (x == p.1) = false := by simpa using e
      rw [e2] at h
      exact List.mem_cons_of_mem _ (lookup_mem h)
/-! ### with how much there is -/
structure Kp (f : Sf) (s : Pl) (b t : Nat) : Prop where
  ok : s.Ok f
  nb : Nb s t
  bd : 2 * s.o.q.tunes.length ≤ s.o.q.turn.length + b
  sz : Sz s (b + t)
theorem Kp.mono {f : Sf} {s : Pl} {b t c u : Nat} (h : Kp f s b t) (hb : b ≤ c) (ht : t ≤ u) : Kp f s c u := ⟨h.ok, h.nb.mono ht, by have := h.bd; omega, h.sz.mono (by omega)⟩
theorem Kp.few {f : Sf} {s : Pl} {b t : Nat} (h : Kp f s b t) (hb : b ≤ 100) : s.o.q.tunes.length ≤ 56 := by
  have := h.bd
  have := h.ok.o.q.sz
  omega
theorem Kp.ofq {f : Sf} {s s' : Pl} {b t u : Nat} (h : Kp f s b t) (ok : s'.Ok f) (nb : Nb s' u) (hq : s'.o.q = s.o.q) (sz : Sz s' (b + u)) : Kp f s' b u := ⟨ok, nb, by rw [hq]; exact h.bd, sz⟩
theorem Kp.tx {f : Sf} {s : Pl} {b t : Nat} (h : Kp f s b t) (hf : ∀ p ∈ f, Nm p.1) (ht : t ≤ 100000) : Tx s := by
  have hb : ∀ {e : Int}, s.o.has e → Wd (some e) := fun {e} he => Wd.of (by have := he.1; omega) (by have := he.2; have := h.ok.o.q.tz; omega)
  have hbo : ∀ {x : Option Int}, (∀ e, x = some e → s.o.has e) → Wd x := fun {x} hx n e => by
    subst e
    exact hb (hx n rfl) n rfl
  have tm := h.nb.tm
  refine ⟨?_, ?_, ?_, ?_, ?_, ?_, ?_, ?_, ?_, ?_, ?_, ?_, ?_, ?_, ?_, ?_, h.nb.ag⟩
  · exact Wd.of h.ok.ov.1 (by have := h.ok.ov.2; omega)
  · exact Wd.of tm.1 (by omega)
  · exact hbo fun e he => (h.ok.nw e he).1
  · cases hn : s.now with
    | none =>
      have := (h.ok.n0 hn).1
      rw [this]
      exact Wd.of (by decide) (by decide)
    | some n =>
      have h1 := h.ok.nw n hn
      have := (h.ok.tn.kn h1.1).hi
      exact Wd.of h1.2.1 (by omega)
  · intro k hk
    have := h.ok.sl k hk
    have := h.nb.sl k hk
    omega
  · exact Wd.of h.ok.o.num.1 (by have := h.ok.o.num.2; omega)
  · exact Wd.of (by omega) (by have := h.ok.o.q.tz; omega)
  · exact hbo h.nb.bh
  · cases ho : s.old with
    | none => exact wds_nil
    | some q =>
      obtain ⟨e, p, l⟩ := q
      have := h.nb.od e p l ho
      exact wds_cons (hb (h.ok.od e p l ho)) (wds_cons (Wd.of (by omega) (by omega)) (wds_cons (Wd.of (by omega) (by omega)) wds_nil))
  · intro e he
    obtain ⟨x, hx, rfl⟩ := List.mem_map.mp he
    exact hb (h.ok.o.has (h.ok.sn x hx))
  · intro e he
    obtain ⟨x, hx, rfl⟩ := List.mem_map.mp he
    exact hb (h.ok.ps x hx)
  · intro e he
    obtain ⟨x, hx, rfl⟩ := List.mem_map.mp he
    exact hb (h.ok.o.has hx)
  · intro e he
    obtain ⟨x, hx, rfl⟩ := List.mem_map.mp he
    exact hb (h.ok.o.has (h.ok.o.sub x hx))
  · intro e he
    obtain ⟨x, hx, rfl⟩ := List.mem_map.mp he
    have := h.nb.rw_ x hx
    exact Wd.of this.1 (by omega)
  · intro e he
    obtain ⟨x, hx, rfl⟩ := List.mem_map.mp he
    exact hb (h.nb.rw_ x hx).2.2
  · intro x hx
    obtain ⟨n, hn, _⟩ := h.ok.tn x hx
    have hm : (x, n) ∈ f := lookup_mem hn
    exact hf _ hm
end TR
namespace TR
open PySem L2
/-! ### calls of a player, and what is told -/
inductive PC where
  | add (x : Str) (p : Int) | move (e p : Int) | remove (e p : Int) | soon (e p : Int) | play (e p : Int) | again (x : Str) | mixed (b : Bool) | seek (n : Int) | stop (b : Bool) | resume | pause | skip | back | sleep (m : Option Int) | tick (n : Int)
def PC.tup : PC → List V
  | .add x p => [.str "add", .str x, .int p]
  | .move e p => [.str "move", .int e, .int p]
  | .remove e p => [.str "remove", .int e, .int p]
  | .soon e p => [.str "soon", .int e, .int p]
  | .play e p => [.str "play", .int e, .int p]
  | .again x => [.str "again", .str x, .non]
  | .mixed b => [.str "mixed", .bl b, .non]
  | .seek n => [.str "seek", .int n, .non]
  | .stop b => [.str "stop", .bl b, .non]
  | .resume => [.str "resume", .non, .non]
  | .pause => [.str "pause", .non, .non]
  | .skip => [.str "skip", .non, .non]
  | .back => [.str "back", .non, .non]
  | .sleep m => [.str "sleep", oV m, .non]
  | .tick n => [.str "tick", .int n, .non]
inductive PO where
  | ok (n : Option Int) (s : Pl) | no (r : Rf)
def PO.st (s : Pl) : PO → Pl
  | .ok _ s' => s'
  | .no _ => s
def PO.tup : PO → List V
  | .ok n _ => [.str "found", oV n]
  | .no r => refT r
def tellP (f : Sf) (s : Pl) : PC → PO
  | .add x p => if f.lookup x = none then .no .tune else if 0 ≤ p ∧ p ≤ s.o.q.turn.length ∧ s.o.q.turn.length ≠ 12 then .ok (some ((s.o.q.tunes.length : Int) + 1)) (addP s x p) else .no .number
  | .move e p => if e ∈ s.o.q.turn then (if 0 ≤ p ∧ p < s.o.q.turn.length then .ok none (moveP s e p) else .no .number) else .no .entry
  | .remove e _ => if e ∈ s.o.q.turn then .ok none (removeP s e) else .no .entry
  | .soon e _ => if e ∈ s.o.q.turn then .ok none (soonP s e) else .no .entry
  | .play e _ => if e ∈ s.o.q.turn then .ok none (playP f s e) else .no .entry
  | .again x => if x ∈ repeats then .ok none (againS s x) else .no .word
  | .mixed b => .ok none (mixedP s b)
  | .seek n => match s.now with
    | none => .no .entry
    | some m => if 0 ≤ n ∧ n < longO f s.o m then .ok none (seekP s n) else .no .number
  | .stop b => .ok none { s with stops := b }
  | .resume => .ok none (resumeP f s)
  | .pause => .ok none { s with plays := false }
  | .skip => .ok none (skipP f s)
  | .back => .ok none (backP f s)
  | .sleep none => .ok none { s with sleep := none }
  | .sleep (some k) => if 1 ≤ k ∧ k ≤ 60 then .ok none { s with sleep := some k } else .no .number
  | .tick n => if 0 ≤ n ∧ n ≤ 200 then .ok none (tickP f n.toNat s) else .no .number
def ShOk (f : Sf) : Prop := (∀ p ∈ f, Nm p.1) ∧ ∀ x n, f.lookup x = some n → 1 ≤ n ∧ n ≤ 40
section
variable {f : Sf} {s : Pl} {b t : Nat}
theorem Kp.add (h : Kp f s b t) {x : Str} {p : Int} (hx : ∃ n, f.lookup x = some n ∧ 1 ≤ n ∧ n ≤ 40) (h2 : s.o.q.turn.length ≠ 12) (h3 : s.o.q.tunes.length < 1000) : Kp f (addP s x p) (b + 1) t := by
  refine ⟨h.ok.add hx h2 h3, h.nb.add x p, ?_, ⟨Nat.le_trans h.sz.r (by omega), Nat.le_trans h.sz.p (by omega), Nat.le_trans h.sz.s (by omega)⟩⟩
  show 2 * (putO s.o x p).q.tunes.length ≤ (putO s.o x p).q.turn.length + (b + 1)
  rw [putO_q]
  show 2 * (s.o.q.tunes ++ [x]).length ≤ (insP s.o.q.turn p.toNat _).length + (b + 1)
  rw [insP_len, List.length_append, List.length_singleton]
  have := h.bd
  omega
theorem Kp.remove (h : Kp f s b t) {e : Int} (he : e ∈ s.o.q.turn) : Kp f (removeP s e) (b + 1) t := by
  refine ⟨h.ok.remove he, h.nb.remove h.ok.o e, ?_, ⟨Nat.le_trans h.sz.r (by omega), Nat.le_trans h.sz.p (by omega), Nat.le_trans (List.length_filter_le _ _) (Nat.le_trans h.sz.s (by omega))⟩⟩
  show 2 * s.o.q.tunes.length ≤ (s.o.q.turn.erase e).length + (b + 1)
  rw [List.length_erase_of_mem he]
  have := h.bd
  have := List.length_pos_of_mem he
  omega
theorem Kp.move (h : Kp f s b t) {e p : Int} (he : e ∈ s.o.q.turn) : Kp f (moveP s e p) b t := by
  refine ⟨h.ok.move he, h.nb.move e p, ?_, ⟨h.sz.r, h.sz.p, h.sz.s⟩⟩
  show 2 * s.o.q.tunes.length ≤ (insP (s.o.q.turn.erase e) p.toNat e).length + b
  rw [insP_len, List.length_erase_of_mem he]
  have := h.bd
  have := List.length_pos_of_mem he
  omega
theorem Kp.soon (h : Kp f s b t) {e : Int} (he : e ∈ s.o.q.turn) : Kp f (soonP s e) b (t + 1) :=
  h.ofq (h.ok.playSoon he) ((Nb.same (s' := soonP s e) h.nb rfl rfl rfl rfl rfl).mono (Nat.le_succ t)) rfl ⟨Nat.le_trans h.sz.r (by omega), Nat.le_trans h.sz.p (by omega), by show (s.soon ++ [e]).length ≤ _; rw [List.length_append, List.length_singleton]; have := h.sz.s; omega⟩
theorem Kp.play (h : Kp f s b t) {e : Int} (he : e ∈ s.o.q.turn) : Kp f (playP f s e) b (t + 1) :=
  h.ofq (h.ok.play he) ((h.nb.play h.ok he).mono (Nat.le_succ t)) (by unfold playP pushN; split <;> rfl) (Sz.play h.sz e)
theorem Kp.again (h : Kp f s b t) {x : Str} (hx : x ∈ repeats) : Kp f (againS s x) b t :=
  h.ofq (h.ok.again x) ⟨h.nb.tm, h.nb.sl, h.nb.od, h.nb.rw_, h.nb.bh, hx⟩ rfl ⟨h.sz.r, h.sz.p, h.sz.s⟩
theorem Kp.mixed (h : Kp f s b t) (c : Bool) : Kp f (mixedP s c) b t :=
  h.ofq (h.ok.mixed c) (h.nb.order (setM_sm s.o c s.now)) (setM_q s.o c s.now) ⟨h.sz.r, h.sz.p, h.sz.s⟩
theorem Kp.seek (h : Kp f s b t) {n m : Int} (hm : s.now = some m) (hn : 0 ≤ n ∧ n < longO f s.o m) : Kp f (seekP s n) b t :=
  h.ofq (h.ok.seek hm hn.1 hn.2) ⟨h.nb.tm, h.nb.sl, (fun _ _ _ z => nomatch z), h.nb.rw_, h.nb.bh, h.nb.ag⟩ rfl ⟨h.sz.r, h.sz.p, h.sz.s⟩
theorem Kp.stop (h : Kp f s b t) (c : Bool) : Kp f { s with stops := c } b t := h.ofq (h.ok.stop c) (h.nb.same rfl rfl rfl rfl rfl) rfl ⟨h.sz.r, h.sz.p, h.sz.s⟩
theorem Kp.pause (h : Kp f s b t) : Kp f { s with plays := false } b t := h.ofq h.ok.pause (h.nb.same rfl rfl rfl rfl rfl) rfl ⟨h.sz.r, h.sz.p, h.sz.s⟩
theorem Kp.resume (h : Kp f s b t) : Kp f (resumeP f s) b (t + 1) := h.ofq h.ok.resume ((h.nb.resume h.ok).mono (Nat.le_succ t)) (resumeP_q f s) (Sz.resume h.sz)
theorem Kp.skip (h : Kp f s b t) : Kp f (skipP f s) b (t + 1) := by
  refine h.ofq h.ok.skip ((h.nb.skip h.ok).mono (Nat.le_succ t)) ?_ (Sz.skip h.sz)
  unfold skipP
  have e : ∀ (s : Pl) (e : Option Int) (j : Bool), (beginP f s e j).o.q = s.o.q := fun s e j => by cases e <;> rfl
  show (beginP f (pushN (nextS s true)) (nextV s true) false).o.q = _
  rw [e]
  have : (pushN (nextS s true)).o = (nextS s true).o := by unfold pushN; split <;> rfl
  rw [this]
  exact nextS_o s true
theorem Kp.back (h : Kp f s b t) : Kp f (backP f s) b (t + 1) := by
  refine h.ofq h.ok.back ((h.nb.back h.ok).mono (Nat.le_succ t)) ?_ (Sz.back h.sz)
  have ea : ∀ s : Pl, (againP f s).o.q = s.o.q := fun s => by unfold againP; split <;> rfl
  unfold backP
  split
  · exact ea _
  · split
    · exact ea _
    · rfl
theorem Kp.sleep (h : Kp f s b t) {m : Option Int} (hm : ∀ k, m = some k → 1 ≤ k ∧ k ≤ 60) : Kp f { s with sleep := m } b t :=
  h.ofq (h.ok.sleep fun k e => (hm k e).1) ⟨h.nb.tm, (fun k e => (hm k e).2), h.nb.od, h.nb.rw_, h.nb.bh, h.nb.ag⟩ rfl ⟨h.sz.r, h.sz.p, h.sz.s⟩
theorem Kp.tick (h : Kp f s b t) (n : Nat) : Kp f (tickP f n s) b (t + n) := h.ofq (Pl.Ok.tick n h.ok) (h.nb.tick n h.ok) (tickP_q f n s) (by have := Sz.tick (f := f) n h.sz; rw [show b + t + n = b + (t + n) by omega] at this; exact this)
theorem Kp.tell (h : Kp f s b t) (hf : ShOk f) (hb : b ≤ 100) (c : PC) : Kp f ((tellP f s c).st s) (b + 1) (t + 200) := by
  have h0 : Kp f s (b + 1) (t + 200) := h.mono (by omega) (by omega)
  have up : ∀ {s' : Pl} {b' t' : Nat}, Kp f s' b' t' → b' ≤ b + 1 → t' ≤ t + 200 → Kp f s' (b + 1) (t + 200) := fun k h1 h2 => k.mono h1 h2
  have few := h.few hb
  cases c with
  | add x p =>
    simp only [tellP]
    split
    · exact h0
    · rename_i hx
      split
      · rename_i hp
        obtain ⟨n, hn⟩ := Option.ne_none_iff_exists'.mp hx
        exact up (h.add (x := x) (p := p) ⟨n, hn, hf.2 x n hn⟩ hp.2.2 (by omega)) (by omega) (by omega)
      · exact h0
  | move e p =>
    simp only [tellP]
    split
    · split
      · exact up (h.move ‹_›) (by omega) (by omega)
      · exact h0
    · exact h0
  | remove e p =>
    simp only [tellP]
    split
    · exact up (h.remove ‹_›) (by omega) (by omega)
    · exact h0
  | soon e p =>
    simp only [tellP]
    split
    · exact up (h.soon ‹_›) (by omega) (by omega)
    · exact h0
  | play e p =>
    simp only [tellP]
    split
    · exact up (h.play ‹_›) (by omega) (by omega)
    · exact h0
  | again x =>
    simp only [tellP]
    split
    · exact up (h.again ‹_›) (by omega) (by omega)
    · exact h0
  | mixed c => exact up (h.mixed c) (by omega) (by omega)
  | seek n =>
    simp only [tellP]
    split
    · exact h0
    · rename_i m hm
      split
      · exact up (h.seek hm ‹_›) (by omega) (by omega)
      · exact h0
  | stop c => exact up (h.stop c) (by omega) (by omega)
  | resume => exact up h.resume (by omega) (by omega)
  | pause => exact up h.pause (by omega) (by omega)
  | skip => exact up h.skip (by omega) (by omega)
  | back => exact up h.back (by omega) (by omega)
  | sleep m =>
    cases m with
    | none => exact up (h.sleep (m := none) (fun _ z => nomatch z)) (by omega) (by omega)
    | some k =>
      simp only [tellP]
      split
      · exact up (h.sleep (m := some k) (fun j z => by cases z; assumption)) (by omega) (by omega)
      · exact h0
  | tick n =>
    simp only [tellP]
    split
    · exact up (h.tick n.toNat) (by omega) (by omega)
    · exact h0
end
end TR

namespace TR
open PySem L2
/-- all that is told, as data -/
def oD : Option Int → PyData
  | none => .none
  | some n => .int n
def rowD (r : Int × Int) : PyData := .tuple [.int r.1, .int r.2]
def snD (r : Int × Int × Int × Int) : PyData := .tuple [.int r.1, .int r.2.1, .int r.2.2.1, .int r.2.2.2]
def wholeD (f : Sf) (s : Pl) : PyData := .tuple [.tuple [oD s.now, .int s.spot, .bool s.plays], .list (s.o.q.turn.map PyData.int), .list ((soundsP f s).map snD), .list (s.rows.map rowD), .int s.time]
theorem dp_oV {K : PySem.W.Frag} {H : Hp} (e : Option Int) : Dp K H (oV e) (oD e) := by cases e with
  | none => exact .non
  | some n => exact .int n
theorem sh_oD {k : Nat} (e : Option Int) : Sh k (oD e) := by cases e with
  | none => exact sh_non
  | some n => exact sh_int n
theorem dpAll_rows {K : PySem.W.Frag} {H : Hp} : ∀ {vs : List V} {rs : List (Int × Int)}, RowsAt H vs rs → DpAll K H vs (rs.map rowD)
  | [], [], _ => .nil
  | v :: vs, r :: rs, ⟨⟨q, e, h⟩, b⟩ => by
    subst e
    exact .cons (.tup (SqT.of h) (.cons (.int _) (.cons (.int _) .nil))) (dpAll_rows b)
  | [], _ :: _, h => h.elim
  | _ :: _, [], h => h.elim
theorem dpAll_sns {K : PySem.W.Frag} {H : Hp} : ∀ {vs : List V} {rs : List (Int × Int × Int × Int)}, SnsAt H vs rs → DpAll K H vs (rs.map snD)
  | [], [], _ => .nil
  | v :: vs, r :: rs, ⟨⟨q, e, h⟩, b⟩ => by
    subst e
    exact .cons (.tup (SqT.of h) (.cons (.int _) (.cons (.int _) (.cons (.int _) (.cons (.int _) .nil))))) (dpAll_sns b)
  | [], _ :: _, h => h.elim
  | _ :: _, [], h => h.elim
theorem sh_rowD {k : Nat} (r : Int × Int) : Sh (k + 1) (rowD r) := sh_tup (sh_cons (sh_int _) (sh_cons (sh_int _) sh_nil))
theorem sh_snD {k : Nat} (r : Int × Int × Int × Int) : Sh (k + 1) (snD r) := sh_tup (sh_cons (sh_int _) (sh_cons (sh_int _) (sh_cons (sh_int _) (sh_cons (sh_int _) sh_nil))))
theorem sh_rows {k : Nat} (rs : List (Int × Int)) : Sh (k + 2) (.list (rs.map rowD)) := sh_list fun d hd => by
  obtain ⟨r, _, rfl⟩ := List.mem_map.mp hd
  exact sh_rowD r
theorem sh_sns {k : Nat} (rs : List (Int × Int × Int × Int)) : Sh (k + 2) (.list (rs.map snD)) := sh_list fun d hd => by
  obtain ⟨r, _, rfl⟩ := List.mem_map.mp hd
  exact sh_snD r
theorem sh_whole (f : Sf) (s : Pl) : Sh 64 (wholeD f s) := sh_tup (sh_cons (sh_tup (k := 62) (sh_cons (sh_oD _) (sh_cons (sh_int _) (sh_cons (sh_bl _) sh_nil)))) (sh_cons (sh_list (k := 62) (sh_ints _)) (sh_cons (sh_sns (k := 61) _) (sh_cons (sh_rows (k := 61) _) (sh_cons (sh_int _) sh_nil)))))
theorem dp_whole {K : PySem.W.Frag} {H : Hp} {f : Sf} {s : Pl} {t st en sn lo : Addr} {rs xs : List V} (ht : H t = some (.tup [.ref st, .ref en, .ref sn, .ref lo, .int s.time])) (hst : H st = some (.tup [oV s.now, .int s.spot, .bl s.plays]))
    (hen : H en = some (.lst (s.o.q.turn.map V.int))) (hsn : H sn = some (.lst xs)) (hlo : H lo = some (.lst rs)) (h1 : RowsAt H rs s.rows) (h2 : SnsAt H xs (soundsP f s)) : Dp K H (.ref t) (wholeD f s) :=
  .tup (SqT.of ht) (.cons (.tup (SqT.of hst) (.cons (dp_oV _) (.cons (.int _) (.cons (.bl _) .nil)))) (.cons (dp_ints (SqL.of hen)) (.cons (.lst (SqL.of hsn) (dpAll_sns h2)) (.cons (.lst (SqL.of hlo) (dpAll_rows h1)) (.cons (.int _) .nil)))))
theorem pick_map {α : Type} {l : List α} {g : α → V} {i : Nat} {v : V} (d : α) (h : (l.map g)[i]? = some v) : v = g (l.getD i d) := by
  rw [List.getElem?_map] at h
  cases e : l[i]? with
  | none => rw [e] at h; cases h
  | some x =>
    rw [e] at h
    cases h
    rw [List.getD_eq_getElem?_getD, e]
    rfl
theorem dvi (a b : Int) : decide (V.int a = V.int b) = decide (a = b) := by
  by_cases h : a = b
  · subst h
    exact (decide_eq_true (p := V.int a = V.int a) rfl).trans (decide_eq_true (p := a = a) rfl).symm
  · rw [decide_eq_false h]; exact decide_eq_false fun z => h (V.int.inj z)
end TR

namespace TR
open PySem L2
/-! ### one player, and X -/
abbrev oL (A : Ads) (a : PA) (b : SA) (s : Pl) (ov : V) (rs : List V) (f : Sf) (X : List Ent) : List Ent := plL A a (.ref b.q) s ov rs ++ (sL A b f ++ X)
def OP (A : Ads) (H0 H : Hp) (a : PA) (b : SA) (s : Pl) (f : Sf) (X : List Ent) : Prop := ∃ ov rs, W H0 H (oL A a b s ov rs f X) ∧ PlF H s ov rs
section
variable {P : Program} {w : World} {K : PySem.W.Frag} {mg : Str → Option Value} {base : Heap} {A : Ads}
variable {H0 H : Hp} {a : PA} {b : SA} {s : Pl} {f : Sf} {X : List Ent} {Q : VK} {E : XK}
theorem OP.of {H' : Hp} {L : List Ent} (w : W H0 H L) (h : PlW A H H' a (.ref b.q) s (sL A b f ++ X)) : OP A H0 H' a b s f X := let ⟨ov, rs, v, g⟩ := h; ⟨ov, rs, w.tr v, g⟩
theorem OP.pw {ov : V} {rs : List V} (w : W H0 H (oL A a b s ov rs f X)) (g : PlF H s ov rs) : PlW A H H a (.ref b.q) s (sL A b f ++ X) := ⟨ov, rs, w.now, g⟩
theorem OP.cut {Y : List Ent} (h : OP A H0 H a b s f (Y ++ X)) : OP A H0 H a b s f X := by
  obtain ⟨ov, rs, w, g⟩ := h
  exact ⟨ov, rs, w.subl (List.Sublist.append_left (List.Sublist.append_left (List.sublist_append_right Y X) _) _), g⟩
theorem OP.cut1 {x : Ent} (h : OP A H0 H a b s f (x :: X)) : OP A H0 H a b s f X := OP.cut (Y := [x]) h
/-- X in another turn -/
theorem OP.perm {Y : List Ent} (h : OP A H0 H a b s f X) (p : X.Perm Y) : OP A H0 H a b s f Y := by
  obtain ⟨ov, rs, w, g⟩ := h
  exact ⟨ov, rs, w.perm (List.Perm.append_left _ (List.Perm.append_left _ p)), g⟩
theorem OP.draw {R : List Ent} {sa t : Addr} {ns : List Int} {n : Nat} {m : Int} (h : OP A H0 H a b s f ((t, .lst (zeros n)) :: R)) (sc : Scr K sa ns R) (hn : n ≤ 10000) (hm : 0 < m)
    (k : ∀ H', OP A H0 H' a b s f ((t, .lst (zeros (n + 1))) :: R) → Tps H H' → 0 ≤ drawP ns n m → drawP ns n m < m → Q (.int (drawP ns n m)) H') : xCall (sp_draw K) [.ref sa, .ref t, .int m] H Q E := by
  obtain ⟨ov, rs, w, g⟩ := h
  have w1 : W H0 H ((t, .lst (zeros n)) :: (plL A a (.ref b.q) s ov rs ++ (sL A b f ++ R))) := w.perm (by walk_at "perm")
  refine draw_at w1.now 0 rfl (by walk_at "scr") hn hm fun H' w2 d0 d1 => ?_
  replace w2 : W H H' ((t, .lst (zeros (n + 1))) :: (plL A a (.ref b.q) s ov rs ++ (sL A b f ++ R))) := w2
  have w3 : W H H' (oL A a b s ov rs f ((t, .lst (zeros (n + 1))) :: R)) := w2.perm (by walk_at "perm")
  exact k H' ⟨ov, rs, w1.tr w3, g.mono w3.tp⟩ w3.tp d0 d1
theorem OP.pickV {α : Type} {gv : α → V} {R : List Ent} {sa t l : Addr} {ns : List Int} {xs : List α} {n : Nat} (d : α) (h : OP A H0 H a b s f ((l, .lst (xs.map gv)) :: (t, .lst (zeros n)) :: R)) (sc : Scr K sa ns R) (hn : n ≤ 10000) (hx : xs ≠ [])
    (k : ∀ H' v, OP A H0 H' a b s f ((t, .lst (zeros (n + 1))) :: R) → Tps H H' → v = xs.getD (drawP ns n xs.length).toNat d → v ∈ xs → Q (gv v) H') : xCall (sp_pick K) [.ref sa, .ref t, .ref l] H Q E := by
  obtain ⟨ov, rs, w, g⟩ := h
  have w1 : W H0 H ((t, .lst (zeros n)) :: (l, .lst (xs.map gv)) :: (plL A a (.ref b.q) s ov rs ++ (sL A b f ++ R))) := w.perm (by walk_at "perm")
  refine pick_at w1.now 0 0 rfl rfl (by walk_at "scr") hn (fun z => hx (List.map_eq_nil_iff.mp z)) fun H' v w2 hv hvm => ?_
  replace w2 : W H H' ((t, .lst (zeros (n + 1))) :: (l, .lst (xs.map gv)) :: (plL A a (.ref b.q) s ov rs ++ (sL A b f ++ R))) := w2
  have w3 : W H H' (oL A a b s ov rs f ((t, .lst (zeros (n + 1))) :: R)) := (w2.subl (List.Sublist.cons₂ _ (List.Sublist.cons _ (List.Sublist.refl _)))).perm (by walk_at "perm")
  have e := pick_map (l := xs) (g := gv) d hv
  rw [List.length_map] at e
  subst e
  have hl := List.length_pos_iff.mpr hx
  have hlt : (drawP ns n xs.length).toNat < xs.length := by
    have h1 := drawP_lt ns n (m := (xs.length : Int)) (by omega)
    have h2 := drawP_nn ns n (m := (xs.length : Int)) (by omega)
    omega
  refine k H' _ ⟨ov, rs, w1.tr w3, g.mono w3.tp⟩ w3.tp rfl ?_
  rw [List.getD_eq_getElem?_getD, List.getElem?_eq_getElem hlt]
  exact List.getElem_mem hlt
theorem OP.new {o : HO} (h : OP A H0 H a b s f X) (k : ∀ p H', OP A H0 H' a b s f ((p, o) :: X) → Tps H H' → Q (.ref p) H') : xNew o H Q := by
  obtain ⟨ov, rs, w, g⟩ := h
  refine st_new w.now fun p H' w1 => ?_
  have w2 : W H H' (oL A a b s ov rs f ((p, o) :: X)) := w1.perm (by walk_at "perm")
  exact k p H' ⟨ov, rs, w.tr w2, g.mono w2.tp⟩ w2.tp
theorem OP.tick {m : Int} {N : Nat} (h : OP A H0 H a b s f X) (ok : s.Ok f) (hz : Sz s N) (hN : N ≤ 40000) (hm : 0 ≤ m ∧ m ≤ 200)
    (k : ∀ H' a', a'.p = a.p → OP A H0 H' a' b (tickP f m.toNat s) f X → Tps H H' → Q .non H') : xCall (sp_Player_tick A) [.ref a.p, .int m] H Q E := by
  obtain ⟨ov, rs, w, g⟩ := h
  exact st_call (of_Player_tick ⟨a, b, f, s, m, N, _, rfl, OP.pw w g, ok, hz, hN, fun _ H' a' ea pw => k H' a' ea (OP.of w pw) (let ⟨_, _, v, _⟩ := pw; v.tp), fun z => absurd hm z⟩)
theorem OP.resume (h : OP A H0 H a b s f X) (ok : s.Ok f) (hz : Sz s 50000) (k : ∀ H' a', a'.p = a.p → OP A H0 H' a' b (resumeP f s) f X → Tps H H' → Q .non H') : xCall (sp_Player_resume A) [.ref a.p] H Q E := by
  obtain ⟨ov, rs, w, g⟩ := h
  exact st_call (of_Player_resume ⟨a, b, f, s, _, rfl, OP.pw w g, ok.o, hz, fun H' a' ea pw => k H' a' ea (OP.of w pw) (let ⟨_, _, v, _⟩ := pw; v.tp)⟩)
theorem OP.skip (h : OP A H0 H a b s f X) (ok : s.Ok f) (hz : Sz s 50000) (k : ∀ H' a', a'.p = a.p → OP A H0 H' a' b (skipP f s) f X → Tps H H' → Q .non H') : xCall (sp_Player_skip A) [.ref a.p] H Q E := by
  obtain ⟨ov, rs, w, g⟩ := h
  exact st_call (of_Player_skip ⟨a, b, f, s, _, rfl, OP.pw w g, ok.o, hz, fun H' a' ea pw => k H' a' ea (OP.of w pw) (let ⟨_, _, v, _⟩ := pw; v.tp)⟩)
theorem OP.back (h : OP A H0 H a b s f X) (ok : s.Ok f) (hz : Sz s 50000) (k : ∀ H', OP A H0 H' a b (backP f s) f X → Tps H H' → Q .non H') : xCall (sp_Player_back A) [.ref a.p] H Q E := by
  obtain ⟨ov, rs, w, g⟩ := h
  exact st_call (of_Player_back ⟨a, b, f, s, _, rfl, OP.pw w g, ok.o, hz, fun H' pw => k H' (OP.of w pw) (let ⟨_, _, v, _⟩ := pw; v.tp)⟩)
theorem OP.play {e : Int} (h : OP A H0 H a b s f X) (ok : s.Ok f) (hz : Sz s 50000) (he : e ∈ s.o.q.turn) (k : ∀ H', OP A H0 H' a b (playP f s e) f X → Tps H H' → Q .non H') : xCall (sp_Player_play A) [.ref a.p, .int e] H Q E := by
  obtain ⟨ov, rs, w, g⟩ := h
  exact st_call (of_Player_play ⟨a, b, f, s, e, _, rfl, OP.pw w g, ok.o, hz, fun _ H' pw => k H' (OP.of w pw) (let ⟨_, _, v, _⟩ := pw; v.tp), fun z => absurd he z⟩)
theorem OP.seek {x n : Int} (h : OP A H0 H a b s f X) (ok : s.Ok f) (hn : s.now = some n) (hx : 0 ≤ x ∧ x < longO f s.o n) (k : ∀ H', OP A H0 H' a b (seekP s x) f X → Tps H H' → Q .non H') : xCall (sp_Player_seek A) [.ref a.p, .int x] H Q E := by
  obtain ⟨ov, rs, w, g⟩ := h
  refine st_call (of_Player_seek ⟨a, b, f, s, ov, rs, x, _, rfl, w.now, (fun m hm => ok.tn.kn (ok.nw m hm).1), fun m hm _ H' v => k H' ⟨.non, rs, w.tr v, ⟨rfl, g.rows.mono v.tp⟩⟩ v.tp, fun z => (by rw [hn] at z; cases z), fun m hm z => absurd ?_ z⟩)
  rw [hn] at hm
  cases hm
  exact hx
theorem OP.pause (h : OP A H0 H a b s f X) (k : ∀ H', OP A H0 H' a b { s with plays := false } f X → Tps H H' → Q .non H') : xCall (sp_Player_pause A) [.ref a.p] H Q E := by
  obtain ⟨ov, rs, w, g⟩ := h
  exact st_call (of_Player_pause ⟨a, .ref b.q, s, ov, rs, _, rfl, w.now, fun H' v => k H' ⟨ov, rs, w.tr v, ⟨g.old.mono v.tp, g.rows.mono v.tp⟩⟩ v.tp⟩)
theorem OP.stop {bb : Bool} (h : OP A H0 H a b s f X) (k : ∀ H', OP A H0 H' a b { s with stops := bb } f X → Tps H H' → Q .non H') : xCall (sp_Player_stop_behind A) [.ref a.p, .bl bb] H Q E := by
  obtain ⟨ov, rs, w, g⟩ := h
  exact st_call (of_Player_stop_behind ⟨a, .ref b.q, s, ov, rs, bb, _, rfl, w.now, fun H' v => k H' ⟨ov, rs, w.tr v, ⟨g.old.mono v.tp, g.rows.mono v.tp⟩⟩ v.tp⟩)
theorem OP.sleep {m : Option Int} (h : OP A H0 H a b s f X) (hm : ∀ kk, m = some kk → 1 ≤ kk ∧ kk ≤ 60) (k : ∀ H', OP A H0 H' a b { s with sleep := m } f X → Tps H H' → Q .non H') : xCall (sp_Player_sleep A) [.ref a.p, oV m] H Q E := by
  obtain ⟨ov, rs, w, g⟩ := h
  exact st_call (of_Player_sleep ⟨a, .ref b.q, s, ov, rs, m, _, rfl, w.now, fun _ H' v => k H' ⟨ov, rs, w.tr v, ⟨g.old.mono v.tp, g.rows.mono v.tp⟩⟩ v.tp, fun z => absurd hm z⟩)
theorem OP.again {x : Str} (h : OP A H0 H a b s f X) (hx : x ∈ repeats) (k : ∀ H', OP A H0 H' a b (againS s x) f X → Tps H H' → Q .non H') : xCall (sp_Player_set_again A) [.ref a.p, .str x] H Q E := by
  obtain ⟨ov, rs, w, g⟩ := h
  exact st_call (of_Player_set_again ⟨a, .ref b.q, s, ov, rs, x, _, rfl, w.now, fun _ H' v => k H' ⟨ov, rs, w.tr v, ⟨g.old.mono v.tp, g.rows.mono v.tp⟩⟩ v.tp, fun z => absurd hx z⟩)
theorem OP.mixed {bb : Bool} (h : OP A H0 H a b s f X) (ok : s.Ok f) (k : ∀ H' a', a'.p = a.p → OP A H0 H' a' b (mixedP s bb) f X → Tps H H' → Q .non H') : xCall (sp_Player_set_mixed A) [.ref a.p, .bl bb] H Q E := by
  obtain ⟨ov, rs, w, g⟩ := h
  exact st_call (of_Player_set_mixed ⟨a, .ref b.q, s, ov, rs, bb, _, rfl, w.now, ok.o, fun H' k' v => k H' { a with o := { a.o with k := k' } } rfl ⟨ov, rs, w.tr v, ⟨g.old.mono v.tp, g.rows.mono v.tp⟩⟩ v.tp⟩)
theorem OP.add {x : Str} {p : Int} (h : OP A H0 H a b s f X) (ok : s.Ok f) (ht : s.o.q.tunes.length < 1000) (hx : f.lookup x ≠ none) (hp : 0 ≤ p ∧ p ≤ s.o.q.turn.length ∧ s.o.q.turn.length ≠ 12)
    (k : ∀ H', OP A H0 H' a b (addP s x p) f X → Tps H H' → Q (.int ((s.o.q.tunes.length : Int) + 1)) H') : xCall (sp_Player_add A) [.ref a.p, .str x, .int p] H Q E := by
  obtain ⟨ov, rs, w, g⟩ := h
  exact st_call (of_Player_add ⟨a, b, f, s, ov, rs, x, p, _, rfl, w.now, ok.o, ht, fun _ _ H' v => k H' ⟨ov, rs, w.tr v, ⟨g.old.mono v.tp, g.rows.mono v.tp⟩⟩ v.tp, fun z => absurd z hx, fun _ z => absurd hp z⟩)
theorem OP.remove {e : Int} (h : OP A H0 H a b s f X) (ok : s.Ok f) (hz : s.soon.length ≤ 50000) (he : e ∈ s.o.q.turn) (k : ∀ H' a', a'.p = a.p → OP A H0 H' a' b (removeP s e) f X → Tps H H' → Q .non H') : xCall (sp_Player_remove A) [.ref a.p, .int e] H Q E := by
  obtain ⟨ov, rs, w, g⟩ := h
  exact st_call (of_Player_remove ⟨a, .ref b.q, s, ov, rs, e, _, rfl, w.now, ok.o, hz, fun _ H' so' v => k H' { a with so := so' } rfl ⟨ov, rs, w.tr v, ⟨g.old.mono v.tp, g.rows.mono v.tp⟩⟩ v.tp, fun z => absurd he z⟩)
theorem OP.soon {e : Int} (h : OP A H0 H a b s f X) (hz : s.soon.length ≤ 50000) (he : e ∈ s.o.q.turn) (k : ∀ H', OP A H0 H' a b (soonP s e) f X → Tps H H' → Q .non H') : xCall (sp_Player_play_soon A) [.ref a.p, .int e] H Q E := by
  obtain ⟨ov, rs, w, g⟩ := h
  exact st_call (of_Player_play_soon ⟨a, .ref b.q, s, ov, rs, e, _, rfl, w.now, hz, fun _ H' v => k H' ⟨ov, rs, w.tr v, ⟨g.old.mono v.tp, g.rows.mono v.tp⟩⟩ v.tp, fun z => absurd he z⟩)
theorem OP.ticks (h : OP A H0 H a b s f X) (k : Q (.int s.time) H) : xCall (sp_Player_ticks A) [.ref a.p] H Q E := by
  obtain ⟨ov, rs, w, g⟩ := h
  exact st_call (of_Player_ticks ⟨a, .ref b.q, s, ov, rs, _, rfl, w.now, k⟩)
theorem OP.tune {e : Int} (h : OP A H0 H a b s f X) (he : s.o.has e) (k : Q (.str (s.o.q.tune e)) H) : xCall (sp_Player_tune A) [.ref a.p, .int e] H Q E := by
  obtain ⟨ov, rs, w, g⟩ := h
  exact st_call (of_Player_tune ⟨a, .ref b.q, s, ov, rs, e, _, rfl, w.now, fun _ => k, fun z => absurd he z⟩)
theorem OP.state (h : OP A H0 H a b s f X) (k : ∀ H' t, OP A H0 H' a b s f X → Tps H H' → H' t = some (.tup [oV s.now, .int s.spot, .bl s.plays]) → Q (.ref t) H') : xCall (sp_Player_state A) [.ref a.p] H Q E := by
  obtain ⟨ov, rs, w, g⟩ := h
  exact st_call (of_Player_state ⟨a, .ref b.q, s, ov, rs, _, rfl, w.now, fun H' t v => k H' t ⟨ov, rs, w.tr v.drop1, g.mono v.tp⟩ v.tp (v.get 0 rfl)⟩)
theorem OP.entries (h : OP A H0 H a b s f X) (k : ∀ H' l, OP A H0 H' a b s f ((l, .lst (s.o.q.turn.map V.int)) :: X) → Tps H H' → Q (.ref l) H') : xCall (sp_Player_entries A) [.ref a.p] H Q E := by
  obtain ⟨ov, rs, w, g⟩ := h
  refine st_call (of_Player_entries ⟨a, .ref b.q, s, ov, rs, _, rfl, w.now, fun H' l v => ?_⟩)
  have w2 : W H H' (oL A a b s ov rs f ((l, .lst (s.o.q.turn.map V.int)) :: X)) := v.perm (by
    have e : ∀ (P S : List Ent) (x : Ent), (x :: (P ++ (S ++ X))).Perm (P ++ (S ++ (x :: X))) := fun P S x => by walk_at "perm"
    exact e _ _ _)
  exact k H' l ⟨ov, rs, w.tr w2, g.mono w2.tp⟩ w2.tp
theorem OP.log (h : OP A H0 H a b s f X) (k : ∀ H' l rs, OP A H0 H' a b s f ((l, .lst rs) :: X) → RowsAt H' rs s.rows → Tps H H' → Q (.ref l) H') : xCall (sp_Player_log A) [.ref a.p] H Q E := by
  obtain ⟨ov, rs, w, g⟩ := h
  refine st_call (of_Player_log ⟨a, .ref b.q, s, ov, rs, _, rfl, w.now, fun H' l v => ?_⟩)
  have w2 : W H H' (oL A a b s ov rs f ((l, .lst rs) :: X)) := v.perm (by
    have e : ∀ (P S : List Ent) (x : Ent), (x :: (P ++ (S ++ X))).Perm (P ++ (S ++ (x :: X))) := fun P S x => by walk_at "perm"
    exact e _ _ _)
  exact k H' l rs ⟨ov, rs, w.tr w2, g.mono w2.tp⟩ (g.rows.mono w2.tp) w2.tp
theorem OP.sounds (h : OP A H0 H a b s f X) (ok : s.Ok f) (k : ∀ H' l xs, OP A H0 H' a b s f ((l, .lst xs) :: X) → SnsAt H' xs (soundsP f s) → Tps H H' → Q (.ref l) H') : xCall (sp_Player_sounds A) [.ref a.p] H Q E := by
  obtain ⟨ov, rs, w, g⟩ := h
  refine st_call (of_Player_sounds ⟨a, b, f, s, ov, rs, _, rfl, w.now, g, (fun e q l z => ok.tn.kn (ok.od e q l z)), fun H' l xs v hs => ?_⟩)
  have w2 : W H H' (oL A a b s ov rs f ((l, .lst xs) :: X)) := v.perm (by
    have e : ∀ (P S : List Ent) (x : Ent), (x :: (P ++ (S ++ X))).Perm (P ++ (S ++ (x :: X))) := fun P S x => by walk_at "perm"
    exact e _ _ _)
  exact k H' l xs ⟨ov, rs, w.tr w2, g.mono w2.tp⟩ hs w2.tp
theorem OP.ahead {m : Int} {N : Nat} (h : OP A H0 H a b s f X) (ok : s.Ok f) (hz : Sz s N) (hN : N ≤ 40000) (hm : 0 ≤ m ∧ m ≤ 12)
    (k : ∀ H' l xs, OP A H0 H' a b s f ((l, .lst xs) :: X) → RowsAt H' xs (aheadP f s m.toNat) → Tps H H' → Q (.ref l) H') : xCall (sp_Player_ahead A) [.ref a.p, .int m] H Q E := by
  obtain ⟨ov, rs, w, g⟩ := h
  refine st_call (of_Player_ahead ⟨a, b, f, s, ov, rs, m, N, _, rfl, w.now, g, ok, hz, hN, fun _ H' l xs v r1 => ?_, fun z => absurd hm z⟩)
  have w2 : W H H' (oL A a b s ov rs f ((l, .lst xs) :: X)) := v.perm (by
    have e : ∀ (P S : List Ent) (x : Ent), (x :: (P ++ (S ++ X))).Perm (P ++ (S ++ (x :: X))) := fun P S x => by walk_at "perm"
    exact e _ _ _)
  exact k H' l xs ⟨ov, rs, w.tr w2, g.mono w2.tp⟩ r1 w2.tp
end
end TR

namespace TR
open PySem L2
/-- the second ones of pairs -/
theorem st_lcSnd {K : PySem.W.Frag} {H0 H : Hp} {L : List Ent} {a : Addr} {g : TG} {tt : TT} {te : TE} {vs : List Nat} {σ : L2.St} {Q : VK} {ys : List (Int × Int)} {zs : List V} (w : W H0 H L) (j : Nat) (hj : L[j]? = some (a, .lst zs)) (r : RowsAt H zs ys) (hl : ys.length ≤ 60000)
    (hs : ∀ D q (y : Int × Int) P H' xs, W H0 H' ((D, .lst xs) :: L) → H' q = some (.tup [.int y.1, .int y.2]) → xAcc D P (.int y.2) H' → LcTurn g tt te vs σ D P (.ref q) H')
    (k : ∀ D H', W H0 H' ((D, .lst ((ys.map (·.2)).map V.int)) :: L) → Q (.ref D) H') : xLc (Itl K a) g tt te vs σ H Q := by
  have hzy := r.len
  refine st_lcL (xs := zs) (fun D i H' => W H H' ((D, .lst (((ys.take i).map (·.2)).map V.int)) :: L)) w.now (fun D H' w1 => w1) (fun D i H' _ w1 => SqL.of (w1.get (j + 1) (by simpa using hj))) ?_ ?_
  · rintro D i x H' hx w1
    obtain ⟨y, hy, q, rfl, hq⟩ := r.get i hx
    have e : ((ys.take (i + 1)).map (·.2)).map V.int = ((ys.take i).map (·.2)).map V.int ++ [V.int y.2] := by
      rw [List.take_succ, hy, List.map_append, List.map_append]; rfl
    refine hs D q y _ H' _ (w.tr w1) (w1.tp _ _ hq) ?_
    refine st_acc w1.now 0 rfl (szL (by rw [List.length_map, List.length_map, List.length_take]; omega)) fun H3 w3 => ?_
    show W H H3 ((D, .lst (((ys.take (i + 1)).map (·.2)).map V.int)) :: L)
    rw [e]
    exact w1.tr w3
  · rintro D H' w1
    rw [hzy, List.take_length] at w1
    exact k D H' (w.tr w1)
/-- some of ints -/
theorem st_lcF {K : PySem.W.Frag} {H0 H : Hp} {L : List Ent} {a : Addr} {g : TG} {tt : TT} {te : TE} {vs : List Nat} {σ : L2.St} {Q : VK} {ns : List Int} (p : Int → Bool) (w : W H0 H L) (j : Nat) (hj : L[j]? = some (a, .lst (ns.map V.int))) (hl : ns.length ≤ 60000)
    (hs : ∀ D x P H' xs, W H0 H' ((D, .lst xs) :: L) → (p x = true → xAcc D P (.int x) H') → (p x = false → P H') → LcTurn g tt te vs σ D P (.int x) H')
    (k : ∀ D H', W H0 H' ((D, .lst ((ns.filter p).map V.int)) :: L) → Q (.ref D) H') : xLc (Itl K a) g tt te vs σ H Q := by
  refine st_lcL (xs := ns.map V.int) (fun D i H' => W H H' ((D, .lst (((ns.take i).filter p).map V.int)) :: L)) w.now (fun D H' w1 => w1) (fun D i H' _ w1 => SqL.of (w1.get (j + 1) (by simpa using hj))) ?_ ?_
  · rintro D i x H' hx w1
    rw [List.getElem?_map] at hx
    obtain ⟨y, hy, rfl⟩ := Option.map_eq_some_iff.mp hx
    have e : (ns.take (i + 1)).filter p = (ns.take i).filter p ++ [y].filter p := by
      rw [List.take_succ, hy, ← List.filter_append]; rfl
    refine hs D y _ H' _ (w.tr w1) (fun hp => ?_) (fun hp => ?_)
    · refine st_acc w1.now 0 rfl (szL ?_) fun H3 w3 => ?_
      · rw [List.length_map]
        exact Nat.le_trans (List.length_filter_le _ _) (by rw [List.length_take]; omega)
      · show W H H3 ((D, .lst (((ns.take (i + 1)).filter p).map V.int)) :: L)
        rw [e, List.filter_cons_of_pos hp, List.map_append]
        exact w1.tr w3
    · show W H H' ((D, .lst (((ns.take (i + 1)).filter p).map V.int)) :: L)
      rw [e, List.filter_cons_of_neg (by rw [hp]; exact Bool.false_ne_true), List.filter_nil, List.append_nil]
      exact w1
  · rintro D H' w1
    rw [List.length_map, List.take_length] at w1
    exact k D H' (w.tr w1)
section
variable {P : Program} {w : World} {K : PySem.W.Frag} {mg : Str → Option Value} {base : Heap} {A : Ads}
variable {H0 H : Hp} {a : PA} {b : SA} {s : Pl} {f : Sf} {X : List Ent} {Q : VK} {E : XK}
theorem OP.app {l : Addr} {xs : List V} {y : V} (h : OP A H0 H a b s f ((l, .lst xs) :: X)) (hz : xs.length ≤ 100000) (k : ∀ H', OP A H0 H' a b s f ((l, .lst (xs ++ [y])) :: X) → Tps H H' → Q .non H') : xApp (.ref l) [y] H Q := by
  obtain ⟨ov, rs, w, g⟩ := h
  refine st_app w.now 12 rfl (szL hz) fun H' w1 => ?_
  replace w1 : W H H' (oL A a b s ov rs f ((l, .lst (xs ++ [y])) :: X)) := w1
  exact k H' ⟨ov, rs, w.tr w1, g.mono w1.tp⟩ w1.tp
/-- the same with the new one in front -/
theorem OP.front {H1 H2 : Hp} {ov : V} {rs : List V} {x : Ent} (w : W H0 H1 (oL A a b s ov rs f X)) (g : PlF H1 s ov rs) (w2 : W H1 H2 (x :: (oL A a b s ov rs f X))) : OP A H0 H2 a b s f (x :: X) := by
  have w3 : W H1 H2 (oL A a b s ov rs f (x :: X)) := w2.perm (by
    have e : ∀ (P S : List Ent), (x :: (P ++ (S ++ X))).Perm (P ++ (S ++ (x :: X))) := fun P S => by walk_at "perm"
    exact e _ _)
  exact ⟨ov, rs, w.tr w3, g.mono w3.tp⟩
end
theorem last_app {xs : List V} {y : V} : atI (xs ++ [y]) (-1) = some y := by
  unfold atI ixN
  rw [if_neg (by decide), if_pos (by rw [List.length_append]; simp; omega)]
  show (xs ++ [y])[((-1 : Int) + ((xs ++ [y]).length : Int)).toNat]? = _
  rw [show ((-1 : Int) + ((xs ++ [y]).length : Int)).toNat = xs.length by rw [List.length_append]; simp; omega]
  rw [List.getElem?_append_right (Nat.le_refl _), Nat.sub_self]
  rfl
end TR

namespace TR
open PySem L2
/-! ### law_k40: calls -/
theorem op_in_seqT {X : Cx} {pn xe} : OpR (X.tr pn xe) (compareOp .In) (rIn X.K false) := op_in_seq
@[irreducible] def sp_one (A : Ads) : Sp := fun vs H Q E => ∃ (a : PA) (b : SA) (f : Sf) (s : Pl) (X : List Ent) (q : Addr) (c : PC) (bb t : Nat), vs = [.ref a.p, .ref q] ∧ H q = some (.tup c.tup) ∧ OP A H H a b s f X ∧ Kp f s bb t ∧ bb ≤ 100 ∧ t ≤ 30000 ∧
  (∀ n s', tellP f s c = .ok n s' → ∀ H' a', a'.p = a.p → OP A H H' a' b s' f X → Q (oV n) H') ∧ (∀ r, tellP f s c = .no r → ∀ H', OP A H H' a b s f X → E (.ref (r.cls A)) none H')
theorem of_one {A : Ads} {vs : List V} {H : Hp} {Q : VK} {E : XK} (h :  ∃ (a : PA) (b : SA) (f : Sf) (s : Pl) (X : List Ent) (q : Addr) (c : PC) (bb t : Nat), vs = [.ref a.p, .ref q] ∧ H q = some (.tup c.tup) ∧ OP A H H a b s f X ∧ Kp f s bb t ∧ bb ≤ 100 ∧ t ≤ 30000 ∧
  (∀ n s', tellP f s c = .ok n s' → ∀ H' a', a'.p = a.p → OP A H H' a' b s' f X → Q (oV n) H') ∧ (∀ r, tellP f s c = .no r → ∀ H', OP A H H' a b s f X → E (.ref (r.cls A)) none H')) : sp_one A vs H Q E := by unfold sp_one; exact h
@[irreducible] def sp_told (A : Ads) : Sp := fun vs H Q _ => ∃ (a : PA) (b : SA) (f : Sf) (s : Pl) (X : List Ent) (q : Addr) (c : PC) (bb t : Nat), vs = [.ref a.p, .ref q] ∧ H q = some (.tup c.tup) ∧ OP A H H a b s f X ∧ Kp f s bb t ∧ bb ≤ 100 ∧ t ≤ 30000 ∧
  (∀ H' a' p, a'.p = a.p → OP A H H' a' b ((tellP f s c).st s) f ((p, .tup (tellP f s c).tup) :: X) → Q (.ref p) H')
theorem of_told {A : Ads} {vs : List V} {H : Hp} {Q : VK} {E : XK} (h :  ∃ (a : PA) (b : SA) (f : Sf) (s : Pl) (X : List Ent) (q : Addr) (c : PC) (bb t : Nat), vs = [.ref a.p, .ref q] ∧ H q = some (.tup c.tup) ∧ OP A H H a b s f X ∧ Kp f s bb t ∧ bb ≤ 100 ∧ t ≤ 30000 ∧
  (∀ H' a' p, a'.p = a.p → OP A H H' a' b ((tellP f s c).st s) f ((p, .tup (tellP f s c).tup) :: X) → Q (.ref p) H')) : sp_told A vs H Q E := by unfold sp_told; exact h
section
variable {P : Program} {w : World} {K : PySem.W.Frag} {mg : Str → Option Value} {base : Heap} {A : Ads}
variable {H0 H : Hp} {a : PA} {b : SA} {s : Pl} {f : Sf} {X : List Ent} {Q : VK} {E : XK}
theorem OP.get0 {q : Addr} {o : HO} (h : OP A H0 H a b s f ((q, o) :: X)) : H q = some o := let ⟨_, _, w, _⟩ := h; w.get 12 rfl
theorem OP.tps (h : OP A H0 H a b s f X) : Tps H0 H := let ⟨_, _, w, _⟩ := h; w.tp
theorem op_told {H2 : Hp} {ov : V} {rs : List V} {a' : Addr} {r : Rf} {E2 : XK} (w : W H H2 ((a', ExH (.ref (r.cls A)) none a') :: oL A a b s ov rs f X)) (g : PlF H2 s ov rs)
    (k : ∀ H' t, OP A H H' a b s f ((t, .tup (refT r)) :: X) → Q (.ref t) H') : xCall (sp_refusal A) [.ref a'] H2 Q E2 := by
  refine st_call (of_refusal ⟨a', r, _, rfl, w.now, fun H3 t w3 => ?_⟩)
  have w4 : W H2 H3 ((t, .tup (refT r)) :: oL A a b s ov rs f X) := (w3.rot 1 1).drop1
  have w5 : W H2 H3 (oL A a b s ov rs f ((t, .tup (refT r)) :: X)) := w4.perm (by
    have e : ∀ (P S : List Ent) (x : Ent), (x :: (P ++ (S ++ X))).Perm (P ++ (S ++ (x :: X))) := fun P S x => by walk_at "perm"
    exact e _ _ _)
  exact k H3 t ⟨ov, rs, w.tr w5, g.mono w5.tp⟩
theorem ok_law_one (T : Txt K mg A) : FnOk P w K mg base (L2.CX P w) 11 A.f_law_one A.d_law_one P_law_one (sp_one A) := by
  refine T.F_law_one.okX sc_law_one (fun vs H Q E h => ?_) (fun cdv Ar outer s H vs Q E hr h => ?_)
  · unfold sp_one at h; obtain ⟨a, b, f, s, X, q, c, bb, t, rfl, _⟩ := h; rfl
  · unfold sp_one at h; obtain ⟨a, b, f, s, X, q, c, bb, t, rfl, hq, p, kp, hbb, htt, k1, k2⟩ := h
    refine ⟨_, (pss_cons (ps_asg (pv 1) (pg_tup rfl (pgs_cons (pg_name (i := 2) sc_law_one.nd rfl (by first | exact Or.inl rfl | exact Or.inr rfl)) (pgs_cons (pg_name (i := 3) sc_law_one.nd rfl (by first | exact Or.inl rfl | exact Or.inr rfl)) (pgs_cons (pg_name (i := 4) sc_law_one.nd rfl (by first | exact Or.inl rfl | exact Or.inr rfl)) pgs_nil)))))
      (pss_cons (my_if (pt_cmpR op_in_seq (pv 2) (my_tup (pa_cons pe_str (pa_cons pe_str pa_nil))) (by rfl))
        (pss_one (ps_ret (my_ifExp (pt_cmpR op_eq (pv 2) pe_str (nomark _)) (my_meth (pv 0) T.c_Player T.m_Player_add (ok_Player_add T) (hr.mono (by decide)) T.b_Player_add passE (pa_cons (pv 3) (pa_cons (pv 4) pa_nil))) (my_meth (pv 0) T.c_Player T.m_Player_move (ok_Player_move T) (hr.mono (by decide)) T.b_Player_move passE (pa_cons (pv 3) (pa_cons (pv 4) pa_nil))))))
        pss_nil)
      (pss_cons (my_if (pt_cmpR op_in_seq (pv 2) (my_tup (pa_cons pe_str (pa_cons pe_str (pa_cons pe_str pa_nil)))) (by rfl))
        (pss_cons (my_if (pt_cmpR op_eq (pv 2) pe_str (nomark _))
        (pss_one (ps_ret (my_meth (pv 0) T.c_Player T.m_Player_remove (ok_Player_remove T) (hr.mono (by decide)) T.b_Player_remove passE (pa_cons (pv 3) pa_nil))))
        pss_nil)
      (pss_one (ps_ret (my_ifExp (pt_cmpR op_eq (pv 2) pe_str (nomark _)) (my_meth (pv 0) T.c_Player T.m_Player_play_soon (ok_Player_play_soon T) (hr.mono (by decide)) T.b_Player_play_soon passE (pa_cons (pv 3) pa_nil)) (my_meth (pv 0) T.c_Player T.m_Player_play (ok_Player_play T) (hr.mono (by decide)) T.b_Player_play passE (pa_cons (pv 3) pa_nil))))))
        pss_nil)
      (pss_cons (my_if (pt_cmpR op_in_seq (pv 2) (my_tup (pa_cons pe_str (pa_cons pe_str (pa_cons pe_str (pa_cons pe_str pa_nil))))) (by rfl))
        (pss_cons (my_if (pt_cmpR op_in_seq (pv 2) (my_tup (pa_cons pe_str (pa_cons pe_str pa_nil))) (by rfl))
        (pss_one (ps_ret (my_ifExp (pt_cmpR op_eq (pv 2) pe_str (nomark _)) (my_meth (pv 0) T.c_Player T.m_Player_set_again (ok_Player_set_again T) (hr.mono (by decide)) T.b_Player_set_again passE (pa_cons (pv 3) pa_nil)) (my_meth (pv 0) T.c_Player T.m_Player_set_mixed (ok_Player_set_mixed T) (hr.mono (by decide)) T.b_Player_set_mixed passE (pa_cons (pv 3) pa_nil)))))
        pss_nil)
      (pss_one (ps_ret (my_ifExp (pt_cmpR op_eq (pv 2) pe_str (nomark _)) (my_meth (pv 0) T.c_Player T.m_Player_seek (ok_Player_seek T) (hr.mono (by decide)) T.b_Player_seek passE (pa_cons (pv 3) pa_nil)) (my_meth (pv 0) T.c_Player T.m_Player_stop_behind (ok_Player_stop_behind T) (hr.mono (by decide)) T.b_Player_stop_behind passE (pa_cons (pv 3) pa_nil))))))
        pss_nil)
      (pss_cons (my_if (pt_cmpR op_in_seq (pv 2) (my_tup (pa_cons pe_str (pa_cons pe_str (pa_cons pe_str pa_nil)))) (by rfl))
        (pss_cons (my_if (pt_cmpR op_eq (pv 2) pe_str (nomark _))
        (pss_one (ps_ret (my_meth0 (pv 0) T.c_Player T.m_Player_resume (ok_Player_resume T) (hr.mono (by decide)) T.b_Player_resume passE)))
        pss_nil)
      (pss_one (ps_ret (my_ifExp (pt_cmpR op_eq (pv 2) pe_str (nomark _)) (my_meth0 (pv 0) T.c_Player T.m_Player_pause (ok_Player_pause T) (hr.mono (by decide)) T.b_Player_pause passE) (my_meth0 (pv 0) T.c_Player T.m_Player_skip (ok_Player_skip T) (hr.mono (by decide)) T.b_Player_skip passE)))))
        pss_nil)
      (pss_cons (my_if (pt_cmpR op_eq (pv 2) pe_str (nomark _))
        (pss_one (ps_ret (my_meth0 (pv 0) T.c_Player T.m_Player_back (ok_Player_back T) (hr.mono (by decide)) T.b_Player_back passE)))
        pss_nil)
      (pss_one (ps_ret (my_ifExp (pt_cmpR op_eq (pv 2) pe_str (nomark _)) (my_meth (pv 0) T.c_Player T.m_Player_sleep (ok_Player_sleep T) (hr.mono (by decide)) T.b_Player_sleep passE (pa_cons (pv 3) pa_nil)) (my_meth (pv 0) T.c_Player T.m_Player_tick (ok_Player_tick T) (hr.mono (by decide)) T.b_Player_tick passE (pa_cons (pv 3) pa_nil))))))))))), ?_⟩
    have ok := kp.ok
    have hz := kp.sz
    have few := kp.few hbb
    obtain ⟨ov, rs, w, g⟩ := p
    cases c with
--<<
    | add x p =>
        replace hq : H q = some (.tup (PC.tup (.add x p))) := hq
        dsimp only [PC.tup] at hq
        walk_at "rd"
        refine OP.new ⟨ov, rs, w, g⟩ fun _ _ pT tT => ?_
        have hT := pT.get0
        replace pT := OP.cut1 pT
        clear w g
        replace hq := tT _ _ hq
        obtain ⟨ov, rs, w, g⟩ := pT
        walk_at "rd"
        refine xIf_T (by decide +kernel) ?_
        walk_at "rd"
        refine xIf_T (by decide +kernel) ?_
        walk_at "rd"
        refine st_call (of_Player_add ⟨a, b, f, s, ov, rs, x, p, _, rfl, w.now, ok.o, by omega, fun h1 h2 H' v => k1 (some ((s.o.q.tunes.length : Int) + 1)) _ ?_ H' a rfl ⟨ov, rs, w.tr v, ⟨g.old.mono v.tp, g.rows.mono v.tp⟩⟩, fun h1 => k2 .tune ?_ _ ⟨ov, rs, w, g⟩, fun h1 h2 => k2 .number ?_ _ ⟨ov, rs, w, g⟩⟩)
        · simp only [tellP]; rw [if_neg h1, if_pos h2]
        · simp only [tellP]; rw [if_pos h1]
        · simp only [tellP]; rw [if_neg h1, if_neg h2]
    | move e p =>
        replace hq : H q = some (.tup (PC.tup (.move e p))) := hq
        dsimp only [PC.tup] at hq
        walk_at "rd"
        refine OP.new ⟨ov, rs, w, g⟩ fun _ _ pT tT => ?_
        have hT := pT.get0
        replace pT := OP.cut1 pT
        clear w g
        replace hq := tT _ _ hq
        obtain ⟨ov, rs, w, g⟩ := pT
        walk_at "rd"
        refine xIf_T (by decide +kernel) ?_
        walk_at "rd"
        refine xIf_F (by decide +kernel) ?_
        walk_at "rd"
        refine st_call (of_Player_move ⟨a, .ref b.q, s, ov, rs, e, p, _, rfl, w.now, ok.o, fun h1 h2 H' v => k1 none _ ?_ H' a rfl ⟨ov, rs, w.tr v, ⟨g.old.mono v.tp, g.rows.mono v.tp⟩⟩, fun h1 => k2 .entry ?_ _ ⟨ov, rs, w, g⟩, fun h1 h2 => k2 .number ?_ _ ⟨ov, rs, w, g⟩⟩)
        · simp only [tellP]; rw [if_pos h1, if_pos h2]
        · simp only [tellP]; rw [if_neg h1]
        · simp only [tellP]; rw [if_pos h1, if_neg h2]
    | remove e p =>
        replace hq : H q = some (.tup (PC.tup (.remove e p))) := hq
        dsimp only [PC.tup] at hq
        walk_at "rd"
        refine OP.new ⟨ov, rs, w, g⟩ fun _ _ pT tT => ?_
        have hT := pT.get0
        replace pT := OP.cut1 pT
        clear w g
        replace hq := tT _ _ hq
        obtain ⟨ov, rs, w, g⟩ := pT
        walk_at "rd"
        refine xIf_F (by decide +kernel) ?_
        walk_at "rd"
        refine OP.new ⟨ov, rs, w, g⟩ fun _ _ pT tT => ?_
        have hT := pT.get0
        replace pT := OP.cut1 pT
        clear w g
        replace hq := tT _ _ hq
        obtain ⟨ov, rs, w, g⟩ := pT
        walk_at "rd"
        refine xIf_T (by decide +kernel) ?_
        walk_at "rd"
        refine xIf_T (by decide +kernel) ?_
        walk_at "rd"
        refine st_call (of_Player_remove ⟨a, .ref b.q, s, ov, rs, e, _, rfl, w.now, ok.o, by have := hz.s; omega, fun h1 H' so' v => k1 none _ ?_ H' { a with so := so' } rfl ⟨ov, rs, w.tr v, ⟨g.old.mono v.tp, g.rows.mono v.tp⟩⟩, fun h1 H' v => k2 .entry ?_ H' ⟨ov, rs, w.tr v, ⟨g.old.mono v.tp, g.rows.mono v.tp⟩⟩⟩)
        · simp only [tellP]; rw [if_pos h1]
        · simp only [tellP]; rw [if_neg h1]
    | soon e p =>
        replace hq : H q = some (.tup (PC.tup (.soon e p))) := hq
        dsimp only [PC.tup] at hq
        walk_at "rd"
        refine OP.new ⟨ov, rs, w, g⟩ fun _ _ pT tT => ?_
        have hT := pT.get0
        replace pT := OP.cut1 pT
        clear w g
        replace hq := tT _ _ hq
        obtain ⟨ov, rs, w, g⟩ := pT
        walk_at "rd"
        refine xIf_F (by decide +kernel) ?_
        walk_at "rd"
        refine OP.new ⟨ov, rs, w, g⟩ fun _ _ pT tT => ?_
        have hT := pT.get0
        replace pT := OP.cut1 pT
        clear w g
        replace hq := tT _ _ hq
        obtain ⟨ov, rs, w, g⟩ := pT
        walk_at "rd"
        refine xIf_T (by decide +kernel) ?_
        walk_at "rd"
        refine xIf_F (by decide +kernel) ?_
        walk_at "rd"
        refine xIf_T (by decide +kernel) ?_
        walk_at "rd"
        refine st_call (of_Player_play_soon ⟨a, .ref b.q, s, ov, rs, e, _, rfl, w.now, by have := hz.s; omega, fun h1 H' v => k1 none _ ?_ H' a rfl ⟨ov, rs, w.tr v, ⟨g.old.mono v.tp, g.rows.mono v.tp⟩⟩, fun h1 => k2 .entry ?_ _ ⟨ov, rs, w, g⟩⟩)
        · simp only [tellP]; rw [if_pos h1]
        · simp only [tellP]; rw [if_neg h1]
    | play e p =>
        replace hq : H q = some (.tup (PC.tup (.play e p))) := hq
        dsimp only [PC.tup] at hq
        walk_at "rd"
        refine OP.new ⟨ov, rs, w, g⟩ fun _ _ pT tT => ?_
        have hT := pT.get0
        replace pT := OP.cut1 pT
        clear w g
        replace hq := tT _ _ hq
        obtain ⟨ov, rs, w, g⟩ := pT
        walk_at "rd"
        refine xIf_F (by decide +kernel) ?_
        walk_at "rd"
        refine OP.new ⟨ov, rs, w, g⟩ fun _ _ pT tT => ?_
        have hT := pT.get0
        replace pT := OP.cut1 pT
        clear w g
        replace hq := tT _ _ hq
        obtain ⟨ov, rs, w, g⟩ := pT
        walk_at "rd"
        refine xIf_T (by decide +kernel) ?_
        walk_at "rd"
        refine xIf_F (by decide +kernel) ?_
        walk_at "rd"
        refine xIf_F (by decide +kernel) ?_
        walk_at "rd"
        refine st_call (of_Player_play ⟨a, b, f, s, e, _, rfl, OP.pw w g, ok.o, hz.mono (by omega), fun h1 H' pw => k1 none _ ?_ H' a rfl (OP.of w pw), fun h1 => k2 .entry ?_ _ ⟨ov, rs, w, g⟩⟩)
        · simp only [tellP]; rw [if_pos h1]
        · simp only [tellP]; rw [if_neg h1]
    | again x =>
        replace hq : H q = some (.tup (PC.tup (.again x))) := hq
        dsimp only [PC.tup] at hq
        walk_at "rd"
        refine OP.new ⟨ov, rs, w, g⟩ fun _ _ pT tT => ?_
        have hT := pT.get0
        replace pT := OP.cut1 pT
        clear w g
        replace hq := tT _ _ hq
        obtain ⟨ov, rs, w, g⟩ := pT
        walk_at "rd"
        refine xIf_F (by decide +kernel) ?_
        walk_at "rd"
        refine OP.new ⟨ov, rs, w, g⟩ fun _ _ pT tT => ?_
        have hT := pT.get0
        replace pT := OP.cut1 pT
        clear w g
        replace hq := tT _ _ hq
        obtain ⟨ov, rs, w, g⟩ := pT
        walk_at "rd"
        refine xIf_F (by decide +kernel) ?_
        walk_at "rd"
        refine OP.new ⟨ov, rs, w, g⟩ fun _ _ pT tT => ?_
        have hT := pT.get0
        replace pT := OP.cut1 pT
        clear w g
        replace hq := tT _ _ hq
        obtain ⟨ov, rs, w, g⟩ := pT
        walk_at "rd"
        refine xIf_T (by decide +kernel) ?_
        walk_at "rd"
        refine OP.new ⟨ov, rs, w, g⟩ fun _ _ pT tT => ?_
        have hT := pT.get0
        replace pT := OP.cut1 pT
        clear w g
        replace hq := tT _ _ hq
        obtain ⟨ov, rs, w, g⟩ := pT
        walk_at "rd"
        refine xIf_T (by decide +kernel) ?_
        walk_at "rd"
        refine xIf_T (by decide +kernel) ?_
        walk_at "rd"
        refine st_call (of_Player_set_again ⟨a, .ref b.q, s, ov, rs, x, _, rfl, w.now, fun h1 H' v => k1 none _ ?_ H' a rfl ⟨ov, rs, w.tr v, ⟨g.old.mono v.tp, g.rows.mono v.tp⟩⟩, fun h1 => k2 .word ?_ _ ⟨ov, rs, w, g⟩⟩)
        · simp only [tellP]; rw [if_pos h1]
        · simp only [tellP]; rw [if_neg h1]
    | mixed c =>
        replace hq : H q = some (.tup (PC.tup (.mixed c))) := hq
        dsimp only [PC.tup] at hq
        walk_at "rd"
        refine OP.new ⟨ov, rs, w, g⟩ fun _ _ pT tT => ?_
        have hT := pT.get0
        replace pT := OP.cut1 pT
        clear w g
        replace hq := tT _ _ hq
        obtain ⟨ov, rs, w, g⟩ := pT
        walk_at "rd"
        refine xIf_F (by decide +kernel) ?_
        walk_at "rd"
        refine OP.new ⟨ov, rs, w, g⟩ fun _ _ pT tT => ?_
        have hT := pT.get0
        replace pT := OP.cut1 pT
        clear w g
        replace hq := tT _ _ hq
        obtain ⟨ov, rs, w, g⟩ := pT
        walk_at "rd"
        refine xIf_F (by decide +kernel) ?_
        walk_at "rd"
        refine OP.new ⟨ov, rs, w, g⟩ fun _ _ pT tT => ?_
        have hT := pT.get0
        replace pT := OP.cut1 pT
        clear w g
        replace hq := tT _ _ hq
        obtain ⟨ov, rs, w, g⟩ := pT
        walk_at "rd"
        refine xIf_T (by decide +kernel) ?_
        walk_at "rd"
        refine OP.new ⟨ov, rs, w, g⟩ fun _ _ pT tT => ?_
        have hT := pT.get0
        replace pT := OP.cut1 pT
        clear w g
        replace hq := tT _ _ hq
        obtain ⟨ov, rs, w, g⟩ := pT
        walk_at "rd"
        refine xIf_T (by decide +kernel) ?_
        walk_at "rd"
        refine xIf_F (by decide +kernel) ?_
        walk_at "rd"
        exact OP.mixed ⟨ov, rs, w, g⟩ ok fun H' a' ea pN _ => k1 _ _ rfl H' a' ea pN
    | seek n =>
        replace hq : H q = some (.tup (PC.tup (.seek n))) := hq
        dsimp only [PC.tup] at hq
        walk_at "rd"
        refine OP.new ⟨ov, rs, w, g⟩ fun _ _ pT tT => ?_
        have hT := pT.get0
        replace pT := OP.cut1 pT
        clear w g
        replace hq := tT _ _ hq
        obtain ⟨ov, rs, w, g⟩ := pT
        walk_at "rd"
        refine xIf_F (by decide +kernel) ?_
        walk_at "rd"
        refine OP.new ⟨ov, rs, w, g⟩ fun _ _ pT tT => ?_
        have hT := pT.get0
        replace pT := OP.cut1 pT
        clear w g
        replace hq := tT _ _ hq
        obtain ⟨ov, rs, w, g⟩ := pT
        walk_at "rd"
        refine xIf_F (by decide +kernel) ?_
        walk_at "rd"
        refine OP.new ⟨ov, rs, w, g⟩ fun _ _ pT tT => ?_
        have hT := pT.get0
        replace pT := OP.cut1 pT
        clear w g
        replace hq := tT _ _ hq
        obtain ⟨ov, rs, w, g⟩ := pT
        walk_at "rd"
        refine xIf_T (by decide +kernel) ?_
        walk_at "rd"
        refine OP.new ⟨ov, rs, w, g⟩ fun _ _ pT tT => ?_
        have hT := pT.get0
        replace pT := OP.cut1 pT
        clear w g
        replace hq := tT _ _ hq
        obtain ⟨ov, rs, w, g⟩ := pT
        walk_at "rd"
        refine xIf_F (by decide +kernel) ?_
        walk_at "rd"
        refine xIf_T (by decide +kernel) ?_
        walk_at "rd"
        refine st_call (of_Player_seek ⟨a, b, f, s, ov, rs, n, _, rfl, w.now, (fun m hm => ok.tn.kn (ok.nw m hm).1), fun m hm h1 H' v => k1 none _ ?_ H' a rfl ⟨.non, rs, w.tr v, ⟨rfl, g.rows.mono v.tp⟩⟩, fun h1 => k2 .entry ?_ _ ⟨ov, rs, w, g⟩, fun m hm h1 => k2 .number ?_ _ ⟨ov, rs, w, g⟩⟩)
        · simp only [tellP]; rw [hm]; show (if _ then _ else _) = _; rw [if_pos h1]
        · simp only [tellP]; rw [h1]
        · simp only [tellP]; rw [hm]; show (if _ then _ else _) = _; rw [if_neg h1]
    | stop c =>
        replace hq : H q = some (.tup (PC.tup (.stop c))) := hq
        dsimp only [PC.tup] at hq
        walk_at "rd"
        refine OP.new ⟨ov, rs, w, g⟩ fun _ _ pT tT => ?_
        have hT := pT.get0
        replace pT := OP.cut1 pT
        clear w g
        replace hq := tT _ _ hq
        obtain ⟨ov, rs, w, g⟩ := pT
        walk_at "rd"
        refine xIf_F (by decide +kernel) ?_
        walk_at "rd"
        refine OP.new ⟨ov, rs, w, g⟩ fun _ _ pT tT => ?_
        have hT := pT.get0
        replace pT := OP.cut1 pT
        clear w g
        replace hq := tT _ _ hq
        obtain ⟨ov, rs, w, g⟩ := pT
        walk_at "rd"
        refine xIf_F (by decide +kernel) ?_
        walk_at "rd"
        refine OP.new ⟨ov, rs, w, g⟩ fun _ _ pT tT => ?_
        have hT := pT.get0
        replace pT := OP.cut1 pT
        clear w g
        replace hq := tT _ _ hq
        obtain ⟨ov, rs, w, g⟩ := pT
        walk_at "rd"
        refine xIf_T (by decide +kernel) ?_
        walk_at "rd"
        refine OP.new ⟨ov, rs, w, g⟩ fun _ _ pT tT => ?_
        have hT := pT.get0
        replace pT := OP.cut1 pT
        clear w g
        replace hq := tT _ _ hq
        obtain ⟨ov, rs, w, g⟩ := pT
        walk_at "rd"
        refine xIf_F (by decide +kernel) ?_
        walk_at "rd"
        refine xIf_F (by decide +kernel) ?_
        walk_at "rd"
        exact OP.stop ⟨ov, rs, w, g⟩ fun H' pN _ => k1 _ _ rfl H' a rfl pN
    | resume =>
        replace hq : H q = some (.tup (PC.tup (.resume))) := hq
        dsimp only [PC.tup] at hq
        walk_at "rd"
        refine OP.new ⟨ov, rs, w, g⟩ fun _ _ pT tT => ?_
        have hT := pT.get0
        replace pT := OP.cut1 pT
        clear w g
        replace hq := tT _ _ hq
        obtain ⟨ov, rs, w, g⟩ := pT
        walk_at "rd"
        refine xIf_F (by decide +kernel) ?_
        walk_at "rd"
        refine OP.new ⟨ov, rs, w, g⟩ fun _ _ pT tT => ?_
        have hT := pT.get0
        replace pT := OP.cut1 pT
        clear w g
        replace hq := tT _ _ hq
        obtain ⟨ov, rs, w, g⟩ := pT
        walk_at "rd"
        refine xIf_F (by decide +kernel) ?_
        walk_at "rd"
        refine OP.new ⟨ov, rs, w, g⟩ fun _ _ pT tT => ?_
        have hT := pT.get0
        replace pT := OP.cut1 pT
        clear w g
        replace hq := tT _ _ hq
        obtain ⟨ov, rs, w, g⟩ := pT
        walk_at "rd"
        refine xIf_F (by decide +kernel) ?_
        walk_at "rd"
        refine OP.new ⟨ov, rs, w, g⟩ fun _ _ pT tT => ?_
        have hT := pT.get0
        replace pT := OP.cut1 pT
        clear w g
        replace hq := tT _ _ hq
        obtain ⟨ov, rs, w, g⟩ := pT
        walk_at "rd"
        refine xIf_T (by decide +kernel) ?_
        walk_at "rd"
        refine xIf_T (by decide +kernel) ?_
        walk_at "rd"
        exact OP.resume ⟨ov, rs, w, g⟩ ok (hz.mono (by omega)) fun H' a' ea pN _ => k1 _ _ rfl H' a' ea pN
    | pause =>
        replace hq : H q = some (.tup (PC.tup (.pause))) := hq
        dsimp only [PC.tup] at hq
        walk_at "rd"
        refine OP.new ⟨ov, rs, w, g⟩ fun _ _ pT tT => ?_
        have hT := pT.get0
        replace pT := OP.cut1 pT
        clear w g
        replace hq := tT _ _ hq
        obtain ⟨ov, rs, w, g⟩ := pT
        walk_at "rd"
        refine xIf_F (by decide +kernel) ?_
        walk_at "rd"
        refine OP.new ⟨ov, rs, w, g⟩ fun _ _ pT tT => ?_
        have hT := pT.get0
        replace pT := OP.cut1 pT
        clear w g
        replace hq := tT _ _ hq
        obtain ⟨ov, rs, w, g⟩ := pT
        walk_at "rd"
        refine xIf_F (by decide +kernel) ?_
        walk_at "rd"
        refine OP.new ⟨ov, rs, w, g⟩ fun _ _ pT tT => ?_
        have hT := pT.get0
        replace pT := OP.cut1 pT
        clear w g
        replace hq := tT _ _ hq
        obtain ⟨ov, rs, w, g⟩ := pT
        walk_at "rd"
        refine xIf_F (by decide +kernel) ?_
        walk_at "rd"
        refine OP.new ⟨ov, rs, w, g⟩ fun _ _ pT tT => ?_
        have hT := pT.get0
        replace pT := OP.cut1 pT
        clear w g
        replace hq := tT _ _ hq
        obtain ⟨ov, rs, w, g⟩ := pT
        walk_at "rd"
        refine xIf_T (by decide +kernel) ?_
        walk_at "rd"
        refine xIf_F (by decide +kernel) ?_
        walk_at "rd"
        refine xIf_T (by decide +kernel) ?_
        walk_at "rd"
        exact OP.pause ⟨ov, rs, w, g⟩ fun H' pN _ => k1 _ _ rfl H' a rfl pN
    | skip =>
        replace hq : H q = some (.tup (PC.tup (.skip))) := hq
        dsimp only [PC.tup] at hq
        walk_at "rd"
        refine OP.new ⟨ov, rs, w, g⟩ fun _ _ pT tT => ?_
        have hT := pT.get0
        replace pT := OP.cut1 pT
        clear w g
        replace hq := tT _ _ hq
        obtain ⟨ov, rs, w, g⟩ := pT
        walk_at "rd"
        refine xIf_F (by decide +kernel) ?_
        walk_at "rd"
        refine OP.new ⟨ov, rs, w, g⟩ fun _ _ pT tT => ?_
        have hT := pT.get0
        replace pT := OP.cut1 pT
        clear w g
        replace hq := tT _ _ hq
        obtain ⟨ov, rs, w, g⟩ := pT
        walk_at "rd"
        refine xIf_F (by decide +kernel) ?_
        walk_at "rd"
        refine OP.new ⟨ov, rs, w, g⟩ fun _ _ pT tT => ?_
        have hT := pT.get0
        replace pT := OP.cut1 pT
        clear w g
        replace hq := tT _ _ hq
        obtain ⟨ov, rs, w, g⟩ := pT
        walk_at "rd"
        refine xIf_F (by decide +kernel) ?_
        walk_at "rd"
        refine OP.new ⟨ov, rs, w, g⟩ fun _ _ pT tT => ?_
        have hT := pT.get0
        replace pT := OP.cut1 pT
        clear w g
        replace hq := tT _ _ hq
        obtain ⟨ov, rs, w, g⟩ := pT
        walk_at "rd"
        refine xIf_T (by decide +kernel) ?_
        walk_at "rd"
        refine xIf_F (by decide +kernel) ?_
        walk_at "rd"
        refine xIf_F (by decide +kernel) ?_
        walk_at "rd"
        exact OP.skip ⟨ov, rs, w, g⟩ ok (hz.mono (by omega)) fun H' a' ea pN _ => k1 _ _ rfl H' a' ea pN
    | back =>
        replace hq : H q = some (.tup (PC.tup (.back))) := hq
        dsimp only [PC.tup] at hq
        walk_at "rd"
        refine OP.new ⟨ov, rs, w, g⟩ fun _ _ pT tT => ?_
        have hT := pT.get0
        replace pT := OP.cut1 pT
        clear w g
        replace hq := tT _ _ hq
        obtain ⟨ov, rs, w, g⟩ := pT
        walk_at "rd"
        refine xIf_F (by decide +kernel) ?_
        walk_at "rd"
        refine OP.new ⟨ov, rs, w, g⟩ fun _ _ pT tT => ?_
        have hT := pT.get0
        replace pT := OP.cut1 pT
        clear w g
        replace hq := tT _ _ hq
        obtain ⟨ov, rs, w, g⟩ := pT
        walk_at "rd"
        refine xIf_F (by decide +kernel) ?_
        walk_at "rd"
        refine OP.new ⟨ov, rs, w, g⟩ fun _ _ pT tT => ?_
        have hT := pT.get0
        replace pT := OP.cut1 pT
        clear w g
        replace hq := tT _ _ hq
        obtain ⟨ov, rs, w, g⟩ := pT
        walk_at "rd"
        refine xIf_F (by decide +kernel) ?_
        walk_at "rd"
        refine OP.new ⟨ov, rs, w, g⟩ fun _ _ pT tT => ?_
        have hT := pT.get0
        replace pT := OP.cut1 pT
        clear w g
        replace hq := tT _ _ hq
        obtain ⟨ov, rs, w, g⟩ := pT
        walk_at "rd"
        refine xIf_F (by decide +kernel) ?_
        walk_at "rd"
        refine xIf_T (by decide +kernel) ?_
        walk_at "rd"
        exact OP.back ⟨ov, rs, w, g⟩ ok (hz.mono (by omega)) fun H' pN _ => k1 _ _ rfl H' a rfl pN
    | sleep m =>
        replace hq : H q = some (.tup (PC.tup (.sleep m))) := hq
        dsimp only [PC.tup] at hq
        walk_at "rd"
        refine OP.new ⟨ov, rs, w, g⟩ fun _ _ pT tT => ?_
        have hT := pT.get0
        replace pT := OP.cut1 pT
        clear w g
        replace hq := tT _ _ hq
        obtain ⟨ov, rs, w, g⟩ := pT
        walk_at "rd"
        refine xIf_F (by decide +kernel) ?_
        walk_at "rd"
        refine OP.new ⟨ov, rs, w, g⟩ fun _ _ pT tT => ?_
        have hT := pT.get0
        replace pT := OP.cut1 pT
        clear w g
        replace hq := tT _ _ hq
        obtain ⟨ov, rs, w, g⟩ := pT
        walk_at "rd"
        refine xIf_F (by decide +kernel) ?_
        walk_at "rd"
        refine OP.new ⟨ov, rs, w, g⟩ fun _ _ pT tT => ?_
        have hT := pT.get0
        replace pT := OP.cut1 pT
        clear w g
        replace hq := tT _ _ hq
        obtain ⟨ov, rs, w, g⟩ := pT
        walk_at "rd"
        refine xIf_F (by decide +kernel) ?_
        walk_at "rd"
        refine OP.new ⟨ov, rs, w, g⟩ fun _ _ pT tT => ?_
        have hT := pT.get0
        replace pT := OP.cut1 pT
        clear w g
        replace hq := tT _ _ hq
        obtain ⟨ov, rs, w, g⟩ := pT
        walk_at "rd"
        refine xIf_F (by decide +kernel) ?_
        walk_at "rd"
        refine xIf_F (by decide +kernel) ?_
        walk_at "rd"
        refine xIf_T (by decide +kernel) ?_
        walk_at "rd"
        cases m with
        | none => exact OP.sleep (m := none) ⟨ov, rs, w, g⟩ (fun _ z => nomatch z) fun H' pN _ => k1 _ _ rfl H' a rfl pN
        | some j =>
          refine st_call (of_Player_sleep ⟨a, .ref b.q, s, ov, rs, some j, _, rfl, w.now, fun h1 H' v => k1 none _ ?_ H' a rfl ⟨ov, rs, w.tr v, ⟨g.old.mono v.tp, g.rows.mono v.tp⟩⟩, fun h1 => k2 .number ?_ _ ⟨ov, rs, w, g⟩⟩)
          · simp only [tellP]; rw [if_pos (h1 j rfl)]
          · simp only [tellP]; rw [if_neg (fun z => h1 fun i e => by cases e; exact z)]
    | tick n =>
        replace hq : H q = some (.tup (PC.tup (.tick n))) := hq
        dsimp only [PC.tup] at hq
        walk_at "rd"
        refine OP.new ⟨ov, rs, w, g⟩ fun _ _ pT tT => ?_
        have hT := pT.get0
        replace pT := OP.cut1 pT
        clear w g
        replace hq := tT _ _ hq
        obtain ⟨ov, rs, w, g⟩ := pT
        walk_at "rd"
        refine xIf_F (by decide +kernel) ?_
        walk_at "rd"
        refine OP.new ⟨ov, rs, w, g⟩ fun _ _ pT tT => ?_
        have hT := pT.get0
        replace pT := OP.cut1 pT
        clear w g
        replace hq := tT _ _ hq
        obtain ⟨ov, rs, w, g⟩ := pT
        walk_at "rd"
        refine xIf_F (by decide +kernel) ?_
        walk_at "rd"
        refine OP.new ⟨ov, rs, w, g⟩ fun _ _ pT tT => ?_
        have hT := pT.get0
        replace pT := OP.cut1 pT
        clear w g
        replace hq := tT _ _ hq
        obtain ⟨ov, rs, w, g⟩ := pT
        walk_at "rd"
        refine xIf_F (by decide +kernel) ?_
        walk_at "rd"
        refine OP.new ⟨ov, rs, w, g⟩ fun _ _ pT tT => ?_
        have hT := pT.get0
        replace pT := OP.cut1 pT
        clear w g
        replace hq := tT _ _ hq
        obtain ⟨ov, rs, w, g⟩ := pT
        walk_at "rd"
        refine xIf_F (by decide +kernel) ?_
        walk_at "rd"
        refine xIf_F (by decide +kernel) ?_
        walk_at "rd"
        refine xIf_F (by decide +kernel) ?_
        walk_at "rd"
        refine st_call (of_Player_tick ⟨a, b, f, s, n, bb + t, _, rfl, OP.pw w g, ok, hz, by omega, fun h1 H' a' ea pw => k1 none _ ?_ H' a' ea (OP.of w pw), fun h1 => k2 .number ?_ _ ⟨ov, rs, w, g⟩⟩)
        · simp only [tellP]; rw [if_pos h1]
        · simp only [tellP]; rw [if_neg h1]
--->>
end
end TR

namespace TR
open PySem L2
/-! ### law_k40: what is told -/
@[irreducible] def xCatT (K : PySem.W.Frag) : R2 := rCatT K
theorem my_catT {X : Cx} : OpR X (binaryOp .Add) (xCatT X.K) := by unfold xCatT; exact op_catT
theorem st_catT {K : PySem.W.Frag} {H0 H : Hp} {L : List Ent} {a b : Addr} {xs ys : List V} {Q : VK} (w : W H0 H L) (hx : H a = some (.tup xs)) (hy : H b = some (.tup ys)) (nx : xs ≠ []) (ny : ys ≠ []) (hz : xs.length + ys.length ≤ 100000) (k : ∀ p H', W H0 H' ((p, .tup (xs ++ ys)) :: L) → Q (.ref p) H') : xCatT K (.ref a) (.ref b) H Q := by
  unfold xCatT
  exact ⟨a, b, xs, ys, rfl, rfl, SqT.of hx, SqT.of hy, nx, szE hz, (fun z => absurd z ny), fun _ p hp => k p _ (w.new _ hp)⟩
def tuneV (s : Pl) (e : Int) : V := if 1 ≤ e ∧ e ≤ s.o.q.tunes.length then .str (s.o.q.tune e) else .non
def tuneD (s : Pl) (e : Int) : PyData := if 1 ≤ e ∧ e ≤ s.o.q.tunes.length then .str (s.o.q.tune e) else .none
@[irreducible] def sp_tune (A : Ads) : Sp := fun vs H Q _ => ∃ (a : PA) (b : SA) (f : Sf) (s : Pl) (X : List Ent) (e : Int), vs = [.ref a.p, .int e] ∧ OP A H H a b s f X ∧ ∀ H', OP A H H' a b s f X → Q (tuneV s e) H'
theorem of_tune {A : Ads} {vs : List V} {H : Hp} {Q : VK} {E : XK} (h :  ∃ (a : PA) (b : SA) (f : Sf) (s : Pl) (X : List Ent) (e : Int), vs = [.ref a.p, .int e] ∧ OP A H H a b s f X ∧ ∀ H', OP A H H' a b s f X → Q (tuneV s e) H') : sp_tune A vs H Q E := by unfold sp_tune; exact h
/-- all that is told -/
def allD (f : Sf) (s : Pl) : PyData := .tuple [.tuple [oD s.now, .int s.spot, .bool s.plays], .list (s.o.q.turn.map PyData.int), .list ((soundsP f s).map snD), .list (s.rows.map rowD), .int s.time, .list ((aheadP f s 12).map rowD), .list ((List.range 42).map fun (j : Nat) => tuneD s j)]
structure AA where
  en : Addr
  sn : Addr
  lo : Addr
  ah : Addr
  tu : Addr
def alL (z : AA) (s : Pl) (rs xs ax : List V) : List Ent := [(z.en, .lst (s.o.q.turn.map V.int)), (z.sn, .lst xs), (z.lo, .lst rs), (z.ah, .lst ax), (z.tu, .lst ((List.range 42).map fun (j : Nat) => tuneV s j))]
def AlF (f : Sf) (s : Pl) (H : Hp) (t : Addr) (z : AA) (rs xs ax : List V) : Prop := ∃ st, H t = some (.tup [.ref st, .ref z.en, .ref z.sn, .ref z.lo, .int s.time, .ref z.ah, .ref z.tu]) ∧ H st = some (.tup [oV s.now, .int s.spot, .bl s.plays]) ∧ RowsAt H rs s.rows ∧ SnsAt H xs (soundsP f s) ∧ RowsAt H ax (aheadP f s 12)
theorem AlF.mono {f : Sf} {s : Pl} {H H' : Hp} {t : Addr} {z : AA} {rs xs ax : List V} (h : AlF f s H t z rs xs ax) (tp : Tps H H') : AlF f s H' t z rs xs ax := let ⟨st, a, b, c, d, e⟩ := h; ⟨st, tp _ _ a, tp _ _ b, c.mono tp, d.mono tp, e.mono tp⟩
theorem dp_tuneV {K : PySem.W.Frag} {H : Hp} (s : Pl) (e : Int) : Dp K H (tuneV s e) (tuneD s e) := by
  unfold tuneV tuneD
  split
  · exact .str _
  · exact .non
theorem dpAll_map {K : PySem.W.Frag} {H : Hp} {α : Type} (g : α → V) (h : α → PyData) (e : ∀ x, Dp K H (g x) (h x)) : ∀ l : List α, DpAll K H (l.map g) (l.map h)
  | [] => .nil
  | x :: r => .cons (e x) (dpAll_map g h e r)
theorem AlF.dp {K : PySem.W.Frag} {f : Sf} {s : Pl} {H : Hp} {t : Addr} {z : AA} {rs xs ax : List V} (h : AlF f s H t z rs xs ax) (h1 : H z.en = some (.lst (s.o.q.turn.map V.int))) (h2 : H z.sn = some (.lst xs)) (h3 : H z.lo = some (.lst rs)) (h4 : H z.ah = some (.lst ax)) (h5 : H z.tu = some (.lst ((List.range 42).map fun (j : Nat) => tuneV s j))) : Dp K H (.ref t) (allD f s) :=
  let ⟨st, a, b, c, d, e⟩ := h
  .tup (SqT.of a) (.cons (.tup (SqT.of b) (.cons (dp_oV _) (.cons (.int _) (.cons (.bl _) .nil)))) (.cons (dp_ints (SqL.of h1)) (.cons (.lst (SqL.of h2) (dpAll_sns d)) (.cons (.lst (SqL.of h3) (dpAll_rows c)) (.cons (.int _) (.cons (.lst (SqL.of h4) (dpAll_rows e)) (.cons (.lst (SqL.of h5) (dpAll_map (fun (j : Nat) => tuneV s j) (fun (j : Nat) => tuneD s j) (fun j => dp_tuneV s j) _)) .nil)))))))
theorem sh_allD {f : Sf} {s : Pl} (hs : ∀ x ∈ s.o.q.tunes, PyData.strOk x = true) : Sh 64 (allD f s) := by
  refine sh_tup (sh_cons (sh_tup (k := 62) (sh_cons (sh_oD _) (sh_cons (sh_int _) (sh_cons (sh_bl _) sh_nil)))) (sh_cons (sh_list (k := 62) (sh_ints _)) (sh_cons (sh_sns (k := 61) _) (sh_cons (sh_rows (k := 61) _) (sh_cons (sh_int _) (sh_cons (sh_rows (k := 61) _) (sh_cons (sh_list (k := 62) ?_) sh_nil)))))))
  intro d hd
  obtain ⟨j, _, rfl⟩ := List.mem_map.mp hd
  unfold tuneD
  split
  · rename_i h
    refine sh_str (hs _ ?_)
    unfold Qu.tune
    have hl : (((j : Nat) : Int) - 1).toNat < s.o.q.tunes.length := by omega
    rw [List.getD_eq_getElem?_getD, List.getElem?_eq_getElem hl]
    exact List.getElem_mem hl
  · exact sh_non
@[irreducible] def sp_all (A : Ads) : Sp := fun vs H Q _ => ∃ (a : PA) (b : SA) (f : Sf) (s : Pl) (X : List Ent) (bb t : Nat), vs = [.ref a.p, .int 40] ∧ OP A H H a b s f X ∧ Kp f s bb t ∧ bb ≤ 100 ∧ t ≤ 30000 ∧
  ∀ H' p z rs xs ax, OP A H H' a b s f (alL z s rs xs ax ++ X) → AlF f s H' p z rs xs ax → Q (.ref p) H'
theorem of_all {A : Ads} {vs : List V} {H : Hp} {Q : VK} {E : XK} (h :  ∃ (a : PA) (b : SA) (f : Sf) (s : Pl) (X : List Ent) (bb t : Nat), vs = [.ref a.p, .int 40] ∧ OP A H H a b s f X ∧ Kp f s bb t ∧ bb ≤ 100 ∧ t ≤ 30000 ∧
  ∀ H' p z rs xs ax, OP A H H' a b s f (alL z s rs xs ax ++ X) → AlF f s H' p z rs xs ax → Q (.ref p) H') : sp_all A vs H Q E := by unfold sp_all; exact h
section
variable {P : Program} {w : World} {K : PySem.W.Frag} {mg : Str → Option Value} {base : Heap} {A : Ads}
theorem ok_law_told (T : Txt K mg A) : FnOk P w K mg base (L2.CX P w) 12 A.f_law_told A.d_law_told P_law_told (sp_told A) := by
  refine T.F_law_told.okX sc_law_told (fun vs H Q E h => ?_) (fun cdv Ar outer s H vs Q E hr h => ?_)
  · unfold sp_told at h; obtain ⟨a, b, f, s, X, q, c, bb, t, rfl, _⟩ := h; rfl
  · unfold sp_told at h; obtain ⟨a, b, f, s, X, q, c, bb, t, rfl, hq, p, kp, hbb, htt, k⟩ := h
    refine ⟨_, (pss_cons (ps_set (i := 2) sc_law_told.nd rfl (by first | exact Or.inl rfl | exact Or.inr rfl) pe_non)
      (pss_cons (ps_set (i := 3) sc_law_told.nd rfl (by first | exact Or.inl rfl | exact Or.inr rfl) pe_non)
      (pss_cons (my_tryHeld (i := 4) (j := 2) rfl rfl sc_law_told.nd rfl rfl rfl rfl (by decide) ⟨rfl, by decide, Or.inl T.g_RoadError⟩ (by decide) (by decide) (fun _ _ => rfl) (fun W pn xe tk po => (pss_one (ps_set (i := 3) sc_law_told.nd rfl (by first | exact Or.inl rfl | exact Or.inr rfl) (my_callS (ok_law_one T) (hr.mono (by decide)) (by rfl) T.g_law_one T.k_law_one T.b_law_one tk (pa_cons (pv 0) (pa_cons (pv 1) pa_nil)))))))
      (pss_one (ps_ret (my_ifExp (pt_cmpR op_isN (pv 2) pe_non (nomark _)) (my_tup (pa_cons pe_str (pa_cons (pv 3) pa_nil))) (my_call (ok_law_refusal T) (hr.mono (by decide)) (by rfl) T.g_law_refusal T.k_law_refusal T.b_law_refusal passE (pa_cons (pv 2) pa_nil)))))))), ?_⟩
    walk_at "rd"
    refine st_call (of_one ⟨a, b, f, s, X, q, c, bb, t, rfl, hq, p, kp, hbb, htt, fun n s' e H1 a1 ea p1 => ?_, fun r e H1 p1 => ?_⟩)
    · rw [e] at k
      walk_at "rd"
      refine xIf_T rfl ?_
      walk_at "rd"
      refine OP.new p1 fun q2 H2 p2 _ => ?_
      exact k H2 a1 q2 ea p2
    · rw [e] at k
      obtain ⟨ov, rs, w, g⟩ := p1
      cases r
      · refine ⟨T.m_BadTune, fun a' ha => ?_⟩
        have w1 := w.new (ExH (.ref A.c_BadTune) none a') ha
        have g1 := g.mono (W.tp (w.now.new (ExH (.ref A.c_BadTune) none a') ha))
        walk_at "rd"
        refine xIf_F rfl ?_
        walk_at "rd"
        exact op_told (r := .tune) w1 g1 fun H' t' p' => k H' a t' rfl p'
      · refine ⟨T.m_BadNumber, fun a' ha => ?_⟩
        have w1 := w.new (ExH (.ref A.c_BadNumber) none a') ha
        have g1 := g.mono (W.tp (w.now.new (ExH (.ref A.c_BadNumber) none a') ha))
        walk_at "rd"
        refine xIf_F rfl ?_
        walk_at "rd"
        exact op_told (r := .number) w1 g1 fun H' t' p' => k H' a t' rfl p'
      · refine ⟨T.m_BadEntry, fun a' ha => ?_⟩
        have w1 := w.new (ExH (.ref A.c_BadEntry) none a') ha
        have g1 := g.mono (W.tp (w.now.new (ExH (.ref A.c_BadEntry) none a') ha))
        walk_at "rd"
        refine xIf_F rfl ?_
        walk_at "rd"
        exact op_told (r := .entry) w1 g1 fun H' t' p' => k H' a t' rfl p'
      · refine ⟨T.m_BadWord, fun a' ha => ?_⟩
        have w1 := w.new (ExH (.ref A.c_BadWord) none a') ha
        have g1 := g.mono (W.tp (w.now.new (ExH (.ref A.c_BadWord) none a') ha))
        walk_at "rd"
        refine xIf_F rfl ?_
        walk_at "rd"
        exact op_told (r := .word) w1 g1 fun H' t' p' => k H' a t' rfl p'
theorem ok_law_tune (T : Txt K mg A) : FnOk P w K mg base (L2.CX P w) 3 A.f_law_tune A.d_law_tune P_law_tune (sp_tune A) := by
  refine T.F_law_tune.okX sc_law_tune (fun vs H Q E h => ?_) (fun cdv Ar outer s H vs Q E hr h => ?_)
  · unfold sp_tune at h; obtain ⟨a, b, f, s, X, e, rfl, _⟩ := h; rfl
  · unfold sp_tune at h; obtain ⟨a, b, f, s, X, e, rfl, p, k⟩ := h
    refine ⟨_, (pss_cons (ps_set (i := 2) sc_law_tune.nd rfl (by first | exact Or.inl rfl | exact Or.inr rfl) pe_non)
      (pss_cons (ps_set (i := 3) sc_law_tune.nd rfl (by first | exact Or.inl rfl | exact Or.inr rfl) pe_non)
      (pss_cons (my_tryHeld (i := 4) (j := 2) rfl rfl sc_law_tune.nd rfl rfl rfl rfl (by decide) ⟨rfl, by decide, Or.inl T.g_BadEntry⟩ (by decide) (by decide) (fun _ _ => rfl) (fun W pn xe tk po => (pss_one (ps_set (i := 3) sc_law_tune.nd rfl (by first | exact Or.inl rfl | exact Or.inr rfl) (my_methS (pv 0) T.c_Player T.m_Player_tune (ok_Player_tune T) (hr.mono (by decide)) T.b_Player_tune tk (pa_cons (pv 1) pa_nil))))))
      (pss_one (ps_ret (my_ifExp (pt_cmpR op_isN (pv 2) pe_non (nomark _)) (pv 3) pe_non)))))), ?_⟩
    obtain ⟨ov, rs, w, g⟩ := p
    unfold tuneV at k
    walk_at "rd"
    refine st_call (of_Player_tune ⟨a, .ref b.q, s, ov, rs, e, _, rfl, w.now, fun h1 => ?_, fun h1 => ?_⟩)
    · rw [if_pos (show 1 ≤ e ∧ e ≤ s.o.q.tunes.length from h1)] at k
      walk_at "rd"
      refine xIf_T rfl ?_
      walk_at "rd"
      exact k _ ⟨ov, rs, w, g⟩
    · rw [if_neg (show ¬ (1 ≤ e ∧ e ≤ s.o.q.tunes.length) from h1)] at k
      refine ⟨T.mm_BadEntry, fun a' ha => ?_⟩
      have w1 := w.new (ExH (.ref A.c_BadEntry) none a') ha
      have g1 := g.mono (W.tp (w.now.new (ExH (.ref A.c_BadEntry) none a') ha))
      walk_at "rd"
      refine xIf_F rfl ?_
      walk_at "rd"
      exact k _ ⟨ov, rs, w1.drop1, g1⟩
theorem ok_law_all (T : Txt K mg A) : FnOk P w K mg base (L2.CX P w) 11 A.f_law_all A.d_law_all P_law_all (sp_all A) := by
  refine T.F_law_all.okX sc_law_all (fun vs H Q E h => ?_) (fun cdv Ar outer s H vs Q E hr h => ?_)
  · unfold sp_all at h; obtain ⟨a, b, f, s, X, bb, t, rfl, _⟩ := h; rfl
  · unfold sp_all at h; obtain ⟨a, b, f, s, X, bb, t, rfl, p, kp, hbb, htt, k⟩ := h
    refine ⟨_, (pss_cons (my_setLc (i := 2) (own := [("entry", 4)]) rfl sc_law_all.nd rfl rfl (sw_true rfl rfl rfl (by decide +kernel)) (pi_range1 (by rfl) T.z_range (pa_cons (pe_op op_add (pv 1) pe_int) pa_nil)) (blkOk_by (own := [("entry", 4)]) (N := N_law_all) (sc := defScope s_law_all) (by decide +kernel)) (fun _ _ _ _ _ => (pg_name (i := 4) sc_law_all.nd rfl (by first | exact Or.inl rfl | exact Or.inr rfl))) (fun _ _ _ _ _ => pts_nil) (fun _ _ _ _ _ => (my_call (ok_law_tune T) (hr.mono (by decide)) (by rfl) T.g_law_tune T.k_law_tune T.b_law_tune passL (pa_cons (pv 0) (pa_cons (pv 4) pa_nil)))))
      (pss_cons (ps_set (i := 3) sc_law_all.nd rfl (by first | exact Or.inl rfl | exact Or.inr rfl) (my_tup (pa_cons (my_meth0 (pv 0) T.c_Player T.m_Player_state (ok_Player_state T) (hr.mono (by decide)) T.b_Player_state passE) (pa_cons (my_meth0 (pv 0) T.c_Player T.m_Player_entries (ok_Player_entries T) (hr.mono (by decide)) T.b_Player_entries passE) (pa_cons (my_meth0 (pv 0) T.c_Player T.m_Player_sounds (ok_Player_sounds T) (hr.mono (by decide)) T.b_Player_sounds passE) (pa_cons (my_meth0 (pv 0) T.c_Player T.m_Player_log (ok_Player_log T) (hr.mono (by decide)) T.b_Player_log passE) pa_nil))))))
      (pss_one (ps_ret (pe_op my_catT (pv 3) (my_tup (pa_cons (my_meth0 (pv 0) T.c_Player T.m_Player_ticks (ok_Player_ticks T) (hr.mono (by decide)) T.b_Player_ticks passE) (pa_cons (my_meth (pv 0) T.c_Player T.m_Player_ahead (ok_Player_ahead T) (hr.mono (by decide)) T.b_Player_ahead passE (pa_cons pe_int pa_nil)) (pa_cons (pv 2) pa_nil))))))))), ?_⟩
    have ok := kp.ok
    obtain ⟨ov, rs, w, g⟩ := p
    walk_at "rd"
    refine st_lcR (fun D i H' => OP A H H' a b s f ((D, .lst ((List.range i).map fun (j : Nat) => tuneV s j)) :: X)) w.now (fun D H' w1 => OP.front w g w1) ?_ ?_
    · clear w g
      intro D i H' hi p1
      obtain ⟨ov, rs, w, g⟩ := p1
      walk_at "rd"
      refine xIf_T rfl ?_
      walk_at "rd"
      refine st_call (of_tune ⟨a, b, f, s, _, 0 + (i : Int), rfl, ⟨ov, rs, w.now, g⟩, fun H2 p2 => ?_⟩)
      obtain ⟨ov2, rs2, w2, g2⟩ := p2
      have hi42 : i < 42 := hi
      refine st_acc w2.now 12 rfl (szL (by rw [List.length_map, List.length_range]; omega)) fun H3 w3 => ?_
      rw [Int.zero_add] at w3
      have w4 : W H2 H3 (oL A a b s ov2 rs2 f ((D, .lst (((List.range i).map fun (j : Nat) => tuneV s j) ++ [tuneV s i])) :: X)) := w3
      rw [show ((List.range i).map fun (j : Nat) => tuneV s j) ++ [tuneV s i] = (List.range (i + 1)).map fun (j : Nat) => tuneV s j from by rw [List.range_succ, List.map_append]; rfl] at w4
      exact ⟨ov2, rs2, w.tr (w2.tr w4), g2.mono w4.tp⟩
    clear w g
    intro D H2 p2
    replace p2 : OP A H H2 a b s f ((D, .lst ((List.range 42).map fun (j : Nat) => tuneV s j)) :: X) := p2
    obtain ⟨ov, rs, w, g⟩ := p2
    walk_at "rd"
    refine OP.state ⟨ov, rs, w, g⟩ fun H3 st p3 tp3 hst => ?_
    clear w g
    obtain ⟨ov, rs, w, g⟩ := p3
    walk_at "rd"
    refine OP.entries ⟨ov, rs, w, g⟩ fun H4 en p4 tp4 => ?_
    clear w g
    obtain ⟨ov, rs, w, g⟩ := p4
    walk_at "rd"
    refine OP.sounds ⟨ov, rs, w, g⟩ ok fun H5 sn xs p5 hsn tp5 => ?_
    clear w g
    obtain ⟨ov, rs, w, g⟩ := p5
    walk_at "rd"
    refine OP.log ⟨ov, rs, w, g⟩ fun H6 lo rs6 p6 hlo tp6 => ?_
    clear w g
    obtain ⟨ov, rs, w, g⟩ := p6
    walk_at "rd"
    refine OP.new ⟨ov, rs, w, g⟩ fun t7 H7 p7 tp7 => ?_
    clear w g
    have h7 := p7.get0
    replace p7 := p7.cut1
    obtain ⟨ov, rs, w, g⟩ := p7
    walk_at "rd"
    refine OP.ticks ⟨ov, rs, w, g⟩ ?_
    walk_at "rd"
    refine OP.ahead ⟨ov, rs, w, g⟩ ok kp.sz (by omega) ⟨by decide, by decide⟩ fun H8 ah ax p8 hah tp8 => ?_
    clear w g
    obtain ⟨ov, rs, w, g⟩ := p8
    walk_at "rd"
    refine OP.new ⟨ov, rs, w, g⟩ fun t9 H9 p9 tp9 => ?_
    clear w g
    have h9 := p9.get0
    replace p9 := p9.cut1
    have h7' := tp9 _ _ (tp8 _ _ h7)
    obtain ⟨ov, rs, w, g⟩ := p9
    refine st_catT w.now h7' h9 (List.cons_ne_nil _ _) (List.cons_ne_nil _ _) (Nat.le_of_ble_eq_true rfl) fun p10 H10 w10 => ?_
    have h10 := w10.get 0 rfl
    have pF := (OP.front w g w10).cut1
    have tp10 := w10.tp
    have tpA : Tps H6 H10 := fun _ _ h => tp10 _ _ (tp9 _ _ (tp8 _ _ (tp7 _ _ h)))
    have pG : OP A H H10 a b s f (alL ⟨en, sn, lo, ah, D⟩ s rs6 xs ax ++ X) := pF.perm (by
      have e : ∀ (x1 x2 x3 x4 x5 : Ent) (Z : List Ent), (x1 :: x2 :: x3 :: x4 :: x5 :: Z).Perm (x4 :: x3 :: x2 :: x1 :: x5 :: Z) := fun x1 x2 x3 x4 x5 Z => by walk_at "perm"
      exact e _ _ _ _ _ _)
    exact k H10 p10 _ rs6 xs ax pG ⟨st, h10, tpA _ _ (tp6 _ _ (tp5 _ _ (tp4 _ _ hst))), hlo.mono tpA, (hsn.mono tp6).mono tpA, (hah.mono tp9).mono tp10⟩
end
end TR

namespace TR
open PySem L2
/-! ### law_k40: a call drawn -/
@[irreducible] def sp_call (K : PySem.W.Frag) (A : Ads) : Sp := fun vs H Q _ => ∃ (a : PA) (b : SA) (f : Sf) (s : Pl) (sa t : Addr) (ns : List Int) (n : Nat) (R : List Ent), vs = [.ref sa, .ref t, .ref a.p] ∧ Scr K sa ns R ∧ OP A H H a b s f ((t, .lst (zeros n)) :: R) ∧ n ≤ 9000 ∧ s.o.q.turn.length ≤ 12 ∧
  ∀ H' q c n', n' ≤ n + 4 → OP A H H' a b s f ((t, .lst (zeros n')) :: R) → H' q = some (.tup (PC.tup c)) → Q (.ref q) H'
theorem of_call {K : PySem.W.Frag} {A : Ads} {vs : List V} {H : Hp} {Q : VK} {E : XK} (h :  ∃ (a : PA) (b : SA) (f : Sf) (s : Pl) (sa t : Addr) (ns : List Int) (n : Nat) (R : List Ent), vs = [.ref sa, .ref t, .ref a.p] ∧ Scr K sa ns R ∧ OP A H H a b s f ((t, .lst (zeros n)) :: R) ∧ n ≤ 9000 ∧ s.o.q.turn.length ≤ 12 ∧
  ∀ H' q c n', n' ≤ n + 4 → OP A H H' a b s f ((t, .lst (zeros n')) :: R) → H' q = some (.tup (PC.tup c)) → Q (.ref q) H') : sp_call K A vs H Q E := by unfold sp_call; exact h
def namesC : List Str := ["a", "b", "c", "d", "ee", "none"]
def againC : List Str := ["none", "all", "all", "one", "any"]
section
variable {P : Program} {w : World} {K : PySem.W.Frag} {mg : Str → Option Value} {base : Heap} {A : Ads}
variable {H0 H : Hp} {a : PA} {b : SA} {s : Pl} {f : Sf} {X : List Ent} {Q : VK} {E : XK}
/-- the call's tuple, what else was made forgotten -/
theorem OP.callT (c : PC) {Y : List Ent} {n n' : Nat} {t : Addr} {R : List Ent} (h : OP A H0 H a b s f ((t, .lst (zeros n')) :: (Y ++ R))) (hn : n' ≤ n + 4) (k : ∀ H' q c n', n' ≤ n + 4 → OP A H0 H' a b s f ((t, .lst (zeros n')) :: R) → H' q = some (.tup (PC.tup c)) → Q (.ref q) H') : xNew (.tup c.tup) H Q := by
  refine OP.new h fun q H' p _ => ?_
  have hq : H' q = some (.tup c.tup) := let ⟨_, _, w, _⟩ := p; w.get 12 rfl
  refine k H' q c n' hn ?_ hq
  have p2 := p.cut1
  obtain ⟨ov, rs, w, g⟩ := p2
  exact ⟨ov, rs, w.subl (List.Sublist.append_left (List.Sublist.append_left (List.Sublist.cons₂ _ (List.sublist_append_right Y R)) _) _), g⟩
theorem ok_law_call (T : Txt K mg A) : FnOk P w K mg base (L2.CX P w) 5 A.f_law_call A.d_law_call P_law_call (sp_call K A) := by
  refine T.F_law_call.okX sc_law_call (fun vs H Q E h => ?_) (fun cdv Ar outer s H vs Q E hr h => ?_)
  · unfold sp_call at h; obtain ⟨a, b, f, s, sa, t, ns, n, R, rfl, _⟩ := h; rfl
  · unfold sp_call at h; obtain ⟨a, b, f, s, sa, t, ns, n, R, rfl, sc, p, hn, htn, k⟩ := h
    refine ⟨_, (pss_cons (ps_set (i := 3) sc_law_call.nd rfl (by first | exact Or.inl rfl | exact Or.inr rfl) (my_meth0 (pv 2) T.c_Player T.m_Player_entries (ok_Player_entries T) (hr.mono (by decide)) T.b_Player_entries passE))
      (pss_cons (ps_set (i := 4) sc_law_call.nd rfl (by first | exact Or.inl rfl | exact Or.inr rfl) (my_call (ok_law_draw T) (hr.mono (by decide)) (by rfl) T.g_law_draw T.k_law_draw T.b_law_draw passE (pa_cons (pv 0) (pa_cons (pv 1) (pa_cons pe_int pa_nil)))))
      (pss_cons (ps_set (i := 5) sc_law_call.nd rfl (by first | exact Or.inl rfl | exact Or.inr rfl) (my_call (ok_law_pick T) (hr.mono (by decide)) (by rfl) T.g_law_pick T.k_law_pick T.b_law_pick passE (pa_cons (pv 0) (pa_cons (pv 1) (pa_cons (pe_op my_cat (pe_op my_cat (pv 3) (pv 3)) (my_lst (pa_cons pe_int (pa_cons pe_int pa_nil)))) pa_nil)))))
      (pss_cons (my_if (pt_cmpR op_lt (pv 4) pe_int (nomark _))
        (pss_cons (ps_set (i := 6) sc_law_call.nd rfl (by first | exact Or.inl rfl | exact Or.inr rfl) (my_call (ok_law_pick T) (hr.mono (by decide)) (by rfl) T.g_law_pick T.k_law_pick T.b_law_pick passE (pa_cons (pv 0) (pa_cons (pv 1) (pa_cons (my_lst (pa_cons pe_str (pa_cons pe_str (pa_cons pe_str (pa_cons pe_str (pa_cons pe_str (pa_cons pe_str pa_nil))))))) pa_nil)))))
      (pss_one (ps_ret (my_tup (pa_cons pe_str (pa_cons (pv 6) (pa_cons (my_call (ok_law_draw T) (hr.mono (by decide)) (by rfl) T.g_law_draw T.k_law_draw T.b_law_draw passE (pa_cons (pv 0) (pa_cons (pv 1) (pa_cons (pe_op op_add (pe_callB my_lenQ (by rfl) T.z_len PySem.boot_len (pa_cons (pv 3) pa_nil)) pe_int) pa_nil)))) pa_nil)))))))
        pss_nil)
      (pss_cons (my_if (pt_cmpR op_lt (pv 4) pe_int (nomark _))
        (pss_one (ps_ret (my_tup (pa_cons (pe_ix ix_list (my_lst (pa_cons pe_str (pa_cons pe_str (pa_cons pe_str (pa_cons pe_str pa_nil))))) (pe_op op_sub (pv 4) pe_int) (fun _ _ => rfl)) (pa_cons (pv 5) (pa_cons (my_call (ok_law_draw T) (hr.mono (by decide)) (by rfl) T.g_law_draw T.k_law_draw T.b_law_draw passE (pa_cons (pv 0) (pa_cons (pv 1) (pa_cons (pe_op op_add (pe_callB my_lenQ (by rfl) T.z_len PySem.boot_len (pa_cons (pv 3) pa_nil)) pe_int) pa_nil)))) pa_nil))))))
        pss_nil)
      (pss_cons (my_if (pt_cmpR op_lt (pv 4) pe_int (nomark _))
        (pss_one (ps_ret (my_tup (pa_cons pe_str (pa_cons (my_call (ok_law_pick T) (hr.mono (by decide)) (by rfl) T.g_law_pick T.k_law_pick T.b_law_pick passE (pa_cons (pv 0) (pa_cons (pv 1) (pa_cons (my_lst (pa_cons pe_str (pa_cons pe_str (pa_cons pe_str (pa_cons pe_str (pa_cons pe_str pa_nil)))))) pa_nil)))) (pa_cons pe_non pa_nil))))))
        pss_nil)
      (pss_cons (my_if (pt_cmpR op_eq (pv 4) pe_int (nomark _))
        (pss_one (ps_ret (my_tup (pa_cons pe_str (pa_cons (pe_cmpR op_gt (my_call (ok_law_draw T) (hr.mono (by decide)) (by rfl) T.g_law_draw T.k_law_draw T.b_law_draw passE (pa_cons (pv 0) (pa_cons (pv 1) (pa_cons pe_int pa_nil)))) pe_int (nomark _)) (pa_cons pe_non pa_nil))))))
        pss_nil)
      (pss_cons (my_if (pt_cmpR op_lt (pv 4) pe_int (nomark _))
        (pss_one (ps_ret (my_tup (pa_cons (pe_ix ix_list (my_lst (pa_cons pe_str (pa_cons pe_str (pa_cons pe_str pa_nil)))) (pe_op op_sub (pv 4) pe_int) (fun _ _ => rfl)) (pa_cons pe_non (pa_cons pe_non pa_nil))))))
        pss_nil)
      (pss_cons (my_if (pt_cmpR op_eq (pv 4) pe_int (nomark _))
        (pss_one (ps_ret (my_tup (pa_cons pe_str (pa_cons (my_call (ok_law_draw T) (hr.mono (by decide)) (by rfl) T.g_law_draw T.k_law_draw T.b_law_draw passE (pa_cons (pv 0) (pa_cons (pv 1) (pa_cons pe_int pa_nil)))) (pa_cons pe_non pa_nil))))))
        pss_nil)
      (pss_cons (my_if (pt_cmpR op_eq (pv 4) pe_int (nomark _))
        (pss_one (ps_ret (my_tup (pa_cons pe_str (pa_cons (pe_cmpR op_eq (my_call (ok_law_draw T) (hr.mono (by decide)) (by rfl) T.g_law_draw T.k_law_draw T.b_law_draw passE (pa_cons (pv 0) (pa_cons (pv 1) (pa_cons pe_int pa_nil)))) pe_int (nomark _)) (pa_cons pe_non pa_nil))))))
        pss_nil)
      (pss_cons (my_if (pt_cmpR op_eq (pv 4) pe_int (nomark _))
        (pss_one (ps_ret (my_tup (pa_cons pe_str (pa_cons (my_call (ok_law_pick T) (hr.mono (by decide)) (by rfl) T.g_law_pick T.k_law_pick T.b_law_pick passE (pa_cons (pv 0) (pa_cons (pv 1) (pa_cons (my_lst (pa_cons pe_non (pa_cons pe_int (pa_cons pe_int (pa_cons (pe_op op_add pe_int (my_call (ok_law_draw T) (hr.mono (by decide)) (by rfl) T.g_law_draw T.k_law_draw T.b_law_draw passE (pa_cons (pv 0) (pa_cons (pv 1) (pa_cons pe_int pa_nil))))) pa_nil))))) pa_nil)))) (pa_cons pe_non pa_nil))))))
        pss_nil)
      (pss_cons (my_if (pt_cmpR op_lt (pv 4) pe_int (nomark _))
        (pss_one (ps_ret (my_tup (pa_cons pe_str (pa_cons pe_non (pa_cons pe_non pa_nil))))))
        pss_nil)
      (pss_one (ps_ret (my_tup (pa_cons pe_str (pa_cons (my_call (ok_law_pick T) (hr.mono (by decide)) (by rfl) T.g_law_pick T.k_law_pick T.b_law_pick passE (pa_cons (pv 0) (pa_cons (pv 1) (pa_cons (my_lst (pa_cons pe_int (pa_cons pe_int (pa_cons pe_int (pa_cons pe_int (pa_cons (my_call (ok_law_draw T) (hr.mono (by decide)) (by rfl) T.g_law_draw T.k_law_draw T.b_law_draw passE (pa_cons (pv 0) (pa_cons (pv 1) (pa_cons pe_int pa_nil)))) (pa_cons (pe_op op_sub pe_int pe_int) pa_nil))))))) pa_nil)))) (pa_cons pe_non pa_nil)))))))))))))))))), ?_⟩
    obtain ⟨ov, rs, w, g⟩ := p
    walk_at "rd"
    refine OP.entries ⟨ov, rs, w, g⟩ fun H1 en p1 _ => ?_
    clear w g
    replace p1 := p1.perm (List.Perm.swap _ _ _)
    obtain ⟨ov, rs, w, g⟩ := p1
    walk_at "rd"
    refine OP.draw ⟨ov, rs, w, g⟩ (by walk_at "scr") (by omega) (by decide) fun H2 p2 _ d0 d1 => ?_
    clear w g
    generalize drawP ns n 22 = kd at *
    obtain ⟨ov, rs, w, g⟩ := p2
    walk_at "rd"
    refine OP.new ⟨ov, rs, w, g⟩ fun l3 H3 p3 _ => ?_
    clear w g
    obtain ⟨ov, rs, w, g⟩ := p3
    walk_at "rd"
    refine OP.new ⟨ov, rs, w, g⟩ fun l4 H4 p4 _ => ?_
    clear w g
    obtain ⟨ov, rs, w, g⟩ := p4
    walk_at "rd"
    refine OP.new ⟨ov, rs, w, g⟩ fun l5 H5 p5 _ => ?_
    clear w g
    obtain ⟨en5, een⟩ : ∃ e : List Int, e = (s.o.q.turn ++ s.o.q.turn) ++ [99, 0] := ⟨_, rfl⟩
    have p6 : OP A H H5 a b s f ((l5, .lst (en5.map V.int)) :: (t, .lst (zeros (n + 1))) :: (en, .lst (s.o.q.turn.map V.int)) :: R) := OP.cut1 (OP.cut1 (p5.perm (by
      rw [een, List.map_append, List.map_append]
      have e : ∀ (x1 x2 x3 : Ent) (Z : List Ent), (x1 :: x2 :: x3 :: Z).Perm (x2 :: x3 :: x1 :: Z) := fun x1 x2 x3 Z => by walk_at "perm"
      exact e _ _ _ _)))
    clear p5
    walk_at "rd"
    refine OP.pickV (gv := V.int) (xs := en5) (n := n + 1) 0 p6 (by walk_at "scr") (by omega) (by rw [een]; exact fun z => by simp at z) fun H6 en6 p7 _ _ _ => ?_
    clear p6
    obtain ⟨ov, rs, w, g⟩ := p7
    walk_at "rd"
    by_cases k3 : kd < 3
    · refine xIf_T (decide_eq_true k3) ?_
      walk_at "rd"
      refine OP.new ⟨ov, rs, w, g⟩ fun l7 H7 p8 _ => ?_
      clear w g
      replace p8 : OP A H H7 a b s f ((l7, .lst (namesC.map V.str)) :: (t, .lst (zeros (n + 1 + 1))) :: (en, .lst (s.o.q.turn.map V.int)) :: R) := p8
      refine OP.pickV (gv := V.str) (xs := namesC) (n := n + 1 + 1) "" p8 (by walk_at "scr") (by omega) (by unfold namesC; exact List.cons_ne_nil _ _) fun H8 v p9 _ _ _ => ?_
      clear p8
      obtain ⟨ov, rs, w, g⟩ := p9
      walk_at "rd"
      refine OP.draw ⟨ov, rs, w, g⟩ (by walk_at "scr") (by omega) (by omega) fun H9 p10 _ _ _ => ?_
      walk_at "rd"
      exact OP.callT (.add v _) (Y := [(en, .lst (s.o.q.turn.map V.int))]) p10 (by omega) k
    refine xIf_F (decide_eq_false k3) ?_
    walk_at "rd"
    by_cases k7 : kd < 7
    · refine xIf_T (decide_eq_true k7) ?_
      walk_at "rd"
      refine OP.new ⟨ov, rs, w, g⟩ fun l7 H7 p8 _ => ?_
      clear w g
      obtain ⟨ov, rs, w, g⟩ := p8
      have hk4 : kd = 3 ∨ kd = 4 ∨ kd = 5 ∨ kd = 6 := by omega
      rcases hk4 with rfl | rfl | rfl | rfl
      all_goals
        walk_at "rd"
        have p9 := OP.cut1 ⟨ov, rs, w, g⟩
        clear w g
        refine OP.draw p9 (by walk_at "scr") (by omega) (by omega) fun H9 p10 _ _ _ => ?_
        walk_at "rd"
        first
          | exact OP.callT (.remove en6 _) (Y := [(en, .lst (s.o.q.turn.map V.int))]) p10 (by omega) k
          | exact OP.callT (.move en6 _) (Y := [(en, .lst (s.o.q.turn.map V.int))]) p10 (by omega) k
          | exact OP.callT (.soon en6 _) (Y := [(en, .lst (s.o.q.turn.map V.int))]) p10 (by omega) k
          | exact OP.callT (.play en6 _) (Y := [(en, .lst (s.o.q.turn.map V.int))]) p10 (by omega) k
    refine xIf_F (decide_eq_false k7) ?_
    walk_at "rd"
    by_cases k9 : kd < 9
    · refine xIf_T (decide_eq_true k9) ?_
      walk_at "rd"
      refine OP.new ⟨ov, rs, w, g⟩ fun l7 H7 p8 _ => ?_
      clear w g
      replace p8 : OP A H H7 a b s f ((l7, .lst (againC.map V.str)) :: (t, .lst (zeros (n + 1 + 1))) :: (en, .lst (s.o.q.turn.map V.int)) :: R) := p8
      refine OP.pickV (gv := V.str) (xs := againC) (n := n + 1 + 1) "" p8 (by walk_at "scr") (by omega) (by unfold againC; exact List.cons_ne_nil _ _) fun H8 v p9 _ _ _ => ?_
      clear p8
      walk_at "rd"
      exact OP.callT (.again v) (Y := [(en, .lst (s.o.q.turn.map V.int))]) p9 (by omega) k
    refine xIf_F (decide_eq_false k9) ?_
    walk_at "rd"
    by_cases e9 : kd = 9
    · refine xIf_T (decide_eq_true (by rw [e9])) ?_
      walk_at "rd"
      refine OP.draw ⟨ov, rs, w, g⟩ (by walk_at "scr") (by omega) (by decide) fun H9 p10 _ _ _ => ?_
      walk_at "rd"
      exact OP.callT (.mixed _) (Y := [(en, .lst (s.o.q.turn.map V.int))]) p10 (by omega) k
    refine xIf_F (decide_eq_false fun z => e9 (V.int.inj z)) ?_
    walk_at "rd"
    by_cases k13 : kd < 13
    · refine xIf_T (decide_eq_true k13) ?_
      walk_at "rd"
      refine OP.new ⟨ov, rs, w, g⟩ fun l7 H7 p8 _ => ?_
      clear w g
      obtain ⟨ov, rs, w, g⟩ := p8
      have hk4 : kd = 10 ∨ kd = 11 ∨ kd = 12 := by omega
      rcases hk4 with rfl | rfl | rfl
      all_goals
        walk_at "rd"
        have p9 := OP.cut1 ⟨ov, rs, w, g⟩
        clear w g
        first
          | exact OP.callT .skip (Y := [(en, .lst (s.o.q.turn.map V.int))]) p9 (by omega) k
          | exact OP.callT .back (Y := [(en, .lst (s.o.q.turn.map V.int))]) p9 (by omega) k
          | exact OP.callT .pause (Y := [(en, .lst (s.o.q.turn.map V.int))]) p9 (by omega) k
    refine xIf_F (decide_eq_false k13) ?_
    walk_at "rd"
    by_cases e13 : kd = 13
    · refine xIf_T (decide_eq_true (by rw [e13])) ?_
      walk_at "rd"
      refine OP.draw ⟨ov, rs, w, g⟩ (by walk_at "scr") (by omega) (by decide) fun H9 p10 _ _ _ => ?_
      walk_at "rd"
      exact OP.callT (.seek _) (Y := [(en, .lst (s.o.q.turn.map V.int))]) p10 (by omega) k
    refine xIf_F (decide_eq_false fun z => e13 (V.int.inj z)) ?_
    walk_at "rd"
    by_cases e14 : kd = 14
    · refine xIf_T (decide_eq_true (by rw [e14])) ?_
      walk_at "rd"
      refine OP.draw ⟨ov, rs, w, g⟩ (by walk_at "scr") (by omega) (by decide) fun H9 p10 _ _ _ => ?_
      walk_at "rd"
      exact OP.callT (.stop _) (Y := [(en, .lst (s.o.q.turn.map V.int))]) p10 (by omega) k
    refine xIf_F (decide_eq_false fun z => e14 (V.int.inj z)) ?_
    walk_at "rd"
    by_cases e15 : kd = 15
    · refine xIf_T (decide_eq_true (by rw [e15])) ?_
      walk_at "rd"
      refine OP.draw ⟨ov, rs, w, g⟩ (by walk_at "scr") (by omega) (by decide) fun H7 p8 _ _ _ => ?_
      clear w g
      generalize drawP ns _ 60 = d60 at *
      obtain ⟨ov, rs, w, g⟩ := p8
      walk_at "rd"
      refine OP.new ⟨ov, rs, w, g⟩ fun l9 H9 p10 _ => ?_
      clear w g
      replace p10 : OP A H H9 a b s f ((l9, .lst ([none, some 0, some 61, some (1 + d60)].map oV)) :: (t, .lst (zeros (n + 1 + 1 + 1))) :: (en, .lst (s.o.q.turn.map V.int)) :: R) := p10
      refine OP.pickV (gv := oV) (xs := [none, some 0, some 61, some (1 + d60)]) (n := n + 1 + 1 + 1) none p10 (by walk_at "scr") (by omega) (List.cons_ne_nil _ _) fun H10 v p11 _ _ _ => ?_
      walk_at "rd"
      exact OP.callT (.sleep v) (Y := [(en, .lst (s.o.q.turn.map V.int))]) p11 (by omega) k
    refine xIf_F (decide_eq_false fun z => e15 (V.int.inj z)) ?_
    walk_at "rd"
    by_cases k18 : kd < 18
    · refine xIf_T (decide_eq_true k18) ?_
      walk_at "rd"
      exact OP.callT .resume (Y := [(en, .lst (s.o.q.turn.map V.int))]) ⟨ov, rs, w, g⟩ (by omega) k
    refine xIf_F (decide_eq_false k18) ?_
    walk_at "rd"
    refine OP.draw ⟨ov, rs, w, g⟩ (by walk_at "scr") (by omega) (by decide) fun H7 p8 _ _ _ => ?_
    clear w g
    generalize drawP ns _ 60 = d60 at *
    obtain ⟨ov, rs, w, g⟩ := p8
    walk_at "rd"
    refine OP.new ⟨ov, rs, w, g⟩ fun l9 H9 p10 _ => ?_
    clear w g
    replace p10 : OP A H H9 a b s f ((l9, .lst ([1, 3, 200, 201, d60, 0 - 1].map V.int)) :: (t, .lst (zeros (n + 1 + 1 + 1))) :: (en, .lst (s.o.q.turn.map V.int)) :: R) := p10
    refine OP.pickV (gv := V.int) (xs := [1, 3, 200, 201, d60, 0 - 1]) (n := n + 1 + 1 + 1) 0 p10 (by walk_at "scr") (by omega) (List.cons_ne_nil _ _) fun H10 v p11 _ _ _ => ?_
    walk_at "rd"
    exact OP.callT (.tick v) (Y := [(en, .lst (s.o.q.turn.map V.int))]) p11 (by omega) k
end
end TR

namespace TR
open PySem L2
/-! ### law_k40: a player led on -/
@[irreducible] def sp_led (K : PySem.W.Frag) (A : Ads) : Sp := fun vs H Q _ => ∃ (a : PA) (b : SA) (f : Sf) (s : Pl) (sa t : Addr) (ns : List Int) (n bb tt : Nat) (R : List Ent), vs = [.ref sa, .ref t, .ref a.p] ∧ Scr K sa ns R ∧ OP A H H a b s f ((t, .lst (zeros n)) :: R) ∧ n ≤ 8000 ∧ Kp f s bb tt ∧ ShOk f ∧ bb + 10 ≤ 100 ∧ tt + 1900 ≤ 30000 ∧
  ∀ H' a' s' n', a'.p = a.p → n' ≤ n + 60 → Kp f s' (bb + 10) (tt + 1900) → OP A H H' a' b s' f ((t, .lst (zeros n')) :: R) → Q .non H'
theorem of_led {K : PySem.W.Frag} {A : Ads} {vs : List V} {H : Hp} {Q : VK} {E : XK} (h :  ∃ (a : PA) (b : SA) (f : Sf) (s : Pl) (sa t : Addr) (ns : List Int) (n bb tt : Nat) (R : List Ent), vs = [.ref sa, .ref t, .ref a.p] ∧ Scr K sa ns R ∧ OP A H H a b s f ((t, .lst (zeros n)) :: R) ∧ n ≤ 8000 ∧ Kp f s bb tt ∧ ShOk f ∧ bb + 10 ≤ 100 ∧ tt + 1900 ≤ 30000 ∧
  ∀ H' a' s' n', a'.p = a.p → n' ≤ n + 60 → Kp f s' (bb + 10) (tt + 1900) → OP A H H' a' b s' f ((t, .lst (zeros n')) :: R) → Q .non H') : sp_led K A vs H Q E := by unfold sp_led; exact h
section
variable {P : Program} {w : World} {K : PySem.W.Frag} {mg : Str → Option Value} {base : Heap} {A : Ads}
variable {H0 H : Hp} {a : PA} {b : SA} {s : Pl} {f : Sf} {X : List Ent} {Q : VK} {E : XK}
theorem OP.now' (h : OP A H0 H a b s f X) : OP A H H a b s f X := let ⟨ov, rs, w, g⟩ := h; ⟨ov, rs, w.now, g⟩
theorem OP.tr' {H1 H2 : Hp} {a2 : PA} {b2 : SA} {s2 : Pl} {f2 : Sf} {X2 : List Ent} (h : OP A H0 H1 a b s f X) (k : OP A H1 H2 a2 b2 s2 f2 X2) : OP A H0 H2 a2 b2 s2 f2 X2 := let ⟨_, _, w, _⟩ := h; let ⟨ov, rs, w2, g2⟩ := k; ⟨ov, rs, w.tr w2, g2⟩
theorem call_at {sa t : Addr} {ns : List Int} {n : Nat} {R : List Ent} (h : OP A H0 H a b s f ((t, .lst (zeros n)) :: R)) (sc : Scr K sa ns R) (hn : n ≤ 9000) (ht : s.o.q.turn.length ≤ 12)
    (k : ∀ H' q c n', n' ≤ n + 4 → OP A H0 H' a b s f ((t, .lst (zeros n')) :: R) → H' q = some (.tup (PC.tup c)) → Tps H H' → Q (.ref q) H') : xCall (sp_call K A) [.ref sa, .ref t, .ref a.p] H Q E :=
  st_call (of_call ⟨a, b, f, s, sa, t, ns, n, R, rfl, sc, h.now', hn, ht, fun H' q c n' hn' p hq => k H' q c n' hn' (h.tr' p) hq p.tps⟩)
theorem told_at {q : Addr} {c : PC} {bb tt : Nat} (h : OP A H0 H a b s f X) (hq : H q = some (.tup c.tup)) (kp : Kp f s bb tt) (hb : bb ≤ 100) (ht : tt ≤ 30000)
    (k : ∀ H' a' p, a'.p = a.p → OP A H0 H' a' b ((tellP f s c).st s) f ((p, .tup (tellP f s c).tup) :: X) → Tps H H' → Q (.ref p) H') : xCall (sp_told A) [.ref a.p, .ref q] H Q E :=
  st_call (of_told ⟨a, b, f, s, X, q, c, bb, tt, rfl, hq, h.now', kp, hb, ht, fun H' a' p ea p' => k H' a' p ea (h.tr' p') p'.tps⟩)
theorem all_at {bb tt : Nat} (h : OP A H0 H a b s f X) (kp : Kp f s bb tt) (hb : bb ≤ 100) (ht : tt ≤ 30000)
    (k : ∀ H' p z rs xs ax, OP A H0 H' a b s f (alL z s rs xs ax ++ X) → AlF f s H' p z rs xs ax → Tps H H' → Q (.ref p) H') : xCall (sp_all A) [.ref a.p, .int 40] H Q E :=
  st_call (of_all ⟨a, b, f, s, X, bb, tt, rfl, h.now', kp, hb, ht, fun H' p z rs xs ax p' al => k H' p z rs xs ax (h.tr' p') al p'.tps⟩)
theorem ok_law_led (T : Txt K mg A) : FnOk P w K mg base (L2.CX P w) 13 A.f_law_led A.d_law_led P_law_led (sp_led K A) := by
  refine T.F_law_led.okX sc_law_led (fun vs H Q E h => ?_) (fun cdv Ar outer s H vs Q E hr h => ?_)
  · unfold sp_led at h; obtain ⟨a, b, f, s, sa, t, ns, n, bb, tt, R, rfl, _⟩ := h; rfl
  · unfold sp_led at h; obtain ⟨a, b, f, s, sa, t, ns, n, bb, tt, R, rfl, sc, p, hn, kp, sh, hbb, htt, k⟩ := h
    refine ⟨_, (pss_cons (my_for ownE rfl (pi_range1 (by rfl) T.z_range (pa_cons (my_call (ok_law_draw T) (hr.mono (by decide)) (by rfl) T.g_law_draw T.k_law_draw T.b_law_draw passE (pa_cons (pv 0) (pa_cons (pv 1) (pa_cons pe_int pa_nil)))) pa_nil)) (pg_name (i := 3) sc_law_led.nd rfl (by first | exact Or.inl rfl | exact Or.inr rfl))
        (pss_one (ps_expr (my_call (ok_law_told T) (hr.mono (by decide)) (by rfl) T.g_law_told T.k_law_told T.b_law_told passE (pa_cons (pv 2) (pa_cons (my_call (ok_law_call T) (hr.mono (by decide)) (by rfl) T.g_law_call T.k_law_call T.b_law_call passE (pa_cons (pv 0) (pa_cons (pv 1) (pa_cons (pv 2) pa_nil)))) pa_nil))))))
      (pss_cons (ps_set (i := 4) sc_law_led.nd rfl (by first | exact Or.inl rfl | exact Or.inr rfl) (my_call (ok_law_draw T) (hr.mono (by decide)) (by rfl) T.g_law_draw T.k_law_draw T.b_law_draw passE (pa_cons (pv 0) (pa_cons (pv 1) (pa_cons pe_int pa_nil)))))
      (pss_cons (ps_expr (my_meth0 (pv 2) T.c_Player T.m_Player_resume (ok_Player_resume T) (hr.mono (by decide)) T.b_Player_resume passE))
      (pss_one (my_if (pt_cmpR op_eq (pv 4) pe_int (nomark _))
        (pss_one (ps_expr (my_meth (pv 2) T.c_Player T.m_Player_stop_behind (ok_Player_stop_behind T) (hr.mono (by decide)) T.b_Player_stop_behind passE (pa_cons pe_bl pa_nil))))
        (pss_one (my_if (pt_cmpR op_eq (pv 4) pe_int (nomark _))
        (pss_one (ps_expr (my_meth (pv 2) T.c_Player T.m_Player_sleep (ok_Player_sleep T) (hr.mono (by decide)) T.b_Player_sleep passE (pa_cons (pe_op op_add pe_int (my_call (ok_law_draw T) (hr.mono (by decide)) (by rfl) T.g_law_draw T.k_law_draw T.b_law_draw passE (pa_cons (pv 0) (pa_cons (pv 1) (pa_cons pe_int pa_nil))))) pa_nil))))
        (pss_one (my_if (PW.pt (my_and (pt_cmpR op_eq (pv 4) pe_int (nomark _)) (pw_and1 (pt_cmpR op_in_seq (pe_ix ix_tup (my_meth0 (pv 2) T.c_Player T.m_Player_state (ok_Player_state T) (hr.mono (by decide)) T.b_Player_state passE) pe_int (fun _ _ => rfl)) (my_meth0 (pv 2) T.c_Player T.m_Player_entries (ok_Player_entries T) (hr.mono (by decide)) T.b_Player_entries passE) (by rfl)))))
        (pss_one (ps_expr (my_meth (pv 2) T.c_Player T.m_Player_remove (ok_Player_remove T) (hr.mono (by decide)) T.b_Player_remove passE (pa_cons (pe_ix ix_tup (my_meth0 (pv 2) T.c_Player T.m_Player_state (ok_Player_state T) (hr.mono (by decide)) T.b_Player_state passE) pe_int (fun _ _ => rfl)) pa_nil))))
        (pss_one (my_if (pt_cmpR op_eq (pv 4) pe_int (nomark _))
        (pss_cons (ps_expr (my_meth (pv 2) T.c_Player T.m_Player_tick (ok_Player_tick T) (hr.mono (by decide)) T.b_Player_tick passE (pa_cons (my_call (ok_law_draw T) (hr.mono (by decide)) (by rfl) T.g_law_draw T.k_law_draw T.b_law_draw passE (pa_cons (pv 0) (pa_cons (pv 1) (pa_cons pe_int pa_nil)))) pa_nil)))
      (pss_one (my_for ownE rfl (pi_range1 (by rfl) T.z_range (pa_cons pe_int pa_nil)) (pg_name (i := 3) sc_law_led.nd rfl (by first | exact Or.inl rfl | exact Or.inr rfl))
        (pss_one (my_if (pt_cmpR op_lt (pe_callB my_lenQ (by rfl) T.z_len PySem.boot_len (pa_cons (my_meth0 (pv 2) T.c_Player T.m_Player_sounds (ok_Player_sounds T) (hr.mono (by decide)) T.b_Player_sounds passE) pa_nil)) pe_int (nomark _))
        (pss_one (ps_expr (my_meth (pv 2) T.c_Player T.m_Player_tick (ok_Player_tick T) (hr.mono (by decide)) T.b_Player_tick passE (pa_cons pe_int pa_nil))))
        pss_nil)))))
        (pss_one (my_if (pt_cmpR (my_neD hr.units) (my_meth0 (pv 2) T.c_Player T.m_Player_entries (ok_Player_entries T) (hr.mono (by decide)) T.b_Player_entries passE) (my_lst pa_nil) (nomark _))
        (pss_one (ps_expr (my_meth (pv 2) T.c_Player T.m_Player_play_soon (ok_Player_play_soon T) (hr.mono (by decide)) T.b_Player_play_soon passE (pa_cons (my_call (ok_law_pick T) (hr.mono (by decide)) (by rfl) T.g_law_pick T.k_law_pick T.b_law_pick passE (pa_cons (pv 0) (pa_cons (pv 1) (pa_cons (my_meth0 (pv 2) T.c_Player T.m_Player_entries (ok_Player_entries T) (hr.mono (by decide)) T.b_Player_entries passE) pa_nil)))) pa_nil))))
        pss_nil))))))))))))), ?_⟩
    obtain ⟨ov, rs, w, g⟩ := p
    walk_at "rd"
    refine OP.draw ⟨ov, rs, w, g⟩ (by walk_at "scr") (by omega) (by decide) fun H1 p1 _ d0 d1 => ?_
    clear w g
    generalize drawP ns n 10 = kk at *
    obtain ⟨ov, rs, w, g⟩ := p1
    walk_at "rd"
    refine st_forR (fun i σ H' => ∃ (u : Option V) (s' : Pl) (a' : PA) (n' : Nat), σ = [some (.ref sa), some (.ref t), some (.ref a.p), u, none] ∧ a'.p = a.p ∧ Kp f s' (bb + i) (tt + 200 * i) ∧ n' ≤ n + 1 + 4 * i ∧ OP A H H' a' b s' f ((t, .lst (zeros n')) :: R))
      ⟨none, s, a, n + 1, rfl, rfl, kp, by omega, ⟨ov, rs, w, g⟩⟩ ?_ ?_
    · clear w g kp
      rintro i σ H' hi ⟨u, s', a', n', rfl, ea', kp, hn', p2⟩
      rw [← ea']
      have hi9 : i < 9 := by omega
      obtain ⟨ov, rs, w, g⟩ := p2
      walk_at "rd"
      refine call_at ⟨ov, rs, w, g⟩ (by walk_at "scr") (by omega) kp.ok.o.q.sz fun H2 q c n2 hn2 p3 hq _ => ?_
      clear w g
      walk_at "rd"
      refine told_at p3 hq kp (by omega) (by omega) fun H3 a3 q3 ea3 p4 _ => ?_
      have kp' := kp.tell sh (by omega) c
      exact ⟨_, _, a3, n2, rfl, ea3, kp'.mono (by omega) (by omega), by omega, p4.cut1⟩
    · clear w g kp
      rintro σ H' ⟨u, s', a', n', rfl, ea', kp, hn', p2⟩
      have hkk : kk.toNat ≤ 9 := by omega
      replace kp : Kp f s' (bb + 9) (tt + 1800) := kp.mono (by omega) (by omega)
      replace hn' : n' ≤ n + 40 := by omega
      have k' : ∀ H' a2 s' n', a2.p = a'.p → n' ≤ n + 60 → Kp f s' (bb + 10) (tt + 1900) → OP A H H' a2 b s' f ((t, .lst (zeros n')) :: R) → Q .non H' := fun H' a2 s' n' e => k H' a2 s' n' (e.trans ea')
      clear k
      rw [← ea']
      obtain ⟨ov, rs, w, g⟩ := p2
      walk_at "rd"
      refine OP.draw ⟨ov, rs, w, g⟩ (by walk_at "scr") (by omega) (by decide) fun H3 p3 _ e0 e1 => ?_
      clear w g
      generalize drawP ns n' 6 = kd at *
      obtain ⟨ov, rs, w, g⟩ := p3
      walk_at "rd"
      refine OP.resume ⟨ov, rs, w, g⟩ kp.ok (kp.sz.mono (by omega)) fun H4 a4 ea4 p4 _ => ?_
      clear w g
      replace kp := kp.resume
      rw [← ea4]
      replace k' : ∀ H' a2 s' n', a2.p = a4.p → n' ≤ n + 60 → Kp f s' (bb + 10) (tt + 1900) → OP A H H' a2 b s' f ((t, .lst (zeros n')) :: R) → Q .non H' := fun H' a2 s' n' e => k' H' a2 s' n' (e.trans ea4)
      generalize resumeP f s' = sR at *
      obtain ⟨ov, rs, w, g⟩ := p4
      walk_at "rd"
      by_cases e0' : kd = 0
      · refine xIf_T (decide_eq_true (by rw [e0'])) ?_
        walk_at "rd"
        refine OP.stop ⟨ov, rs, w, g⟩ fun H5 p5 _ => ?_
        exact k' _ a4 _ _ rfl (by omega) ((kp.stop true).mono (by omega) (by omega)) p5
      refine xIf_F (decide_eq_false fun z => e0' (V.int.inj z)) ?_
      walk_at "rd"
      by_cases e1' : kd = 1
      · refine xIf_T (decide_eq_true (by rw [e1'])) ?_
        walk_at "rd"
        refine OP.draw ⟨ov, rs, w, g⟩ (by walk_at "scr") (by omega) (by decide) fun H5 p5 _ f0 f1 => ?_
        clear w g
        generalize drawP ns _ 20 = d20 at *
        obtain ⟨ov, rs, w, g⟩ := p5
        walk_at "rd"
        have hm : ∀ j, some (1 + d20) = some j → 1 ≤ j ∧ j ≤ 60 := fun j e => by cases e; omega
        refine OP.sleep (m := some (1 + d20)) ⟨ov, rs, w, g⟩ hm fun H6 p6 _ => ?_
        exact k' _ a4 _ _ rfl (by omega) ((kp.sleep hm).mono (by omega) (by omega)) p6
      refine xIf_F (decide_eq_false fun z => e1' (V.int.inj z)) ?_
      walk_at "rd"
      have tail : True := True.intro
      by_cases e2' : kd = 2
      case' pos =>
        refine xIf_T (decide_eq_true (by rw [e2'])) ?_
        walk_at "rd"
        refine OP.state ⟨ov, rs, w, g⟩ fun H5 t5 p5 _ ht5 => ?_
        clear w g
        obtain ⟨ov, rs, w, g⟩ := p5
        walk_at "rd"
        refine OP.entries ⟨ov, rs, w, g⟩ fun H6 l6 p6 _ => ?_
        clear w g
        obtain ⟨ov, rs, w, g⟩ := p6
        have hfl := flat_oV sR.now
        walk_at "rd"
        by_cases hin : ∃ x, sR.now = some x ∧ x ∈ sR.o.q.turn
        case pos =>
          obtain ⟨x, hx1, hx2⟩ := hin
          refine xIf_T (by show inV (oV sR.now) (sR.o.q.turn.map V.int) = true; rw [inV_o]; exact decide_eq_true ⟨x, hx1, hx2⟩) ?_
          have p7 := OP.cut1 ⟨ov, rs, w, g⟩
          clear w g ht5
          obtain ⟨ov, rs, w, g⟩ := p7
          walk_at "rd"
          refine OP.state ⟨ov, rs, w, g⟩ fun H7 t7 p7 _ ht7 => ?_
          clear w g
          rw [hx1] at ht7
          obtain ⟨ov, rs, w, g⟩ := p7
          walk_at "rd"
          refine OP.remove ⟨ov, rs, w, g⟩ kp.ok (by have := kp.sz.s; omega) hx2 fun H8 a8 ea8 p8 _ => ?_
          exact k' _ a8 _ _ ea8 (by omega) ((kp.remove hx2).mono (by omega) (by omega)) p8
        refine xIf_F (by show inV (oV sR.now) (sR.o.q.turn.map V.int) = false; rw [inV_o]; exact decide_eq_false hin) ?_
        have p7 := OP.cut1 ⟨ov, rs, w, g⟩
        clear w g ht5
        obtain ⟨ov, rs, w, g⟩ := p7
        walk_at "rd"
        refine xIf_F (decide_eq_false fun z => by have := V.int.inj z; omega) ?_
      case' neg =>
        refine xIf_F (decide_eq_false fun z => e2' (V.int.inj z)) ?_
        refine xIf_F rfl ?_
        walk_at "rd"
        by_cases e3' : kd = 3
        case pos =>
          refine xIf_T (decide_eq_true (by rw [e3'])) ?_
          walk_at "rd"
          refine OP.draw ⟨ov, rs, w, g⟩ (by walk_at "scr") (by omega) (by decide) fun H5 p5 _ f0 f1 => ?_
          clear w g
          generalize drawP ns _ 12 = d12 at *
          obtain ⟨ov, rs, w, g⟩ := p5
          walk_at "rd"
          refine OP.tick ⟨ov, rs, w, g⟩ kp.ok kp.sz (by omega) ⟨by omega, by omega⟩ fun H6 a6 ea6 p6 _ => ?_
          clear w g
          rw [← ea6]
          replace kp := kp.tick d12.toNat
          generalize tickP f d12.toNat sR = sT at *
          obtain ⟨ov, rs, w, g⟩ := p6
          walk_at "rd"
          refine st_forR (fun i σ H' => ∃ (u : Option V) (s' : Pl) (a' : PA), σ = [some (.ref sa), some (.ref t), some (.ref a6.p), u, some (.int kd)] ∧ a'.p = a6.p ∧ Kp f s' (bb + 9) (tt + 1820 + i) ∧ OP A H H' a' b s' f ((t, .lst (zeros (n' + 1 + 1))) :: R))
            ⟨_, sT, a6, rfl, rfl, kp.mono (by omega) (by omega), ⟨ov, rs, w, g⟩⟩ ?_ ?_
          · clear w g kp
            rintro i σ H' hi ⟨u, s', a', rfl, ea', kp, p7⟩
            have hi60 : i < 60 := hi
            rw [← ea']
            obtain ⟨ov, rs, w, g⟩ := p7
            walk_at "rd"
            refine OP.sounds ⟨ov, rs, w, g⟩ kp.ok fun H7 l7 xs7 p8 _ _ => ?_
            clear w g
            obtain ⟨ov, rs, w, g⟩ := p8
            walk_at "rd"
            refine xIf_2 (fun _ => ?_) (fun _ => ?_)
            · have p9 := OP.cut1 ⟨ov, rs, w, g⟩
              clear w g
              obtain ⟨ov, rs, w, g⟩ := p9
              walk_at "rd"
              refine OP.tick (m := 1) ⟨ov, rs, w, g⟩ kp.ok kp.sz (by omega) ⟨by decide, by decide⟩ fun H8 a8 ea8 p10 _ => ?_
              exact ⟨_, _, a8, rfl, ea8, kp.tick 1, p10⟩
            · exact ⟨_, s', a', rfl, rfl, kp.mono (Nat.le_refl _) (by omega), OP.cut1 ⟨ov, rs, w, g⟩⟩
          · clear w g kp
            rintro σ H' ⟨u, s', a', rfl, ea', kp, p7⟩
            have h60 : ((60 : Int)).toNat = 60 := rfl
            exact k' _ a' s' _ (ea'.trans ea6) (by omega) (kp.mono (by omega) (by omega)) p7
        refine xIf_F (decide_eq_false fun z => e3' (V.int.inj z)) ?_
      all_goals
        walk_at "rd"
        refine OP.entries ⟨ov, rs, w, g⟩ fun H8 l8 p8 _ => ?_
        clear w g
        obtain ⟨ov, rs, w, g⟩ := p8
        walk_at "rd"
        refine OP.new ⟨ov, rs, w, g⟩ fun l9 H9 p9 _ => ?_
        clear w g
        obtain ⟨ov, rs, w, g⟩ := p9
        refine st_neD (d := .list (sR.o.q.turn.map PyData.int)) (e := .list []) (dp_ints (SqL.of (w.get 13 rfl))) (.lst (SqL.of (w.get 12 rfl)) .nil) (sh_list (k := 63) (sh_ints _)) (sh_list (k := 63) sh_nil) ?_
        have p10 := OP.cut1 (OP.cut1 ⟨ov, rs, w, g⟩)
        clear w g
        obtain ⟨ov, rs, w, g⟩ := p10
        walk_at "rd"
        by_cases hne : sR.o.q.turn = []
        · refine xIf_F (by rw [hne]; simp [PyData.eqv, PyData.eqvAll]) ?_
          exact k' _ a4 _ _ rfl (by omega) (kp.mono (by omega) (by omega)) ⟨ov, rs, w, g⟩
        · refine xIf_T (by
            obtain ⟨x, r, e⟩ := List.exists_cons_of_ne_nil hne
            rw [e]
            simp [PyData.eqv, PyData.eqvAll]) ?_
          walk_at "rd"
          refine OP.entries ⟨ov, rs, w, g⟩ fun H11 l11 p11 _ => ?_
          clear w g
          walk_at "rd"
          refine OP.pickV (gv := V.int) (xs := sR.o.q.turn) (n := n' + 1) 0 p11 (by walk_at "scr") (by omega) hne fun H12 v p12 _ _ hv => ?_
          obtain ⟨ov, rs, w, g⟩ := p12
          walk_at "rd"
          refine OP.soon ⟨ov, rs, w, g⟩ (by have := kp.sz.s; omega) hv fun H13 p13 _ => ?_
          exact k' _ a4 _ _ rfl (by omega) ((kp.soon hv).mono (by omega) (by omega)) p13
end
end TR

namespace TR
open PySem L2
/-! ### law_k40: shelves, a player begun, signs -/
def names5 : List Str := ["a", "b", "c", "d", "ee"]
def Full5 (f : Sf) : Prop := ∀ x ∈ names5, ∃ n, f.lookup x = some n ∧ 1 ≤ n ∧ n ≤ 40
@[irreducible] def sp_shelf5 (A : Ads) : Sp := fun vs H Q _ => ∃ (lg : Addr) (f : Sf) (R : List Ent), vs = [.ref lg] ∧ W H H ((lg, .dK (sfK f)) :: R) ∧ Full5 f ∧ f.map (·.1) = names5 ∧
  ∀ H' b, W H H' (sL A b f ++ ((lg, .dK (sfK f)) :: R)) → Q (.ref b.q) H'
theorem of_shelf5 {A : Ads} {vs : List V} {H : Hp} {Q : VK} {E : XK} (h :  ∃ (lg : Addr) (f : Sf) (R : List Ent), vs = [.ref lg] ∧ W H H ((lg, .dK (sfK f)) :: R) ∧ Full5 f ∧ f.map (·.1) = names5 ∧
  ∀ H' b, W H H' (sL A b f ++ ((lg, .dK (sfK f)) :: R)) → Q (.ref b.q) H') : sp_shelf5 A vs H Q E := by unfold sp_shelf5; exact h
theorem okN_names5 : ∀ x ∈ names5, okN x = true ∧ x.length < 1000 := by decide +kernel
theorem nm_names5 : ∀ x ∈ names5, x.cps.toList ≠ [] ∧ (∀ c ∈ x.cps.toList, 97 ≤ c ∧ c ≤ 122) ∧ x.length ≤ 6 := by decide +kernel
theorem shOk5 {f : Sf} (hf : Full5 f) (hk : f.map (·.1) = names5) : ShOk f := by
  refine ⟨fun p hp => ?_, fun x n hx => ?_⟩
  · have := nm_names5 p.1 (by rw [← hk]; exact List.mem_map_of_mem hp)
    exact ⟨this.1, this.2.1, this.2.2⟩
  · have hm : x ∈ names5 := by rw [← hk]; exact List.mem_map_of_mem (f := (·.1)) (lookup_mem hx)
    obtain ⟨m, e, h⟩ := hf x hm
    rw [hx] at e
    cases e
    exact h
theorem kp_pl0 {f : Sf} {ov n : Int} (h1 : 0 ≤ ov ∧ ov ≤ 9) (h2 : 0 ≤ n ∧ n < 6075) : Kp f (pl0 ov n) 0 0 :=
  ⟨ok_pl0 h1 h2, ⟨⟨Int.le_refl _, Int.le_refl _⟩, (fun _ z => nomatch z), (fun _ _ _ z => nomatch z), (fun _ z => nomatch z), (fun _ z => nomatch z), by show ("none" : Str) ∈ repeats; decide +kernel⟩, Nat.le_refl _, ⟨Nat.le_refl _, Nat.le_refl _, Nat.le_refl _⟩⟩
@[irreducible] def sp_begun (K : PySem.W.Frag) (A : Ads) : Sp := fun vs H Q _ => ∃ (sa t lg : Addr) (ns : List Int) (n : Nat) (f : Sf) (R : List Ent), vs = [.ref sa, .ref t, .ref lg] ∧ Scr K sa ns R ∧ W H H ((t, .lst (zeros n)) :: (lg, .dK (sfK f)) :: R) ∧ n ≤ 100 ∧ Full5 f ∧ f.map (·.1) = names5 ∧
  ∀ H' a b s n', n' ≤ n + 40 → Kp f s 8 0 → OP A H H' a b s f ((t, .lst (zeros n')) :: (lg, .dK (sfK f)) :: R) → Q (.ref a.p) H'
theorem of_begun {K : PySem.W.Frag} {A : Ads} {vs : List V} {H : Hp} {Q : VK} {E : XK} (h :  ∃ (sa t lg : Addr) (ns : List Int) (n : Nat) (f : Sf) (R : List Ent), vs = [.ref sa, .ref t, .ref lg] ∧ Scr K sa ns R ∧ W H H ((t, .lst (zeros n)) :: (lg, .dK (sfK f)) :: R) ∧ n ≤ 100 ∧ Full5 f ∧ f.map (·.1) = names5 ∧
  ∀ H' a b s n', n' ≤ n + 40 → Kp f s 8 0 → OP A H H' a b s f ((t, .lst (zeros n')) :: (lg, .dK (sfK f)) :: R) → Q (.ref a.p) H') : sp_begun K A vs H Q E := by unfold sp_begun; exact h
@[irreducible] def sp_is_text : Sp := fun vs H Q _ => ∃ (x : Str) (L : List Ent), vs = [.str x] ∧ W H H L ∧ x.length ≤ 16000000 ∧ (∀ c ∈ x.cps.toList, c = 10 ∨ Sgn c) ∧ ∀ H', W H H' L → Q (.bl true) H'
theorem of_is_text  {vs : List V} {H : Hp} {Q : VK} {E : XK} (h :  ∃ (x : Str) (L : List Ent), vs = [.str x] ∧ W H H L ∧ x.length ≤ 16000000 ∧ (∀ c ∈ x.cps.toList, c = 10 ∨ Sgn c) ∧ ∀ H', W H H' L → Q (.bl true) H') : sp_is_text  vs H Q E := by unfold sp_is_text; exact h
@[irreducible] def xIsS : List V → Hp → VK → Prop := fun xs H Q => ∃ x : Str, xs = [.str x, .ty "str"] ∧ Q (.bl true) H
theorem my_isS2 {X : Cx} : CallR X (.builtin "isinstance") xIsS := by
  refine cr_le call_isi fun xs H Q q => ?_
  unfold xIsS at q
  obtain ⟨x, rfl, q⟩ := q
  exact ⟨.str x, .ty "str", .type "str", .type "str", true, rfl, by constructor, .base (.str x), by rfl, q⟩
theorem lt_one {a b : Nat} (h : (⟨#[a]⟩ : Str).cps.toList < (⟨#[b]⟩ : Str).cps.toList) : a < b := by
  have h : ([a] : List Nat) < [b] := h
  simpa [List.cons_lt_cons_iff] using h
theorem one_lt {a b : Nat} (h : a < b) : (⟨#[a]⟩ : Str).cps.toList < (⟨#[b]⟩ : Str).cps.toList := by
  show ([a] : List Nat) < [b]
  simpa [List.cons_lt_cons_iff] using h
def again4 : List Str := ["none", "all", "all", "one"]
section
variable {P : Program} {w : World} {K : PySem.W.Frag} {mg : Str → Option Value} {base : Heap} {A : Ads}
theorem ok_law_shelf (T : Txt K mg A) : FnOk P w K mg base (L2.CX P w) 3 A.f_law_shelf A.d_law_shelf P_law_shelf (sp_shelf5 A) := by
  refine T.F_law_shelf.okX sc_law_shelf (fun vs H Q E h => ?_) (fun cdv Ar outer s H vs Q E hr h => ?_)
  · unfold sp_shelf5 at h; obtain ⟨lg, f, R, rfl, _⟩ := h; rfl
  · unfold sp_shelf5 at h; obtain ⟨lg, f, R, rfl, w, hf, hk, k⟩ := h
    refine ⟨_, (pss_cons (ps_set (i := 1) sc_law_shelf.nd rfl (by first | exact Or.inl rfl | exact Or.inr rfl) (my_make0 T.M_Shelf (ok_Shelf_init__ T) (hr.mono (by decide)) (by rfl) T.g_Shelf T.b_Shelf_init__ passE))
      (pss_cons (my_forK ownE rfl (pi_keysM (pv 0)) (pg_name (i := 2) sc_law_shelf.nd rfl (by first | exact Or.inl rfl | exact Or.inr rfl))
        (pss_one (ps_expr (my_meth (pv 1) T.c_Shelf T.m_Shelf_add (ok_Shelf_add T) (hr.mono (by decide)) T.b_Shelf_add passE (pa_cons (pv 2) (pa_cons (pe_dget (hu_of hr) (pv 0) (pv 2) (fun _ _ => rfl)) pa_nil))))))
      (pss_one (ps_ret (pv 1))))), ?_⟩
    walk_at "rd"
    refine st_make w fun q dx H1 w1 => ?_
    refine of_Shelf_init ⟨q, dx, _, rfl, w1.now, fun H2 d w2 => ?_⟩
    have w3 : W H H2 (sL A ⟨q, dx, d⟩ [] ++ ((lg, .dK (sfK f)) :: R)) := w1.tr w2
    clear w1 w2
    have hlen : f.length = 5 := by have := congrArg List.length hk; rw [List.length_map] at this; exact this
    have hnd : (f.map (·.1)).Nodup := by rw [hk]; decide +kernel
    walk_at "rd"
    refine st_forK (kvs := sfK f) (l := lg) (j := 2) (fun od i σ H' => ∃ u : Option V, σ = [some (.ref lg), some (.ref q), u] ∧ i ≤ 5 ∧ W H H' (sL A ⟨q, dx, d⟩ (f.take i) ++ ((lg, .frz od (.dK (sfK f))) :: R))) w3 rfl rfl
      (fun od H' w4 => ⟨none, rfl, by decide, w4⟩) (fun od i σ H' ⟨u, _, _, w4⟩ => w4.get 2 rfl) ?_ ?_
    · rintro od i ky v σ H' rt bk hx ⟨u, rfl, hi6, w4⟩
      unfold sfK at hx
      rw [List.getElem?_map] at hx
      cases hq : f[i]? with
      | none => rw [hq] at hx; cases hx
      | some pr =>
        obtain ⟨x, m⟩ := pr
        rw [hq] at hx
        cases hx
        have hi : i < f.length := (List.getElem?_eq_some_iff.mp hq).1
        have hxm : x ∈ names5 := by rw [← hk]; exact List.mem_map_of_mem (List.mem_of_getElem? hq)
        have hnone : (f.take i).lookup x = none := by
          rw [List.lookup_eq_none_iff]
          intro q hq2
          have hne : x ≠ q.1 := fun z => by
            obtain ⟨j, hj⟩ := List.getElem?_of_mem hq2
            rw [List.getElem?_take] at hj
            split at hj
            · rename_i hji
              have a1 : (f.map (·.1))[j]? = some x := by rw [List.getElem?_map, hj, z]; rfl
              have a2 : (f.map (·.1))[i]? = some x := by rw [List.getElem?_map, hq]; rfl
              have := nd_get hnd a1 a2
              omega
            · cases hj
          simp [hne]
        have hlk : f.lookup x = some m := by
          cases hl : f.lookup x with
          | none =>
            have := (List.lookup_eq_none_iff.mp hl) (x, m) (List.mem_of_getElem? hq)
            simp at this
          | some m2 =>
            obtain ⟨l1, l2, e, h1⟩ := List.lookup_eq_some_iff.mp hl
            have hm2 : (x, m2) ∈ f := by rw [e]; exact List.mem_append_right _ List.mem_cons_self
            obtain ⟨j, hj⟩ := List.getElem?_of_mem hm2
            have a1 : (f.map (·.1))[j]? = some x := by rw [List.getElem?_map, hj]; rfl
            have a2 : (f.map (·.1))[i]? = some x := by rw [List.getElem?_map, hq]; rfl
            have := nd_get hnd a1 a2
            subst this
            rw [hq] at hj
            cases hj
            rfl
        have hb := hf x hxm
        rw [hlk] at hb
        obtain ⟨m3, e3, hb0, hb1⟩ := hb
        cases e3
        have hok := okN_names5 x hxm
        walk_at "rd"
        refine ⟨?_, ?_⟩
        · have e1 : valV (sfK f) (Sum.inr x) = some (.int m) := by rw [sfK_val, hlk]; rfl
          rw [← e1]
          exact .inl ⟨sfK f, Sum.inr x, .inr ⟨od, w4.get 2 rfl⟩, rfl, rfl⟩
        refine st_call (of_Shelf_add ⟨⟨q, dx, d⟩, f.take i, x, m, _, rfl, w4.now, hok.2, by rw [List.length_take]; omega, fun _ _ _ _ H3 w5 => ?_, fun z => absurd ⟨hok.1, hnone, by rw [List.length_take]; omega⟩ z, fun _ _ _ z => absurd ⟨hb0, hb1⟩ z⟩)
        refine ⟨_, rfl, by omega, ?_⟩
        have e : f.take (i + 1) = f.take i ++ [(x, m)] := by rw [List.take_succ, hq]; rfl
        rw [e]
        exact w4.tr w5
    · rintro od σ H' ⟨u, rfl, _, w4⟩
      rw [sfK_len, List.take_length] at w4
      walk_at "rd"
      have w5 := w4.set 2 (.dK (sfK f)) rfl rfl
      exact k _ ⟨q, dx, d⟩ w5
theorem ok_law_begun (T : Txt K mg A) : FnOk P w K mg base (L2.CX P w) 7 A.f_law_begun A.d_law_begun P_law_begun (sp_begun K A) := by
  refine T.F_law_begun.okX sc_law_begun (fun vs H Q E h => ?_) (fun cdv Ar outer s H vs Q E hr h => ?_)
  · unfold sp_begun at h; obtain ⟨sa, t, lg, ns, n, f, R, rfl, _⟩ := h; rfl
  · unfold sp_begun at h; obtain ⟨sa, t, lg, ns, n, f, R, rfl, sc, w, hn, hf, hk, k⟩ := h
    refine ⟨_, (pss_cons (ps_set (i := 3) sc_law_begun.nd rfl (by first | exact Or.inl rfl | exact Or.inr rfl) (my_make T.M_Player (ok_Player_init__ T) (hr.mono (by decide)) (by rfl) T.g_Player T.b_Player_init__ passE (pa_cons (my_call (ok_law_shelf T) (hr.mono (by decide)) (by rfl) T.g_law_shelf T.k_law_shelf T.b_law_shelf passE (pa_cons (pv 2) pa_nil)) (pa_cons (my_call (ok_law_draw T) (hr.mono (by decide)) (by rfl) T.g_law_draw T.k_law_draw T.b_law_draw passE (pa_cons (pv 0) (pa_cons (pv 1) (pa_cons pe_int pa_nil)))) (pa_cons (my_call (ok_law_draw T) (hr.mono (by decide)) (by rfl) T.g_law_draw T.k_law_draw T.b_law_draw passE (pa_cons (pv 0) (pa_cons (pv 1) (pa_cons pe_int pa_nil)))) pa_nil)))))
      (pss_cons (my_for ownE rfl (pi_range1 (by rfl) T.z_range (pa_cons (pe_op op_add pe_int (my_call (ok_law_draw T) (hr.mono (by decide)) (by rfl) T.g_law_draw T.k_law_draw T.b_law_draw passE (pa_cons (pv 0) (pa_cons (pv 1) (pa_cons pe_int pa_nil))))) pa_nil)) (pg_name (i := 4) sc_law_begun.nd rfl (by first | exact Or.inl rfl | exact Or.inr rfl))
        (pss_one (ps_expr (my_meth (pv 3) T.c_Player T.m_Player_add (ok_Player_add T) (hr.mono (by decide)) T.b_Player_add passE (pa_cons (my_call (ok_law_pick T) (hr.mono (by decide)) (by rfl) T.g_law_pick T.k_law_pick T.b_law_pick passE (pa_cons (pv 0) (pa_cons (pv 1) (pa_cons (my_lst (pa_cons pe_str (pa_cons pe_str (pa_cons pe_str (pa_cons pe_str (pa_cons pe_str pa_nil)))))) pa_nil)))) (pa_cons (my_call (ok_law_draw T) (hr.mono (by decide)) (by rfl) T.g_law_draw T.k_law_draw T.b_law_draw passE (pa_cons (pv 0) (pa_cons (pv 1) (pa_cons (pe_op op_add (pv 4) pe_int) pa_nil)))) pa_nil))))))
      (pss_cons (ps_expr (my_meth (pv 3) T.c_Player T.m_Player_set_mixed (ok_Player_set_mixed T) (hr.mono (by decide)) T.b_Player_set_mixed passE (pa_cons (pe_cmpR op_eq (my_call (ok_law_draw T) (hr.mono (by decide)) (by rfl) T.g_law_draw T.k_law_draw T.b_law_draw passE (pa_cons (pv 0) (pa_cons (pv 1) (pa_cons pe_int pa_nil)))) pe_int (nomark _)) pa_nil)))
      (pss_cons (ps_expr (my_meth (pv 3) T.c_Player T.m_Player_set_again (ok_Player_set_again T) (hr.mono (by decide)) T.b_Player_set_again passE (pa_cons (my_call (ok_law_pick T) (hr.mono (by decide)) (by rfl) T.g_law_pick T.k_law_pick T.b_law_pick passE (pa_cons (pv 0) (pa_cons (pv 1) (pa_cons (my_lst (pa_cons pe_str (pa_cons pe_str (pa_cons pe_str (pa_cons pe_str pa_nil))))) pa_nil)))) pa_nil)))
      (pss_one (ps_ret (pv 3))))))), ?_⟩
    walk_at "rd"
    refine st_call (of_shelf5 ⟨lg, f, _, rfl, (w.rot 1 1).now, hf, hk, fun H5 b w6 => ?_⟩)
    have w7 : W H H5 ((t, .lst (zeros n)) :: (sL A b f ++ ((lg, .dK (sfK f)) :: R))) := W.perm (w.tr w6) (by
      have e : ∀ (S : List Ent) (x y : Ent), (S ++ (x :: y :: R)).Perm (y :: (S ++ (x :: R))) := fun S x y => by walk_at "perm"
      exact e _ _ _)
    clear w6
    walk_at "rd"
    refine draw_at w7 0 rfl (by walk_at "scr") (by omega) (by decide) fun H3 w4 o0 o1 => ?_
    replace w4 : W H H3 ((t, .lst (zeros (n + 1))) :: (sL A b f ++ ((lg, .dK (sfK f)) :: R))) := w4
    generalize drawP ns n 10 = vo at *
    clear w7
    walk_at "rd"
    refine draw_at w4 0 rfl (by walk_at "scr") (by omega) (by decide) fun H4 w5 n0 n1 => ?_
    replace w5 : W H H4 ((t, .lst (zeros (n + 1 + 1))) :: (sL A b f ++ ((lg, .dK (sfK f)) :: R))) := w5
    generalize drawP ns (n + 1) 6075 = sd at *
    clear w4
    walk_at "rd"
    refine st_make w5 fun pp dx H6 w8 => ?_
    refine of_Player_init ⟨pp, dx, .ref b.q, vo, sd, _, rfl, w8.now, fun _ H7 ap eap w9 => ?_, fun z => absurd ⟨⟨o0, by omega⟩, n0, n1⟩ z⟩
    subst eap
    have w10 : W H H7 (oL A ap b (pl0 vo sd) .non [] f ((t, .lst (zeros (n + 1 + 1))) :: (lg, .dK (sfK f)) :: R)) := W.perm (w8.tr w9) (by
      have e : ∀ (P S : List Ent) (x y : Ent), (P ++ (x :: (S ++ (y :: R)))).Perm (P ++ (S ++ (x :: y :: R))) := fun P S x y => by walk_at "perm"
      exact e _ _ _ _)
    have p0 : OP A H H7 ap b (pl0 vo sd) f ((t, .lst (zeros (n + 1 + 1))) :: (lg, .dK (sfK f)) :: R) := ⟨_, _, w10, ⟨rfl, True.intro⟩⟩
    clear w9 w8 w5 w10
    have kp0 : Kp f (pl0 vo sd) 0 0 := kp_pl0 ⟨o0, by omega⟩ ⟨n0, n1⟩
    obtain ⟨ov, rs, w, g⟩ := p0
    walk_at "rd"
    refine OP.draw ⟨ov, rs, w, g⟩ (by walk_at "scr") (by omega) (by decide) fun H8 p1 _ r0 r1 => ?_
    clear w g
    generalize drawP ns _ 8 = rr at *
    obtain ⟨ov, rs, w, g⟩ := p1
    walk_at "rd"
    refine st_forR (fun i σ H' => ∃ (u : Option V) (s : Pl), σ = [some (.ref sa), some (.ref t), some (.ref lg), some (.ref ap.p), u] ∧ Kp f s i 0 ∧ s.o.q.turn.length = i ∧ OP A H H' ap b s f ((t, .lst (zeros (n + 3 + 2 * i))) :: (lg, .dK (sfK f)) :: R))
      ⟨none, pl0 vo sd, rfl, kp0, rfl, ⟨ov, rs, w, g⟩⟩ ?_ ?_
    · clear w g kp0
      rintro i σ H' hi ⟨u, s, rfl, kp, htr, p2⟩
      have hi8 : i < 8 := by omega
      obtain ⟨ov, rs, w, g⟩ := p2
      walk_at "rd"
      refine OP.new ⟨ov, rs, w, g⟩ fun nl H9 p3 _ => ?_
      clear w g
      replace p3 : OP A H H9 ap b s f ((nl, .lst (names5.map V.str)) :: (t, .lst (zeros (n + 3 + 2 * i))) :: (lg, .dK (sfK f)) :: R) := p3
      refine OP.pickV (gv := V.str) (xs := names5) (n := n + 3 + 2 * i) "" p3 (by walk_at "scr") (by omega) (by unfold names5; exact List.cons_ne_nil _ _) fun H10 v p4 _ _ hv => ?_
      clear p3
      obtain ⟨ov, rs, w, g⟩ := p4
      walk_at "rd"
      refine OP.draw ⟨ov, rs, w, g⟩ (by walk_at "scr") (by omega) (by omega) fun H11 p5 _ e0 e1 => ?_
      clear w g
      generalize drawP ns (n + 3 + 2 * i + 1) (0 + (i : Int) + 1) = pl at *
      have few := kp.few (by omega)
      obtain ⟨ov, rs, w, g⟩ := p5
      walk_at "rd"
      refine OP.add (p := pl) ⟨ov, rs, w, g⟩ kp.ok (by omega) (fun z => by obtain ⟨m, hm, _⟩ := hf v hv; rw [hm] at z; cases z) ⟨e0, by rw [htr]; omega, by rw [htr]; omega⟩ fun H12 p6 _ => ?_
      refine ⟨_, addP s v pl, rfl, kp.add (hf v hv) (by rw [htr]; omega) (by omega), ?_, ?_⟩
      · show (putO s.o v pl).q.turn.length = _
        rw [putO_q]
        show (insP s.o.q.turn pl.toNat _).length = _
        rw [insP_len, htr]
      · rw [show n + 3 + 2 * (i + 1) = n + 3 + 2 * i + 1 + 1 by omega]
        exact p6
    · clear w g kp0
      rintro σ H' ⟨u, s, rfl, kp, htr, p2⟩
      have hN : (1 + rr).toNat ≤ 8 := by omega
      generalize (1 + rr).toNat = N at *
      obtain ⟨ov, rs, w, g⟩ := p2
      walk_at "rd"
      refine OP.draw ⟨ov, rs, w, g⟩ (by walk_at "scr") (by omega) (by decide) fun H9 p3 _ _ _ => ?_
      clear w g
      obtain ⟨ov, rs, w, g⟩ := p3
      walk_at "rd"
      refine OP.mixed ⟨ov, rs, w, g⟩ kp.ok fun H10 a10 ea10 p4 _ => ?_
      clear w g
      replace kp := kp.mixed (decide (V.int (drawP ns (n + 3 + 2 * N) 2) = V.int 0))
      rw [← ea10]
      obtain ⟨ov, rs, w, g⟩ := p4
      walk_at "rd"
      refine OP.new ⟨ov, rs, w, g⟩ fun nl H11 p5 _ => ?_
      clear w g
      replace p5 : OP A H H11 a10 b (mixedP s (decide (V.int (drawP ns (n + 3 + 2 * N) 2) = V.int 0))) f ((nl, .lst (again4.map V.str)) :: (t, .lst (zeros (n + 3 + 2 * N + 1))) :: (lg, .dK (sfK f)) :: R) := p5
      refine OP.pickV (gv := V.str) (xs := again4) (n := n + 3 + 2 * N + 1) "" p5 (by walk_at "scr") (by omega) (by unfold again4; exact List.cons_ne_nil _ _) fun H12 v p6 _ _ hv => ?_
      have hvr : v ∈ repeats := by
        have e : ∀ x ∈ again4, x ∈ repeats := by decide +kernel
        exact e v hv
      obtain ⟨ov, rs, w, g⟩ := p6
      walk_at "rd"
      refine OP.again (x := v) ⟨ov, rs, w, g⟩ hvr fun H13 p7 _ => ?_
      walk_at "rd"
      exact k _ a10 b _ _ (by omega) ((kp.again hvr).mono (by omega) (Nat.le_refl _)) p7
theorem ok_law_is_text (T : Txt K mg A) : FnOk P w K mg base (L2.CX P w) 1 A.f_law_is_text A.d_law_is_text P_law_is_text (sp_is_text) := by
  refine T.F_law_is_text.okX sc_law_is_text (fun vs H Q E h => ?_) (fun cdv Ar outer s H vs Q E hr h => ?_)
  · unfold sp_is_text at h; obtain ⟨x, L, rfl, _⟩ := h; rfl
  · unfold sp_is_text at h; obtain ⟨x, L, rfl, w, hl, hs, k⟩ := h
    refine ⟨_, (pss_cons (my_if (pt_not (pt_val (pe_callB my_isS2 (by rfl) T.z_isinstance (by decide +kernel) (pa_cons (pv 0) (pa_cons (pe_bltn (v := .ty "str") (by rfl) T.z_str (by decide +kernel) rfl) pa_nil)))))
        (pss_one (ps_ret pe_bl))
        pss_nil)
      (pss_one (ps_ret (pe_cmpR (my_eqD hr.units) (my_lc (own := [("sign", 1)]) rfl sc_law_is_text.nd (pi_str (pv 0)) (blkOk_by (own := [("sign", 1)]) (N := N_law_is_text) (sc := defScope s_law_is_text) (by decide +kernel)) (fun _ _ _ _ _ => (pg_name (i := 1) sc_law_is_text.nd rfl (by first | exact Or.inl rfl | exact Or.inr rfl))) (fun _ _ _ _ _ => (pts_one (PW.pt (my_or (PW.pt (my_and (PW.pt (my_or (pt_cmpR op_lt_str (pv 1) pe_str (nomark _)) (pw_or1 (pt_cmpR op_gt_str (pv 1) pe_str (nomark _))))) (pw_and1 (pt_cmpR op_ne (pv 1) pe_str (nomark _))))) (pw_or1 (PW.pt (my_and (pt_cmpR op_lt_str pe_str (pv 1) (nomark _)) (pw_and1 (pt_cmpR op_lt_str (pv 1) pe_str (nomark _)))))))))) (fun _ _ _ _ _ => (pv 1))) (my_lst pa_nil) (nomark _))))), ?_⟩
    walk_at "rd"
    have e1 : ∀ (Q2 : VK), Q2 (.bl true) H → xIsS [.str x, .ty "str"] H Q2 := fun Q2 q => by unfold xIsS; exact ⟨x, rfl, q⟩
    refine e1 _ ?_
    walk_at "rd"
    refine xIf_F rfl ?_
    have hxs : x.length ≤ sizeLine := by rw [sizeLine_eq]; omega
    walk_at "rd"
    refine st_lcS (fun D i H' => W H H' ((D, .lst []) :: L)) w (fun D H' w1 => w1) ?_ ?_
    · intro D i c H' hc w1
      have hsg := hs c (List.mem_of_getElem? hc)
      walk_at "rd"
      rcases hsg with rfl | hsg
      · refine xIf_T (by decide +kernel) ?_
        refine xIf_T rfl ?_
        walk_at "rd"
        refine xIf_F (by decide +kernel) ?_
        walk_at "rd"
        refine xIf_F (by decide +kernel) ?_
        refine xIf_F rfl ?_
        exact w1
      · refine xIf_F (by rw [decide_eq_false_iff_not]; exact fun z => by have := lt_one (b := 32) z; unfold Sgn at hsg; omega) ?_
        walk_at "rd"
        refine xIf_F (by rw [decide_eq_false_iff_not]; exact fun z => by have := lt_one (a := 126) z; unfold Sgn at hsg; omega) ?_
        refine xIf_F rfl ?_
        walk_at "rd"
        by_cases hc36 : 36 < c
        · refine xIf_T (by rw [decide_eq_true_iff]; exact one_lt hc36) ?_
          walk_at "rd"
          refine xIf_F (by rw [decide_eq_false_iff_not]; exact fun z => by have := lt_one (b := 38) z; unfold Sgn at hsg; omega) ?_
          exact w1
        · refine xIf_F (by rw [decide_eq_false_iff_not]; exact fun z => hc36 (lt_one z)) ?_
          refine xIf_F rfl ?_
          exact w1
    intro D H1 w1
    walk_at "rd"
    refine st_new w1 fun l2 H2 w2 => ?_
    refine st_eqS (d := .list []) (.lst (SqL.of (w2.get 1 rfl)) .nil) (.lst (SqL.of (w2.get 0 rfl)) .nil) (sh_list (k := 63) sh_nil) ?_
    exact k _ w2.drop1.drop1
end
end TR

namespace TR
open PySem L2
/-! ### law_k40: two players -/
def poD : PO → PyData
  | .ok n _ => .tuple [.str "found", oD n]
  | .no r => .tuple [.str "refused", .str r.nm]
theorem dp_po {K : PySem.W.Frag} {H : Hp} {q : Addr} {p : PO} (h : H q = some (.tup p.tup)) : Dp K H (.ref q) (poD p) := by
  cases p with
  | ok n s => exact .tup (SqT.of h) (.cons (.str _) (.cons (dp_oV _) .nil))
  | no r => exact dp_refT h
theorem sh_po (p : PO) : Sh 64 (poD p) := by
  cases p with
  | ok n s => exact sh_tup (k := 63) (sh_cons (sh_str (by decide +kernel)) (sh_cons (sh_oD _) sh_nil))
  | no r => exact sh_refT (k := 63)
theorem po_wrong (p : PO) : PyData.eqv (poD p) (.tuple [.str "wrong"]) = false := by
  cases p <;> simp [poD, PyData.eqv, PyData.eqvAll]
theorem Kp.strs {f : Sf} {s : Pl} {b t : Nat} (h : Kp f s b t) (hf : ShOk f) : ∀ x ∈ s.o.q.tunes, PyData.strOk x = true := by
  intro x hx
  obtain ⟨n, hn, _⟩ := h.ok.tn x hx
  have := (hf.1 _ (lookup_mem hn)).lo
  unfold PyData.strOk
  rw [← Array.all_toList, List.all_eq_true]
  intro c hc
  have := this c hc
  exact decide_eq_true (by omega)
theorem AlF.dpY {K : PySem.W.Frag} {f : Sf} {s : Pl} {H : Hp} {t : Addr} {z : AA} {rs xs ax : List V} (h : AlF f s H t z rs xs ax) (is_ : ∀ e ∈ alL z s rs xs ax, H e.1 = some e.2) : Dp K H (.ref t) (allD f s) :=
  h.dp (is_ (z.en, .lst (s.o.q.turn.map V.int)) (List.mem_of_getElem? (i := 0) rfl)) (is_ (z.sn, .lst xs) (List.mem_of_getElem? (i := 1) rfl)) (is_ (z.lo, .lst rs) (List.mem_of_getElem? (i := 2) rfl)) (is_ (z.ah, .lst ax) (List.mem_of_getElem? (i := 3) rfl)) (is_ (z.tu, .lst ((List.range 42).map fun (j : Nat) => tuneV s j)) (List.mem_of_getElem? (i := 4) rfl))
/-- two players, each with its shelf -/
def O2 (A : Ads) (H0 H : Hp) (a1 : PA) (b1 : SA) (s1 : Pl) (f1 : Sf) (a2 : PA) (b2 : SA) (s2 : Pl) (f2 : Sf) (Y R : List Ent) : Prop := ∃ ov2 rs2, OP A H0 H a1 b1 s1 f1 (Y ++ oL A a2 b2 s2 ov2 rs2 f2 R) ∧ PlF H s2 ov2 rs2
@[irreducible] def sp_same (K : PySem.W.Frag) (A : Ads) : Sp := fun vs H Q _ => ∃ (a1 : PA) (b1 : SA) (a2 : PA) (b2 : SA) (s : Pl) (f : Sf) (sa t : Addr) (ns : List Int) (n bb tt : Nat) (R : List Ent), vs = [.ref sa, .ref t, .ref a1.p, .ref a2.p] ∧ Scr K sa ns R ∧ O2 A H H a1 b1 s f a2 b2 s f [(t, .lst (zeros n))] R ∧ n ≤ 7000 ∧ Kp f s bb tt ∧ ShOk f ∧ bb + 12 ≤ 100 ∧ tt + 2400 ≤ 30000 ∧
  ∀ H' a1' a2' s' n', a1'.p = a1.p → a2'.p = a2.p → n' ≤ n + 60 → Kp f s' (bb + 12) (tt + 2400) → O2 A H H' a1' b1 s' f a2' b2 s' f [(t, .lst (zeros n'))] R → Q (.bl true) H'
theorem of_same {K : PySem.W.Frag} {A : Ads} {vs : List V} {H : Hp} {Q : VK} {E : XK} (h :  ∃ (a1 : PA) (b1 : SA) (a2 : PA) (b2 : SA) (s : Pl) (f : Sf) (sa t : Addr) (ns : List Int) (n bb tt : Nat) (R : List Ent), vs = [.ref sa, .ref t, .ref a1.p, .ref a2.p] ∧ Scr K sa ns R ∧ O2 A H H a1 b1 s f a2 b2 s f [(t, .lst (zeros n))] R ∧ n ≤ 7000 ∧ Kp f s bb tt ∧ ShOk f ∧ bb + 12 ≤ 100 ∧ tt + 2400 ≤ 30000 ∧
  ∀ H' a1' a2' s' n', a1'.p = a1.p → a2'.p = a2.p → n' ≤ n + 60 → Kp f s' (bb + 12) (tt + 2400) → O2 A H H' a1' b1 s' f a2' b2 s' f [(t, .lst (zeros n'))] R → Q (.bl true) H') : sp_same K A vs H Q E := by unfold sp_same; exact h
section
variable {P : Program} {w : World} {K : PySem.W.Frag} {mg : Str → Option Value} {base : Heap} {A : Ads}
variable {H0 H : Hp} {a : PA} {b : SA} {s : Pl} {f : Sf} {X : List Ent} {Q : VK} {E : XK} {a1 a2 : PA} {b1 b2 : SA} {s1 s2 : Pl} {f1 f2 : Sf} {Y R : List Ent}
theorem O2.swap (h : O2 A H0 H a1 b1 s1 f1 a2 b2 s2 f2 Y R) : O2 A H0 H a2 b2 s2 f2 a1 b1 s1 f1 Y R := by
  obtain ⟨ov2, rs2, ⟨ov1, rs1, w, g1⟩, g2⟩ := h
  refine ⟨ov1, rs1, ⟨ov2, rs2, w.perm ?_, g2⟩, g1⟩
  have e : ∀ (P1 S1 P2 S2 : List Ent), (P1 ++ (S1 ++ (Y ++ (P2 ++ (S2 ++ R))))).Perm (P2 ++ (S2 ++ (Y ++ (P1 ++ (S1 ++ R))))) := fun P1 S1 P2 S2 => by walk_at "perm"
  exact e _ _ _ _
theorem OP.written {fk : Sf} {bb tt : Nat} (h : OP A H0 H a b s f X) (kp : Kp fk s bb tt) (sh : ShOk fk) (hb : bb ≤ 100) (ht : tt ≤ 30000) (k : ∀ H', OP A H0 H' a b s f X → Tps H H' → Q (.str (textP s)) H') : xCall (sp_written A) [.ref a.p] H Q E := by
  obtain ⟨ov, rs, w, g⟩ := h
  refine st_call (of_written ⟨a, .ref b.q, s, ov, rs, bb + tt, _, rfl, w.now, g, kp.tx sh.1 (by omega), kp.ok.o, by have := kp.few hb; omega, kp.sz, by omega, fun H' w' => ?_⟩)
  exact k H' ⟨ov, rs, w.tr w', g.mono w'.tp⟩ w'.tp
theorem OP.is_ (h : OP A H0 H a b s f X) : ∀ e ∈ X, H e.1 = some e.2 := by
  obtain ⟨ov, rs, w, _⟩ := h
  exact fun e he => w.is_ e (List.mem_append_right _ (List.mem_append_right _ he))
theorem O2.is_ (h : O2 A H0 H a1 b1 s1 f1 a2 b2 s2 f2 Y R) : ∀ e ∈ Y, H e.1 = some e.2 := by
  obtain ⟨_, _, p, _⟩ := h
  exact fun e he => p.is_ e (List.mem_append_left _ he)
theorem O2.cutY {Z : List Ent} (h : O2 A H0 H a1 b1 s1 f1 a2 b2 s2 f2 (Z ++ Y) R) : O2 A H0 H a1 b1 s1 f1 a2 b2 s2 f2 Y R := by
  obtain ⟨ov2, rs2, p, g⟩ := h
  rw [List.append_assoc] at p
  exact ⟨ov2, rs2, p.cut, g⟩
theorem O2.cut1 {x : Ent} (h : O2 A H0 H a1 b1 s1 f1 a2 b2 s2 f2 (x :: Y) R) : O2 A H0 H a1 b1 s1 f1 a2 b2 s2 f2 Y R := O2.cutY (Z := [x]) h
theorem O2.new {o : HO} (h : O2 A H0 H a1 b1 s1 f1 a2 b2 s2 f2 Y R) (k : ∀ p H', O2 A H0 H' a1 b1 s1 f1 a2 b2 s2 f2 ((p, o) :: Y) R → Tps H H' → Q (.ref p) H') : xNew o H Q := by
  obtain ⟨ov2, rs2, p, g⟩ := h
  exact OP.new p fun q H' p' tp => k q H' ⟨ov2, rs2, p', g.mono tp⟩ tp
theorem O2.all1 {bb tt : Nat} (h : O2 A H0 H a1 b1 s1 f1 a2 b2 s2 f2 Y R) (kp : Kp f1 s1 bb tt) (hb : bb ≤ 100) (ht : tt ≤ 30000)
    (k : ∀ H' p z rs xs ax, O2 A H0 H' a1 b1 s1 f1 a2 b2 s2 f2 (alL z s1 rs xs ax ++ Y) R → AlF f1 s1 H' p z rs xs ax → Tps H H' → Q (.ref p) H') : xCall (sp_all A) [.ref a1.p, .int 40] H Q E := by
  obtain ⟨ov2, rs2, p, g⟩ := h
  exact all_at p kp hb ht fun H' q z rs xs ax p' al tp => k H' q z rs xs ax ⟨ov2, rs2, (by rw [List.append_assoc]; exact p'), g.mono tp⟩ al tp
theorem O2.all2 {bb tt : Nat} (h : O2 A H0 H a1 b1 s1 f1 a2 b2 s2 f2 Y R) (kp : Kp f2 s2 bb tt) (hb : bb ≤ 100) (ht : tt ≤ 30000)
    (k : ∀ H' p z rs xs ax, O2 A H0 H' a1 b1 s1 f1 a2 b2 s2 f2 (alL z s2 rs xs ax ++ Y) R → AlF f2 s2 H' p z rs xs ax → Tps H H' → Q (.ref p) H') : xCall (sp_all A) [.ref a2.p, .int 40] H Q E :=
  h.swap.all1 kp hb ht fun H' q z rs xs ax o al tp => k H' q z rs xs ax o.swap al tp
theorem O2.told1 {q : Addr} {c : PC} {bb tt : Nat} (h : O2 A H0 H a1 b1 s1 f1 a2 b2 s2 f2 Y R) (hq : H q = some (.tup c.tup)) (kp : Kp f1 s1 bb tt) (hb : bb ≤ 100) (ht : tt ≤ 30000)
    (k : ∀ H' a' p, a'.p = a1.p → O2 A H0 H' a' b1 ((tellP f1 s1 c).st s1) f1 a2 b2 s2 f2 Y R → H' p = some (.tup (tellP f1 s1 c).tup) → Tps H H' → Q (.ref p) H') : xCall (sp_told A) [.ref a1.p, .ref q] H Q E := by
  obtain ⟨ov2, rs2, p, g⟩ := h
  exact told_at p hq kp hb ht fun H' a' p ea p' tp => k H' a' p ea ⟨ov2, rs2, p'.cut1, g.mono tp⟩ p'.get0 tp
theorem O2.told2 {q : Addr} {c : PC} {bb tt : Nat} (h : O2 A H0 H a1 b1 s1 f1 a2 b2 s2 f2 Y R) (hq : H q = some (.tup c.tup)) (kp : Kp f2 s2 bb tt) (hb : bb ≤ 100) (ht : tt ≤ 30000)
    (k : ∀ H' a' p, a'.p = a2.p → O2 A H0 H' a1 b1 s1 f1 a' b2 ((tellP f2 s2 c).st s2) f2 Y R → H' p = some (.tup (tellP f2 s2 c).tup) → Tps H H' → Q (.ref p) H') : xCall (sp_told A) [.ref a2.p, .ref q] H Q E :=
  h.swap.told1 hq kp hb ht fun H' a' p ea o hp tp => k H' a' p ea o.swap hp tp
theorem O2.written1 {bb tt : Nat} (h : O2 A H0 H a1 b1 s1 f1 a2 b2 s2 f2 Y R) (kp : Kp f1 s1 bb tt) (sh : ShOk f1) (hb : bb ≤ 100) (ht : tt ≤ 30000) (k : ∀ H', O2 A H0 H' a1 b1 s1 f1 a2 b2 s2 f2 Y R → Tps H H' → Q (.str (textP s1)) H') : xCall (sp_written A) [.ref a1.p] H Q E := by
  obtain ⟨ov2, rs2, p, g⟩ := h
  exact p.written kp sh hb ht fun H' p' tp => k H' ⟨ov2, rs2, p', g.mono tp⟩ tp
theorem O2.written2 {bb tt : Nat} (h : O2 A H0 H a1 b1 s1 f1 a2 b2 s2 f2 Y R) (kp : Kp f2 s2 bb tt) (sh : ShOk f2) (hb : bb ≤ 100) (ht : tt ≤ 30000) (k : ∀ H', O2 A H0 H' a1 b1 s1 f1 a2 b2 s2 f2 Y R → Tps H H' → Q (.str (textP s2)) H') : xCall (sp_written A) [.ref a2.p] H Q E :=
  h.swap.written1 kp sh hb ht fun H' o tp => k H' o.swap tp
theorem ok_law_same (T : Txt K mg A) : FnOk P w K mg base (L2.CX P w) 13 A.f_law_same A.d_law_same P_law_same (sp_same K A) := by
  refine T.F_law_same.okX sc_law_same (fun vs H Q E h => ?_) (fun cdv Ar outer s H vs Q E hr h => ?_)
  · unfold sp_same at h; obtain ⟨a1, b1, a2, b2, s, f, sa, t, ns, n, bb, tt, R, rfl, _⟩ := h; rfl
  · unfold sp_same at h; obtain ⟨a1, b1, a2, b2, s, f, sa, t, ns, n, bb, tt, R, rfl, sc, p, hn, kp, sh, hbb, htt, k⟩ := h
    refine ⟨_, (pss_cons (my_for ownE rfl (pi_range1 (by rfl) T.z_range (pa_cons (my_call (ok_law_draw T) (hr.mono (by decide)) (by rfl) T.g_law_draw T.k_law_draw T.b_law_draw passE (pa_cons (pv 0) (pa_cons (pv 1) (pa_cons pe_int pa_nil)))) pa_nil)) (pg_name (i := 4) sc_law_same.nd rfl (by first | exact Or.inl rfl | exact Or.inr rfl))
        (pss_cons (ps_set (i := 5) sc_law_same.nd rfl (by first | exact Or.inl rfl | exact Or.inr rfl) (my_call (ok_law_call T) (hr.mono (by decide)) (by rfl) T.g_law_call T.k_law_call T.b_law_call passE (pa_cons (pv 0) (pa_cons (pv 1) (pa_cons (pv 2) pa_nil)))))
      (pss_cons (ps_set (i := 6) sc_law_same.nd rfl (by first | exact Or.inl rfl | exact Or.inr rfl) (my_call (ok_law_all T) (hr.mono (by decide)) (by rfl) T.g_law_all T.k_law_all T.b_law_all passE (pa_cons (pv 3) (pa_cons pe_int pa_nil))))
      (pss_cons (ps_set (i := 7) sc_law_same.nd rfl (by first | exact Or.inl rfl | exact Or.inr rfl) (my_call (ok_law_told T) (hr.mono (by decide)) (by rfl) T.g_law_told T.k_law_told T.b_law_told passE (pa_cons (pv 2) (pa_cons (pv 5) pa_nil))))
      (pss_cons (my_if (PW.pt (my_or (pt_cmpR (my_neD hr.units) (my_call (ok_law_all T) (hr.mono (by decide)) (by rfl) T.g_law_all T.k_law_all T.b_law_all passE (pa_cons (pv 3) (pa_cons pe_int pa_nil))) (pv 6) (nomark _)) (my_or (pt_cmpR (my_neD hr.units) (my_call (ok_law_told T) (hr.mono (by decide)) (by rfl) T.g_law_told T.k_law_told T.b_law_told passE (pa_cons (pv 3) (pa_cons (pv 5) pa_nil))) (pv 7) (nomark _)) (pw_or1 (pt_cmpR (my_eqD hr.units) (pv 7) (my_tup (pa_cons pe_str pa_nil)) (nomark _))))))
        (pss_one (ps_ret pe_bl))
        pss_nil)
      (pss_one (my_if (PW.pt (my_or (pt_cmpR (my_neD hr.units) (my_call (ok_law_all T) (hr.mono (by decide)) (by rfl) T.g_law_all T.k_law_all T.b_law_all passE (pa_cons (pv 2) (pa_cons pe_int pa_nil))) (my_call (ok_law_all T) (hr.mono (by decide)) (by rfl) T.g_law_all T.k_law_all T.b_law_all passE (pa_cons (pv 3) (pa_cons pe_int pa_nil))) (nomark _)) (pw_or1 (pt_cmpR op_ne (my_call (ok_written T) (hr.mono (by decide)) (by rfl) T.g_written T.k_written T.b_written passE (pa_cons (pv 2) pa_nil)) (my_call (ok_written T) (hr.mono (by decide)) (by rfl) T.g_written T.k_written T.b_written passE (pa_cons (pv 3) pa_nil)) (nomark _)))))
        (pss_one (ps_ret pe_bl))
        pss_nil)))))))
      (pss_one (ps_ret pe_bl))), ?_⟩
    obtain ⟨ov2, rs2, p, g2⟩ := p
    obtain ⟨ov, rs, w, g⟩ := p
    walk_at "rd"
    refine OP.draw ⟨ov, rs, w, g⟩ (by walk_at "scr") (by omega) (by decide) fun H1 p1 tp1 d0 d1 => ?_
    clear w g
    replace g2 := g2.mono tp1
    generalize drawP ns n 13 = kk at *
    obtain ⟨ov, rs, w, g⟩ := p1
    walk_at "rd"
    refine st_forR (fun i σ H' => ∃ (u1 u2 u3 u4 : Option V) (s' : Pl) (c1 c2 : PA) (n' : Nat), σ = [some (.ref sa), some (.ref t), some (.ref a1.p), some (.ref a2.p), u1, u2, u3, u4] ∧ c1.p = a1.p ∧ c2.p = a2.p ∧ Kp f s' (bb + i) (tt + 200 * i) ∧ n' ≤ n + 1 + 4 * i ∧ O2 A H H' c1 b1 s' f c2 b2 s' f [(t, .lst (zeros n'))] R)
      ⟨none, none, none, none, s, a1, a2, n + 1, rfl, rfl, rfl, kp, by omega, ⟨ov2, rs2, ⟨ov, rs, w, g⟩, g2⟩⟩ ?_ ?_
    · clear w g kp g2
      rintro i σ H' hi ⟨u1, u2, u3, u4, s', c1, c2, n', rfl, ec1, ec2, kp, hn', o2⟩
      have hi12 : i < 12 := by omega
      rw [← ec1, ← ec2]
      obtain ⟨ov2, rs2, p2, g2⟩ := o2
      walk_at "rd"
      refine call_at p2 (by walk_at "scr") (by omega) kp.ok.o.q.sz fun H2 q c n2 hn2 p3 hq tp2 => ?_
      have o3 : O2 A H H2 c1 b1 s' f c2 b2 s' f [(t, .lst (zeros n2))] R := ⟨ov2, rs2, p3, g2.mono tp2⟩
      clear p2 p3 g2
      have st64 := sh_allD (f := f) (kp.strs sh)
      walk_at "rd"
      refine o3.all2 kp (by omega) (by omega) fun H3 q3 z3 rs3 xs3 ax3 o4 al3 tp3 => ?_
      clear o3
      walk_at "rd"
      refine o4.told1 (tp3 _ _ hq) kp (by omega) (by omega) fun H4 c4 q4 ec4 o5 h4 tp4 => ?_
      clear o4
      walk_at "rd"
      refine o5.all2 kp (by omega) (by omega) fun H5 q5 z5 rs5 xs5 ax5 o6 al5 tp5 => ?_
      clear o5
      walk_at "rd"
      refine st_neS (al5.dpY fun e he => o6.is_ e (List.mem_append_left _ he)) (((al3.mono tp4).mono tp5).dpY fun e he => o6.is_ e (List.mem_append_right _ (List.mem_append_left _ he))) st64 ?_
      walk_at "rd"
      refine xIf_F rfl ?_
      have o7 := o6.cutY.cutY
      clear o6 al3 al5
      walk_at "rd"
      refine o7.told2 (tp5 _ _ (tp4 _ _ (tp3 _ _ hq))) kp (by omega) (by omega) fun H6 c6 q6 ec6 o8 h6 tp6 => ?_
      clear o7
      replace h4 := tp6 _ _ (tp5 _ _ h4)
      walk_at "rd"
      refine st_neS (dp_po h6) (dp_po h4) (sh_po _) ?_
      walk_at "rd"
      refine xIf_F rfl ?_
      walk_at "rd"
      refine o8.new fun q7 H7 o9 tp7 => ?_
      walk_at "rd"
      refine st_eqD (dp_po (tp7 _ _ h4)) (.tup (SqT.of (o9.is_ _ List.mem_cons_self)) (.cons (.str _) .nil)) (sh_po _) (sh_tup (k := 63) (sh_cons (sh_str (by decide +kernel)) sh_nil)) ?_
      rw [po_wrong]
      walk_at "rd"
      refine xIf_F rfl ?_
      replace o9 := o9.cut1
      clear o8 h4 h6 st64
      have kp' := kp.tell sh (by omega) c
      generalize (tellP f s' c).st s' = s2 at *
      clear kp
      replace kp' : Kp f s2 (bb + (i + 1)) (tt + 200 * (i + 1)) := kp'.mono (by omega) (by omega)
      rw [← ec4, ← ec6]
      walk_at "rd"
      refine o9.all1 kp' (by omega) (by omega) fun H8 q8 z8 rs8 xs8 ax8 oA al8 tp8 => ?_
      walk_at "rd"
      refine oA.all2 kp' (by omega) (by omega) fun H9 qB zB rsB xsB axB oB alB tpB => ?_
      walk_at "rd"
      refine st_neS ((al8.mono tpB).dpY fun e he => oB.is_ e (List.mem_append_right _ (List.mem_append_left _ he))) (alB.dpY fun e he => oB.is_ e (List.mem_append_left _ he)) (sh_allD (kp'.strs sh)) ?_
      walk_at "rd"
      refine xIf_F rfl ?_
      have oC := oB.cutY.cutY
      clear oA oB o9 al8 alB
      walk_at "rd"
      refine oC.written1 kp' sh (by omega) (by omega) fun HD oD tpD => ?_
      walk_at "rd"
      refine oD.written2 kp' sh (by omega) (by omega) fun HE oE tpE => ?_
      walk_at "rd"
      refine xIf_F (by rw [decide_eq_true rfl]; rfl) ?_
      exact ⟨_, _, _, _, s2, c4, c6, n2, rfl, rfl, rfl, kp', by omega, oE⟩
    · clear w g kp g2
      rintro σ H' ⟨u1, u2, u3, u4, s', c1, c2, n', rfl, ec1, ec2, kp, hn', o2⟩
      walk_at "rd"
      exact k _ c1 c2 s' n' ec1 ec2 (by omega) (kp.mono (by omega) (by omega)) o2
end
end TR

namespace TR
open PySem L2
/-! ### law_k40 -/
theorem lookup_app {f : Sf} {y : Str} {m : Int} : ∀ {x : Str} {n : Int}, f.lookup x = some n → (f ++ [(y, m)]).lookup x = some n := by
  intro x n h
  rw [List.lookup_append, h]
  rfl
theorem TnOk.app {f : Sf} {o : Or} {y : Str} {m : Int} (h : TnOk f o) : TnOk (f ++ [(y, m)]) o := fun x hx => by
  obtain ⟨n, hn, h2⟩ := h x hx
  exact ⟨n, lookup_app hn, h2⟩
theorem Kp.app {f : Sf} {s : Pl} {b t : Nat} {y : Str} {m : Int} (h : Kp f s b t) : Kp (f ++ [(y, m)]) s b t := by
  refine ⟨⟨h.ok.o, h.ok.ov, h.ok.tn.app, fun n hn => ?_, h.ok.n0, h.ok.od, h.ok.sn, h.ok.ps, h.ok.sl⟩, h.nb, h.bd, h.sz⟩
  have h1 := h.ok.nw n hn
  have e : longO (f ++ [(y, m)]) s.o n = longO f s.o n := by
    have := (h.ok.tn.kn h1.1).lk
    unfold longO
    rw [lookup_app this, this]
  rw [e]
  exact h1
theorem more5 {f : Sf} (hk : f.map (·.1) = names5) : f.lookup ("more" : Str) = none := by
  rw [List.lookup_eq_none_iff]
  intro q hq
  have h1 : q.1 ∈ names5 := by rw [← hk]; exact List.mem_map_of_mem hq
  have h2 : ∀ x ∈ names5, (("more" : Str) == x) = false := by decide +kernel
  simpa using h2 q.1 h1
theorem len5 {f : Sf} (hk : f.map (·.1) = names5) : f.length = 5 := by
  have := congrArg List.length hk
  rw [List.length_map] at this
  exact this
theorem okN_more : okN "more" = true ∧ ("more" : Str).length < 1000 := by decide +kernel
theorem more_got {f : Sf} (hk : f.map (·.1) = names5) : (f ++ [(("more" : Str), (7 : Int))]).lookup ("more" : Str) = some 7 := by
  rw [List.lookup_append, more5 hk]
  rfl
section
variable {P : Program} {w : World} {K : PySem.W.Frag} {mg : Str → Option Value} {base : Heap} {A : Ads}
variable {H0 H : Hp} {a : PA} {b : SA} {s : Pl} {f : Sf} {X : List Ent} {Q : VK} {E : XK} {a1 a2 : PA} {b1 b2 : SA} {s1 s2 : Pl} {f1 f2 : Sf} {Y R : List Ent}
theorem O2.frame (h : O2 A H0 H a1 b1 s1 f1 a2 b2 s2 f2 Y R) : ∃ L, W H0 H L ∧ ∀ H', W H H' L → O2 A H0 H' a1 b1 s1 f1 a2 b2 s2 f2 Y R := by
  obtain ⟨ov2, rs2, ⟨ov, rs, w, g⟩, g2⟩ := h
  exact ⟨_, w, fun H' w' => ⟨ov2, rs2, ⟨ov, rs, w.tr w', g.mono w'.tp⟩, g2.mono w'.tp⟩⟩
theorem O2.now' (h : O2 A H0 H a1 b1 s1 f1 a2 b2 s2 f2 Y R) : O2 A H H a1 b1 s1 f1 a2 b2 s2 f2 Y R := let ⟨ov2, rs2, p, g⟩ := h; ⟨ov2, rs2, p.now', g⟩
theorem O2.tr' {H1 H2 : Hp} {a3 a4 : PA} {b3 b4 : SA} {s3 s4 : Pl} {f3 f4 : Sf} {Y2 R2 : List Ent} (h : O2 A H0 H1 a1 b1 s1 f1 a2 b2 s2 f2 Y R) (k : O2 A H1 H2 a3 b3 s3 f3 a4 b4 s4 f4 Y2 R2) : O2 A H0 H2 a3 b3 s3 f3 a4 b4 s4 f4 Y2 R2 := let ⟨_, _, p, _⟩ := h; let ⟨ov2, rs2, q, g⟩ := k; ⟨ov2, rs2, p.tr' q, g⟩
theorem OP.rest (h : OP A H0 H a b s f X) : W H0 H X := by
  obtain ⟨ov, rs, w, _⟩ := h
  exact w.dropL.dropL
theorem told_no {q : Addr} {c : PC} {r : Rf} {bb tt : Nat} (h : OP A H0 H a b s f X) (hq : H q = some (.tup c.tup)) (kp : Kp f s bb tt) (hb : bb ≤ 100) (ht : tt ≤ 30000) (hr : tellP f s c = .no r)
    (k : ∀ H' a' p, a'.p = a.p → OP A H0 H' a' b s f X → H' p = some (.tup (refT r)) → Tps H H' → Q (.ref p) H') : xCall (sp_told A) [.ref a.p, .ref q] H Q E :=
  told_at h hq kp hb ht fun H' a' p ea p' tp => by
    rw [hr] at p'
    exact k H' a' p ea p'.cut1 p'.get0 tp
theorem wake_at {L : List Ent} {v : V} {bb tt : Nat} (w : W H0 H L) (kp : Kp f s bb tt) (sh : ShOk f) (hb : bb ≤ 100) (ht : tt ≤ 30000) (k : ∀ H' a ov rs, W H0 H' (plL A a v s ov rs ++ L) → PlF H' s ov rs → Tps H H' → Q (.ref a.p) H') : xCall (sp_woken A) [v, .str (textP s)] H Q E :=
  st_call (of_woken ⟨v, s, bb + tt, L, rfl, w.now, kp.tx sh.1 (by omega), kp.ok.o, kp.ok.ov, kp.sz, by omega, fun H' a ov rs w' g => k H' a ov rs (w.tr w') g w'.tp⟩)
theorem shelf_at {lg : Addr} (w : W H0 H ((lg, .dK (sfK f)) :: X)) (hf : Full5 f) (hk : f.map (·.1) = names5) (k : ∀ H' b, W H0 H' (sL A b f ++ ((lg, .dK (sfK f)) :: X)) → Tps H H' → Q (.ref b.q) H') : xCall (sp_shelf5 A) [.ref lg] H Q E :=
  st_call (of_shelf5 ⟨lg, f, X, rfl, w.now, hf, hk, fun H' b w' => k H' b (w.tr w') w'.tp⟩)
theorem text_len {bb tt : Nat} (kp : Kp f s bb tt) (sh : ShOk f) (hb : bb ≤ 100) (ht : tt ≤ 30000) : (textP s).length ≤ 16000000 := by
  have h1 := kp.few hb
  have h2 := kp.ok.o.q.sz
  have tx := kp.tx sh.1 (by omega)
  have hd : s.o.deck.length ≤ 12 := Nat.le_trans (nodup_len kp.ok.o.nd kp.ok.o.sub) h2
  have := tx.len (N := 40000) (kp.sz.mono (by omega)) (by omega) (by omega) (by omega) (by omega)
  omega
theorem ok_law (T : Txt K mg A) : FnOk P w K mg base (L2.CX P w) 14 A.f_law A.d_law P_law (sp_law K) := by
  refine T.F_law.okX sc_law (fun vs H Q E h => ?_) (fun cdv Ar outer s H vs Q E hr h => ?_)
  · unfold sp_law at h; obtain ⟨a, ns, R, rfl, _⟩ := h; rfl
  · unfold sp_law at h; obtain ⟨sa, ns, R, rfl, sc, w, hl, k⟩ := h
    refine ⟨_, (pss_cons (ps_set (i := 1) sc_law.nd rfl (by first | exact Or.inl rfl | exact Or.inr rfl) (my_lst pa_nil))
      (pss_cons (ps_set (i := 2) sc_law.nd rfl (by first | exact Or.inl rfl | exact Or.inr rfl) my_dnew)
      (pss_cons (my_for ownE rfl (pi_list (my_lst (pa_cons pe_str (pa_cons pe_str (pa_cons pe_str (pa_cons pe_str (pa_cons pe_str pa_nil))))))) (pg_name (i := 3) sc_law.nd rfl (by first | exact Or.inl rfl | exact Or.inr rfl))
        (pss_one (my_dput (hu_of hr) (pv 2) (pv 3) (pe_op op_add pe_int (my_call (ok_law_draw T) (hr.mono (by decide)) (by rfl) T.g_law_draw T.k_law_draw T.b_law_draw passE (pa_cons (pv 0) (pa_cons (pv 1) (pa_cons (my_call (ok_law_pick T) (hr.mono (by decide)) (by rfl) T.g_law_pick T.k_law_pick T.b_law_pick passE (pa_cons (pv 0) (pa_cons (pv 1) (pa_cons (my_lst (pa_cons pe_int (pa_cons pe_int (pa_cons pe_int pa_nil)))) pa_nil)))) pa_nil))))))))
      (pss_cons (ps_set (i := 4) sc_law.nd rfl (by first | exact Or.inl rfl | exact Or.inr rfl) (my_call (ok_law_begun T) (hr.mono (by decide)) (by rfl) T.g_law_begun T.k_law_begun T.b_law_begun passE (pa_cons (pv 0) (pa_cons (pv 1) (pa_cons (pv 2) pa_nil)))))
      (pss_cons (my_for ownE rfl (pi_range1 (by rfl) T.z_range (pa_cons (pe_op op_add pe_int (my_call (ok_law_draw T) (hr.mono (by decide)) (by rfl) T.g_law_draw T.k_law_draw T.b_law_draw passE (pa_cons (pv 0) (pa_cons (pv 1) (pa_cons pe_int pa_nil))))) pa_nil)) (pg_name (i := 5) sc_law.nd rfl (by first | exact Or.inl rfl | exact Or.inr rfl))
        (pss_cons (ps_expr (my_call (ok_law_led T) (hr.mono (by decide)) (by rfl) T.g_law_led T.k_law_led T.b_law_led passE (pa_cons (pv 0) (pa_cons (pv 1) (pa_cons (pv 4) pa_nil)))))
      (pss_cons (ps_set (i := 6) sc_law.nd rfl (by first | exact Or.inl rfl | exact Or.inr rfl) (my_call (ok_law_all T) (hr.mono (by decide)) (by rfl) T.g_law_all T.k_law_all T.b_law_all passE (pa_cons (pv 4) (pa_cons pe_int pa_nil))))
      (pss_cons (ps_set (i := 7) sc_law.nd rfl (by first | exact Or.inl rfl | exact Or.inr rfl) (my_call (ok_written T) (hr.mono (by decide)) (by rfl) T.g_written T.k_written T.b_written passE (pa_cons (pv 4) pa_nil)))
      (pss_cons (ps_set (i := 8) sc_law.nd rfl (by first | exact Or.inl rfl | exact Or.inr rfl) (my_call (ok_law_shelf T) (hr.mono (by decide)) (by rfl) T.g_law_shelf T.k_law_shelf T.b_law_shelf passE (pa_cons (pv 2) pa_nil)))
      (pss_cons (ps_set (i := 9) sc_law.nd rfl (by first | exact Or.inl rfl | exact Or.inr rfl) (my_call (ok_woken T) (hr.mono (by decide)) (by rfl) T.g_woken T.k_woken T.b_woken passE (pa_cons (pv 8) (pa_cons (pv 7) pa_nil))))
      (pss_cons (my_if (PW.pt (my_or (pt_not (pt_val (my_call (ok_law_is_text T) (hr.mono (by decide)) (by rfl) T.g_law_is_text T.k_law_is_text T.b_law_is_text passE (pa_cons (pv 7) pa_nil)))) (my_or (pt_cmpR (my_neD hr.units) (my_call (ok_law_all T) (hr.mono (by decide)) (by rfl) T.g_law_all T.k_law_all T.b_law_all passE (pa_cons (pv 4) (pa_cons pe_int pa_nil))) (pv 6) (nomark _)) (pw_or1 (pt_cmpR (my_neD hr.units) (my_call (ok_law_all T) (hr.mono (by decide)) (by rfl) T.g_law_all T.k_law_all T.b_law_all passE (pa_cons (pv 9) (pa_cons pe_int pa_nil))) (pv 6) (nomark _))))))
        (pss_one (ps_ret pe_bl))
        pss_nil)
      (pss_cons (my_if (PW.pt (my_or (pt_cmpR op_ne (my_call (ok_written T) (hr.mono (by decide)) (by rfl) T.g_written T.k_written T.b_written passE (pa_cons (pv 9) pa_nil)) (pv 7) (nomark _)) (my_or (pt_cmpR op_ne (my_call (ok_written T) (hr.mono (by decide)) (by rfl) T.g_written T.k_written T.b_written passE (pa_cons (pv 4) pa_nil)) (pv 7) (nomark _)) (pw_or1 (pt_not (pt_val (my_call (ok_law_same T) (hr.mono (by decide)) (by rfl) T.g_law_same T.k_law_same T.b_law_same passE (pa_cons (pv 0) (pa_cons (pv 1) (pa_cons (pv 4) (pa_cons (pv 9) pa_nil)))))))))))
        (pss_one (ps_ret pe_bl))
        pss_nil)
      (pss_cons (ps_expr (my_meth (pv 8) T.c_Shelf T.m_Shelf_add (ok_Shelf_add T) (hr.mono (by decide)) T.b_Shelf_add passE (pa_cons pe_str (pa_cons pe_int pa_nil))))
      (pss_cons (ps_set (i := 10) sc_law.nd rfl (by first | exact Or.inl rfl | exact Or.inr rfl) (my_call (ok_woken T) (hr.mono (by decide)) (by rfl) T.g_woken T.k_woken T.b_woken passE (pa_cons (pv 8) (pa_cons (my_call (ok_written T) (hr.mono (by decide)) (by rfl) T.g_written T.k_written T.b_written passE (pa_cons (pv 9) pa_nil)) pa_nil))))
      (pss_cons (my_if (pt_cmpR (my_neD hr.units) (my_call (ok_law_told T) (hr.mono (by decide)) (by rfl) T.g_law_told T.k_law_told T.b_law_told passE (pa_cons (pv 4) (pa_cons (my_tup (pa_cons pe_str (pa_cons pe_str (pa_cons pe_int pa_nil)))) pa_nil))) (my_tup (pa_cons pe_str (pa_cons pe_str pa_nil))) (nomark _))
        (pss_one (ps_ret pe_bl))
        pss_nil)
      (pss_cons (my_if (pt_cmpR (my_neD hr.units) (my_call (ok_law_told T) (hr.mono (by decide)) (by rfl) T.g_law_told T.k_law_told T.b_law_told passE (pa_cons (pv 10) (pa_cons (my_tup (pa_cons pe_str (pa_cons pe_str (pa_cons pe_int pa_nil)))) pa_nil))) (my_tup (pa_cons pe_str (pa_cons pe_str pa_nil))) (nomark _))
        (pss_one (ps_ret pe_bl))
        pss_nil)
      (pss_one (ps_set (i := 4) sc_law.nd rfl (by first | exact Or.inl rfl | exact Or.inr rfl) (my_call (ok_woken T) (hr.mono (by decide)) (by rfl) T.g_woken T.k_woken T.b_woken passE (pa_cons (my_call (ok_law_shelf T) (hr.mono (by decide)) (by rfl) T.g_law_shelf T.k_law_shelf T.b_law_shelf passE (pa_cons (pv 2) pa_nil)) (pa_cons (my_call (ok_written T) (hr.mono (by decide)) (by rfl) T.g_written T.k_written T.b_written passE (pa_cons (pv 9) pa_nil)) pa_nil)))))))))))))))))
      (pss_one (ps_ret pe_bl))))))), ?_⟩
    walk_at "rd"
    refine st_new w fun t H1 w1 => ?_
    have w1 : W H H1 ((t, .lst (zeros 0)) :: R) := w1
    walk_at "rd"
    refine st_new w1 fun lg H2 w2 => ?_
    walk_at "rd"
    refine st_new w2 fun nl H3 w3 => ?_
    clear w w1 w2
    walk_at "rd"
    refine st_forL (xs := names5.map V.str) (fun i σ H' => ∃ (f : Sf) (u : Option V), σ = [some (.ref sa), some (.ref t), some (.ref lg), u, none, none, none, none, none, none, none] ∧ f.map (·.1) = names5.take i ∧ (∀ q ∈ f, 1 ≤ q.2 ∧ q.2 ≤ 40) ∧ W H H' ((nl, .lst (names5.map V.str)) :: (lg, .dK (sfK f)) :: (t, .lst (zeros (0 + 2 * i))) :: R))
      ⟨[], none, rfl, rfl, (fun _ z => nomatch z), w3⟩ (fun i σ H' _ ⟨f, u, _, _, _, w3⟩ => SqL.of (w3.get 0 rfl)) ?_ ?_
    · clear w3
      rintro i x σ H' hx ⟨f, u, rfl, hf, hb, w3⟩
      have hi : i < 5 := by have := (List.getElem?_eq_some_iff.mp hx).1; exact this
      obtain ⟨nm, hnm⟩ : ∃ nm, names5[i]? = some nm := ⟨_, List.getElem?_eq_getElem (show i < names5.length from hi)⟩
      rw [List.getElem?_map, hnm] at hx
      cases hx
      have hnone : f.lookup nm = none := by
        rw [List.lookup_eq_none_iff]
        intro q hq
        have h1 : q.1 ∈ names5.take i := by rw [← hf]; exact List.mem_map_of_mem hq
        have h2 : nm ∉ names5.take i := by
          have : names5.Nodup := by decide +kernel
          intro z
          obtain ⟨j, hj⟩ := List.getElem?_of_mem z
          rw [List.getElem?_take] at hj
          split at hj
          · rename_i hji
            have := nd_get this hj hnm
            omega
          · cases hj
        have hne : nm ≠ q.1 := fun z => h2 (by rw [z]; exact h1)
        simp [hne]
      walk_at "rd"
      refine st_new w3 fun l3 H3 w4 => ?_
      walk_at "rd"
      refine pick_at w4 3 0 rfl rfl (by walk_at "scr") (by omega) (fun z => nomatch z) fun H4 v w5 hv _ => ?_
      have hv2 := pick_map (l := [(3 : Int), 12, 40]) (g := V.int) 3 hv
      obtain ⟨m, hm, hm0, hm1⟩ : ∃ m : Int, v = .int m ∧ 1 ≤ m ∧ m ≤ 40 := by
        have gen : ∀ j : Nat, 1 ≤ [(3 : Int), 12, 40].getD j 3 ∧ [(3 : Int), 12, 40].getD j 3 ≤ 40 := fun j => match j with
          | 0 => by decide
          | 1 => by decide
          | 2 => by decide
          | j + 3 => ⟨by show (1 : Int) ≤ 3; decide, by show (3 : Int) ≤ 40; decide⟩
        exact ⟨_, hv2, gen _⟩
      subst hm
      refine draw_at w5 3 rfl (by walk_at "scr") (by omega) (by omega) fun H5 w6 d0 d1 => ?_
      walk_at "rd"
      refine st_dput w6 2 (key := Sum.inr nm) rfl rfl (by rw [sfK_len]; have := congrArg List.length hf; rw [List.length_map, List.length_take] at this; exact szL (by omega)) fun H6 w7 => ?_
      rw [sfK_put hnone] at w7
      refine ⟨f ++ [(nm, 1 + drawP ns (0 + 2 * i + 1) m)], _, rfl, ?_, ?_, ?_⟩
      · rw [List.map_append, hf, List.take_succ, hnm]; rfl
      · intro q hq
        rcases List.mem_append.mp hq with z | z
        · exact hb q z
        · rw [List.mem_singleton.mp z]
          show 1 ≤ 1 + drawP ns (0 + 2 * i + 1) m ∧ 1 + drawP ns (0 + 2 * i + 1) m ≤ 40
          omega
      · have w8 : W H H6 ((nl, .lst (names5.map V.str)) :: (lg, .dK (sfK (f ++ [(nm, 1 + drawP ns (0 + 2 * i + 1) m)]))) :: (t, .lst (zeros (0 + 2 * i + 1 + 1))) :: R) := W.drop1 w7
        rw [show 0 + 2 * (i + 1) = 0 + 2 * i + 1 + 1 by omega]
        exact w8
    · clear w3
      rintro σ H' ⟨f, u, rfl, hk, hb, w3⟩
      replace hk : f.map (·.1) = names5 := hk
      have hf : Full5 f := by
        intro x hx
        rw [← hk] at hx
        cases hl : f.lookup x with
        | none =>
          exfalso
          obtain ⟨q, hq, e⟩ := List.mem_map.mp hx
          have := (List.lookup_eq_none_iff.mp hl) q hq
          rw [← e] at this
          simp at this
        | some m => exact ⟨m, rfl, hb _ (lookup_mem hl)⟩
      have sh := shOk5 hf hk
      replace w3 : W H H' ((t, .lst (zeros 10)) :: (lg, .dK (sfK f)) :: R) := w3.pick 3 [2, 1]
      clear hb
      walk_at "rd"
      refine st_call (of_begun ⟨sa, t, lg, ns, 10, f, R, rfl, sc, w3.now, by decide, hf, hk, fun H4 a4 b4 s4 n4 hn4 kp4 p4 => ?_⟩)
      replace p4 : OP A H H4 a4 b4 s4 f ((t, .lst (zeros n4)) :: (lg, .dK (sfK f)) :: R) := let ⟨ov, rs, w, g⟩ := p4; ⟨ov, rs, w3.tr w, g⟩
      clear w3
      walk_at "rd"
      refine OP.draw p4 (by walk_at "scr") (by omega) (by decide) fun H5 p5 _ d0 d1 => ?_
      clear p4
      generalize drawP ns n4 3 = kk at *
      walk_at "rd"
      refine st_forR (fun i σ H' => ∃ (u3 u5 u6 u7 u8 u9 u10 : Option V) (a : PA) (b : SA) (s : Pl) (n : Nat), σ = [some (.ref sa), some (.ref t), some (.ref lg), u3, some (.ref a.p), u5, u6, u7, u8, u9, u10] ∧ Kp f s (8 + 22 * i) (4300 * i) ∧ n ≤ 51 + 120 * i ∧ OP A H H' a b s f ((t, .lst (zeros n)) :: (lg, .dK (sfK f)) :: R))
        ⟨_, none, none, none, none, none, none, a4, b4, s4, n4 + 1, rfl, kp4, by omega, p5⟩ ?_ ?_
      · clear p5 kp4
        rintro i σ H' hi ⟨u3, u5, u6, u7, u8, u9, u10, a, b, s, n, rfl, kp, hn, p⟩
        have hi3 : i < 3 := by omega
        walk_at "rd"
        refine st_call (of_led ⟨a, b, f, s, sa, t, ns, n, 8 + 22 * i, 4300 * i, (lg, .dK (sfK f)) :: R, rfl, by walk_at "scr", p.now', by omega, kp, sh, by omega, by omega, fun H1 a1 s1 n1 ea1 hn1 kp1 p1 => ?_⟩)
        replace p1 := p.tr' p1
        clear p kp
        rw [← ea1]
        replace hn1 : n1 ≤ 111 + 120 * i := by omega
        clear hn ea1
        walk_at "rd"
        refine all_at p1 kp1 (by omega) (by omega) fun H2 q2 z2 rs2 xs2 ax2 p2 al2 _ => ?_
        clear p1
        walk_at "rd"
        refine p2.written kp1 sh (by omega) (by omega) fun H3 p3 tp3 => ?_
        replace al2 := al2.mono tp3
        clear p2
        walk_at "rd"
        obtain ⟨ov1, rs1, w, g1⟩ := p3
        replace w : W H H3 ((lg, .dK (sfK f)) :: (plL A a1 (.ref b.q) s1 ov1 rs1 ++ (sL A b f ++ (alL z2 s1 rs2 xs2 ax2 ++ ((t, .lst (zeros n1)) :: R))))) := w.perm (by
          have e : ∀ (P S Z : List Ent) (x y : Ent), (P ++ (S ++ (Z ++ (x :: y :: R)))).Perm (y :: (P ++ (S ++ (Z ++ (x :: R))))) := fun P S Z x y => by walk_at "perm"
          exact e _ _ _ _ _)
        refine shelf_at w hf hk fun H4 b2 w4 tp4 => ?_
        clear w
        walk_at "rd"
        refine wake_at w4 kp1 sh (by omega) (by omega) fun H5 a2 ov2 rsW w5 g2 tp5 => ?_
        replace al2 := (al2.mono tp4).mono tp5
        have o : O2 A H H5 a1 b s1 f a2 b2 s1 f (alL z2 s1 rs2 xs2 ax2 ++ [(t, .lst (zeros n1))]) ((lg, .dK (sfK f)) :: R) := ⟨ov2, rsW, ⟨ov1, rs1, w5.perm (by
          have e : ∀ (P1 S1 Z P2 S2 : List Ent) (x y : Ent), (P2 ++ (S2 ++ (y :: (P1 ++ (S1 ++ (Z ++ (x :: R))))))).Perm (P1 ++ (S1 ++ ((Z ++ [x]) ++ (P2 ++ (S2 ++ (y :: R)))))) := fun P1 S1 Z P2 S2 x y => by walk_at "perm"
          exact e _ _ _ _ _ _ _), (g1.mono tp4).mono tp5⟩, g2⟩
        clear w4 w5 g1 g2 tp3 tp4 tp5
        walk_at "rd"
        have tx := kp1.tx sh.1 (by omega)
        obtain ⟨L, w, back⟩ := o.frame
        refine st_call (of_is_text ⟨_, L, rfl, w.now, text_len kp1 sh (by omega) (by omega), tx.signs, fun H6 w6 => ?_⟩)
        replace al2 := al2.mono w6.tp
        have o6 := back _ w6
        clear back w w6 o tx
        walk_at "rd"
        refine xIf_F rfl ?_
        walk_at "rd"
        have st64 := sh_allD (f := f) (kp1.strs sh)
        refine o6.all1 kp1 (by omega) (by omega) fun H7 q7 z7 rs7 xs7 ax7 o7 al7 tp7 => ?_
        replace al2 := al2.mono tp7
        clear o6
        walk_at "rd"
        refine st_neS (al7.dpY fun e he => o7.is_ e (List.mem_append_left _ he)) (al2.dpY fun e he => o7.is_ e (List.mem_append_right _ (List.mem_append_left _ he))) st64 ?_
        walk_at "rd"
        refine xIf_F rfl ?_
        replace o7 := o7.cutY
        clear al7
        walk_at "rd"
        refine o7.all2 kp1 (by omega) (by omega) fun H8 q8 z8 rs8 xs8 ax8 o8 al8 tp8 => ?_
        replace al2 := al2.mono tp8
        clear o7
        walk_at "rd"
        refine st_neS (al8.dpY fun e he => o8.is_ e (List.mem_append_left _ he)) (al2.dpY fun e he => o8.is_ e (List.mem_append_right _ (List.mem_append_left _ he))) st64 ?_
        walk_at "rd"
        refine xIf_F rfl ?_
        replace o8 := o8.cutY.cutY
        clear al8 al2 st64
        walk_at "rd"
        refine o8.written2 kp1 sh (by omega) (by omega) fun H9 o9 _ => ?_
        clear o8
        walk_at "rd"
        refine xIf_F (by rw [decide_eq_true rfl]; rfl) ?_
        walk_at "rd"
        refine o9.written1 kp1 sh (by omega) (by omega) fun H10 oA _ => ?_
        clear o9
        walk_at "rd"
        refine xIf_F (by rw [decide_eq_true rfl]; rfl) ?_
        walk_at "rd"
        obtain ⟨L, w, back⟩ := oA.frame
        refine st_call (of_same ⟨a1, b, a2, b2, s1, f, sa, t, ns, n1, 8 + 22 * i + 10, 4300 * i + 1900, (lg, .dK (sfK f)) :: R, rfl, by walk_at "scr", oA.now', by omega, kp1, sh, by omega, by omega, fun H11 a3 a5 s3 n3 ea3 ea5 hn3 kp3 oB => ?_⟩)
        replace oB := oA.tr' oB
        clear oA kp1 back w
        rw [← ea3, ← ea5]
        replace hn3 : n3 ≤ 171 + 120 * i := by omega
        clear hn1 ea3 ea5
        walk_at "rd"
        refine xIf_F rfl ?_
        obtain ⟨ov2, rs2, ⟨ov1, rs1, w, g1⟩, g2⟩ := oB
        replace w : W H H11 (sL A b2 f ++ (plL A a5 (.ref b2.q) s3 ov2 rs2 ++ (plL A a3 (.ref b.q) s3 ov1 rs1 ++ (sL A b f ++ ((t, .lst (zeros n3)) :: (lg, .dK (sfK f)) :: R))))) := w.perm (by
          have e : ∀ (P1 S1 P2 S2 : List Ent) (x y : Ent), (P1 ++ (S1 ++ ([x] ++ (P2 ++ (S2 ++ (y :: R)))))).Perm (S2 ++ (P2 ++ (P1 ++ (S1 ++ (x :: y :: R))))) := fun P1 S1 P2 S2 x y => by walk_at "perm"
          exact e _ _ _ _ _ _)
        walk_at "rd"
        refine st_call (of_Shelf_add ⟨b2, f, "more", 7, _, rfl, w.now, okN_more.2, by rw [len5 hk]; decide, fun _ _ _ _ H12 w12 => ?_, fun z => absurd ⟨okN_more.1, more5 hk, by rw [len5 hk]; decide⟩ z, fun _ _ _ z => absurd ⟨by decide, by decide⟩ z⟩)
        replace kp3 : Kp f s3 (8 + 22 * (i + 1)) (4300 * (i + 1)) := kp3.mono (by omega) (by omega)
        have kpM : Kp (f ++ [(("more" : Str), (7 : Int))]) s3 (8 + 22 * (i + 1)) (4300 * (i + 1)) := kp3.app
        have hM := more_got hk
        generalize f ++ [(("more" : Str), (7 : Int))] = f2 at *
        have p12 : OP A H H12 a5 b2 s3 f2 (plL A a3 (.ref b.q) s3 ov1 rs1 ++ (sL A b f ++ ((t, .lst (zeros n3)) :: (lg, .dK (sfK f)) :: R))) := ⟨ov2, rs2, (w.tr w12).perm (by
          have e : ∀ (P2 S2 Z : List Ent), (S2 ++ (P2 ++ Z)).Perm (P2 ++ (S2 ++ Z)) := fun P2 S2 Z => by walk_at "perm"
          exact e _ _ _), g2.mono w12.tp⟩
        replace g1 := g1.mono w12.tp
        clear w w12 g2
        walk_at "rd"
        refine p12.written kp3 sh (by omega) (by omega) fun H13 p13 tp13 => ?_
        replace g1 := g1.mono tp13
        clear p12 tp13
        obtain ⟨ov2, rs2, w, g2⟩ := p13
        walk_at "rd"
        refine wake_at w kp3 sh (by omega) (by omega) fun H14 a6 ov3 rs3 w14 g3 tp14 => ?_
        replace g1 := g1.mono tp14
        replace g2 := g2.mono tp14
        clear w tp14
        have p14 : OP A H H14 a3 b s3 f (plL A a6 (.ref b2.q) s3 ov3 rs3 ++ (plL A a5 (.ref b2.q) s3 ov2 rs2 ++ (sL A b2 f2 ++ ((t, .lst (zeros n3)) :: (lg, .dK (sfK f)) :: R)))) := ⟨ov1, rs1, w14.perm (by
          have e : ∀ (P1 S1 P2 S2 P3 Z : List Ent), (P3 ++ (P2 ++ (S2 ++ (P1 ++ (S1 ++ Z))))).Perm (P1 ++ (S1 ++ (P3 ++ (P2 ++ (S2 ++ Z))))) := fun P1 S1 P2 S2 P3 Z => by walk_at "perm"
          exact e _ _ _ _ _ _), g1⟩
        clear w14 g1
        walk_at "rd"
        refine OP.new p14 fun q15 H15 p15 tp15 => ?_
        replace g2 := g2.mono tp15
        replace g3 := g3.mono tp15
        have h15 := p15.get0
        replace p15 := p15.cut1
        clear p14 tp15
        refine told_no (c := .add "more" 0) p15 h15 kp3 (by omega) (by omega) (r := .tune) (by
          simp only [tellP]
          rw [if_pos (more5 hk)]) fun H16 a7 q16 ea7 p16 h16 tp16 => ?_
        replace g2 := g2.mono tp16
        replace g3 := g3.mono tp16
        clear p15 h15 tp16
        walk_at "rd"
        refine OP.new p16 fun q17 H17 p17 tp17 => ?_
        replace g2 := g2.mono tp17
        replace g3 := g3.mono tp17
        replace h16 := tp17 _ _ h16
        have h17 := p17.get0
        replace w := p17.cut1.rest
        clear p16 p17 tp17
        walk_at "rd"
        refine st_neS (dp_refT (r := .tune) h16) (dp_refT (r := .tune) h17) sh_refT ?_
        walk_at "rd"
        refine xIf_F rfl ?_
        clear h16 h17
        have p17 : OP A H H17 a6 b2 s3 f2 (plL A a5 (.ref b2.q) s3 ov2 rs2 ++ ((t, .lst (zeros n3)) :: (lg, .dK (sfK f)) :: R)) := ⟨ov3, rs3, w.perm (by
          have e : ∀ (P2 S2 P3 Z : List Ent), (P3 ++ (P2 ++ (S2 ++ Z))).Perm (P3 ++ (S2 ++ (P2 ++ Z))) := fun P2 S2 P3 Z => by walk_at "perm"
          exact e _ _ _ _), g3⟩
        clear w g3
        walk_at "rd"
        refine OP.new p17 fun q18 H18 p18 tp18 => ?_
        replace g2 := g2.mono tp18
        have h18 := p18.get0
        replace p18 := p18.cut1
        clear p17 tp18
        have h12 := kp3.ok.o.q.sz
        refine told_no (c := .add "more" 99) p18 h18 kpM (by omega) (by omega) (r := .number) (by
          simp only [tellP]
          rw [if_neg (by rw [hM]; exact fun z => nomatch z), if_neg (by omega)]) fun H19 a8 q19 ea8 p19 h19 tp19 => ?_
        replace g2 := g2.mono tp19
        clear p18 h18 tp19
        walk_at "rd"
        refine OP.new p19 fun q20 H20 p20 tp20 => ?_
        replace g2 := g2.mono tp20
        replace h19 := tp20 _ _ h19
        have h20 := p20.get0
        replace p20 := p20.cut1
        clear p19 tp20
        walk_at "rd"
        refine st_neS (dp_refT (r := .number) h19) (dp_refT (r := .number) h20) sh_refT ?_
        walk_at "rd"
        refine xIf_F rfl ?_
        clear h19 h20
        obtain ⟨ov3, rs3, w, g3⟩ := p20
        replace w : W H H20 ((lg, .dK (sfK f)) :: (plL A a5 (.ref b2.q) s3 ov2 rs2 ++ (sL A b2 f2 ++ ((t, .lst (zeros n3)) :: R)))) := w.dropL.perm (by
          have e : ∀ (P2 S2 : List Ent) (x y : Ent), (S2 ++ (P2 ++ (x :: y :: R))).Perm (y :: (P2 ++ (S2 ++ (x :: R)))) := fun P2 S2 x y => by walk_at "perm"
          exact e _ _ _ _)
        clear g3
        walk_at "rd"
        refine shelf_at w hf hk fun H21 b9 w21 tp21 => ?_
        replace g2 := g2.mono tp21
        have p21 : OP A H H21 a5 b2 s3 f2 ((t, .lst (zeros n3)) :: (sL A b9 f ++ ((lg, .dK (sfK f)) :: R))) := ⟨ov2, rs2, w21.perm (by
          have e : ∀ (P2 S2 S4 : List Ent) (x y : Ent), (S4 ++ (y :: (P2 ++ (S2 ++ (x :: R))))).Perm (P2 ++ (S2 ++ (x :: (S4 ++ (y :: R))))) := fun P2 S2 S4 x y => by walk_at "perm"
          exact e _ _ _ _ _), g2⟩
        clear w w21 tp21 g2
        walk_at "rd"
        refine p21.written kp3 sh (by omega) (by omega) fun H22 p22 tp22 => ?_
        replace w := p22.rest
        clear p21 p22 tp22
        walk_at "rd"
        refine wake_at w kp3 sh (by omega) (by omega) fun H23 aN ovN rsN w23 gN _ => ?_
        have p23 : OP A H H23 aN b9 s3 f ((t, .lst (zeros n3)) :: (lg, .dK (sfK f)) :: R) := ⟨ovN, rsN, w23.perm (by
          have e : ∀ (P S : List Ent) (x y : Ent), (P ++ (x :: (S ++ (y :: R)))).Perm (P ++ (S ++ (x :: y :: R))) := fun P S x y => by walk_at "perm"
          exact e _ _ _ _), gN⟩
        exact ⟨_, _, _, _, _, _, _, aN, b9, s3, n3, rfl, kp3, by omega, p23⟩
      · clear p5 kp4
        rintro σ H' ⟨u3, u5, u6, u7, u8, u9, u10, a, b, s, n, rfl, kp, hn, p⟩
        walk_at "rd"
        exact k _
end
end TR
namespace TR
open PySem PySem.Spec PyProof.Rows L2
def dd_Dice_init__ : He.DefD := ⟨("Dice", some "__init__"), "__init__", "Dice.__init__", defArgs s_Dice_init__, defBody s_Dice_init__, defScope s_Dice_init__, [], []⟩
def dd_Dice_below : He.DefD := ⟨("Dice", some "below"), "below", "Dice.below", defArgs s_Dice_below, defBody s_Dice_below, defScope s_Dice_below, [], []⟩
def dd_Dice_twin : He.DefD := ⟨("Dice", some "twin"), "twin", "Dice.twin", defArgs s_Dice_twin, defBody s_Dice_twin, defScope s_Dice_twin, [], []⟩
def dd_mixed : He.DefD := ⟨("mixed", none), "mixed", "mixed", defArgs s_mixed, defBody s_mixed, defScope s_mixed, [], []⟩
def dd_Queue_init__ : He.DefD := ⟨("Queue", some "__init__"), "__init__", "Queue.__init__", defArgs s_Queue_init__, defBody s_Queue_init__, defScope s_Queue_init__, [], []⟩
def dd_Queue_entries : He.DefD := ⟨("Queue", some "entries"), "entries", "Queue.entries", defArgs s_Queue_entries, defBody s_Queue_entries, defScope s_Queue_entries, [], []⟩
def dd_Queue_need : He.DefD := ⟨("Queue", some "need"), "need", "Queue.need", defArgs s_Queue_need, defBody s_Queue_need, defScope s_Queue_need, [], []⟩
def dd_Queue_tune : He.DefD := ⟨("Queue", some "tune"), "tune", "Queue.tune", defArgs s_Queue_tune, defBody s_Queue_tune, defScope s_Queue_tune, [], []⟩
def dd_Queue_put : He.DefD := ⟨("Queue", some "put"), "put", "Queue.put", defArgs s_Queue_put, defBody s_Queue_put, defScope s_Queue_put, [], []⟩
def dd_Queue_remove : He.DefD := ⟨("Queue", some "remove"), "remove", "Queue.remove", defArgs s_Queue_remove, defBody s_Queue_remove, defScope s_Queue_remove, [], []⟩
def dd_Queue_move : He.DefD := ⟨("Queue", some "move"), "move", "Queue.move", defArgs s_Queue_move, defBody s_Queue_move, defScope s_Queue_move, [], []⟩
def dd_Queue_place : He.DefD := ⟨("Queue", some "place"), "place", "Queue.place", defArgs s_Queue_place, defBody s_Queue_place, defScope s_Queue_place, [], []⟩
def dd_Queue_twin : He.DefD := ⟨("Queue", some "twin"), "twin", "Queue.twin", defArgs s_Queue_twin, defBody s_Queue_twin, defScope s_Queue_twin, [], []⟩
def dd_Order_init__ : He.DefD := ⟨("Order", some "__init__"), "__init__", "Order.__init__", defArgs s_Order_init__, defBody s_Order_init__, defScope s_Order_init__, [], []⟩
def dd_Order_set_again : He.DefD := ⟨("Order", some "set_again"), "set_again", "Order.set_again", defArgs s_Order_set_again, defBody s_Order_set_again, defScope s_Order_set_again, [], []⟩
def dd_Order_set_mixed : He.DefD := ⟨("Order", some "set_mixed"), "set_mixed", "Order.set_mixed", defArgs s_Order_set_mixed, defBody s_Order_set_mixed, defScope s_Order_set_mixed, [], []⟩
def dd_Order_put : He.DefD := ⟨("Order", some "put"), "put", "Order.put", defArgs s_Order_put, defBody s_Order_put, defScope s_Order_put, [], []⟩
def dd_Order_remove : He.DefD := ⟨("Order", some "remove"), "remove", "Order.remove", defArgs s_Order_remove, defBody s_Order_remove, defScope s_Order_remove, [], []⟩
def dd_Order_next_plain : He.DefD := ⟨("Order", some "next_plain"), "next_plain", "Order.next_plain", defArgs s_Order_next_plain, defBody s_Order_next_plain, defScope s_Order_next_plain, [], []⟩
def dd_Order_next_mixed : He.DefD := ⟨("Order", some "next_mixed"), "next_mixed", "Order.next_mixed", defArgs s_Order_next_mixed, defBody s_Order_next_mixed, defScope s_Order_next_mixed, [], []⟩
def dd_Order_after : He.DefD := ⟨("Order", some "after"), "after", "Order.after", defArgs s_Order_after, defBody s_Order_after, defScope s_Order_after, [], []⟩
def dd_Order_skip : He.DefD := ⟨("Order", some "skip"), "skip", "Order.skip", defArgs s_Order_skip, defBody s_Order_skip, defScope s_Order_skip, [], []⟩
def dd_Order_first : He.DefD := ⟨("Order", some "first"), "first", "Order.first", defArgs s_Order_first, defBody s_Order_first, defScope s_Order_first, [], []⟩
def dd_Order_began : He.DefD := ⟨("Order", some "began"), "began", "Order.began", defArgs s_Order_began, defBody s_Order_began, defScope s_Order_began, [], []⟩
def dd_Order_twin : He.DefD := ⟨("Order", some "twin"), "twin", "Order.twin", defArgs s_Order_twin, defBody s_Order_twin, defScope s_Order_twin, [], []⟩
def dd_Player_init__ : He.DefD := ⟨("Player", some "__init__"), "__init__", "Player.__init__", defArgs s_Player_init__, defBody s_Player_init__, defScope s_Player_init__, [], []⟩
def dd_Player_long : He.DefD := ⟨("Player", some "long"), "long", "Player.long", defArgs s_Player_long, defBody s_Player_long, defScope s_Player_long, [], []⟩
def dd_Player_add : He.DefD := ⟨("Player", some "add"), "add", "Player.add", defArgs s_Player_add, defBody s_Player_add, defScope s_Player_add, [], []⟩
def dd_Player_remove : He.DefD := ⟨("Player", some "remove"), "remove", "Player.remove", defArgs s_Player_remove, defBody s_Player_remove, defScope s_Player_remove, [], []⟩
def dd_Player_move : He.DefD := ⟨("Player", some "move"), "move", "Player.move", defArgs s_Player_move, defBody s_Player_move, defScope s_Player_move, [], []⟩
def dd_Player_play_soon : He.DefD := ⟨("Player", some "play_soon"), "play_soon", "Player.play_soon", defArgs s_Player_play_soon, defBody s_Player_play_soon, defScope s_Player_play_soon, [], []⟩
def dd_Player_entries : He.DefD := ⟨("Player", some "entries"), "entries", "Player.entries", defArgs s_Player_entries, defBody s_Player_entries, defScope s_Player_entries, [], []⟩
def dd_Player_tune : He.DefD := ⟨("Player", some "tune"), "tune", "Player.tune", defArgs s_Player_tune, defBody s_Player_tune, defScope s_Player_tune, [], []⟩
def dd_Player_set_again : He.DefD := ⟨("Player", some "set_again"), "set_again", "Player.set_again", defArgs s_Player_set_again, defBody s_Player_set_again, defScope s_Player_set_again, [], []⟩
def dd_Player_set_mixed : He.DefD := ⟨("Player", some "set_mixed"), "set_mixed", "Player.set_mixed", defArgs s_Player_set_mixed, defBody s_Player_set_mixed, defScope s_Player_set_mixed, [], []⟩
def dd_Player_begin : He.DefD := ⟨("Player", some "begin"), "begin", "Player.begin", defArgs s_Player_begin, defBody s_Player_begin, defScope s_Player_begin, [], []⟩
def dd_Player_play : He.DefD := ⟨("Player", some "play"), "play", "Player.play", defArgs s_Player_play, defBody s_Player_play, defScope s_Player_play, [], []⟩
def dd_Player_resume : He.DefD := ⟨("Player", some "resume"), "resume", "Player.resume", defArgs s_Player_resume, defBody s_Player_resume, defScope s_Player_resume, [], []⟩
def dd_Player_pause : He.DefD := ⟨("Player", some "pause"), "pause", "Player.pause", defArgs s_Player_pause, defBody s_Player_pause, defScope s_Player_pause, [], []⟩
def dd_Player_next_entry : He.DefD := ⟨("Player", some "next_entry"), "next_entry", "Player.next_entry", defArgs s_Player_next_entry, defBody s_Player_next_entry, defScope s_Player_next_entry, [], []⟩
def dd_Player_skip : He.DefD := ⟨("Player", some "skip"), "skip", "Player.skip", defArgs s_Player_skip, defBody s_Player_skip, defScope s_Player_skip, [], []⟩
def dd_Player_back : He.DefD := ⟨("Player", some "back"), "back", "Player.back", defArgs s_Player_back, defBody s_Player_back, defScope s_Player_back, [], []⟩
def dd_Player_seek : He.DefD := ⟨("Player", some "seek"), "seek", "Player.seek", defArgs s_Player_seek, defBody s_Player_seek, defScope s_Player_seek, [], []⟩
def dd_Player_stop_behind : He.DefD := ⟨("Player", some "stop_behind"), "stop_behind", "Player.stop_behind", defArgs s_Player_stop_behind, defBody s_Player_stop_behind, defScope s_Player_stop_behind, [], []⟩
def dd_Player_sleep : He.DefD := ⟨("Player", some "sleep"), "sleep", "Player.sleep", defArgs s_Player_sleep, defBody s_Player_sleep, defScope s_Player_sleep, [], []⟩
def dd_Player_join_long : He.DefD := ⟨("Player", some "join_long"), "join_long", "Player.join_long", defArgs s_Player_join_long, defBody s_Player_join_long, defScope s_Player_join_long, [], []⟩
def dd_Player_step : He.DefD := ⟨("Player", some "step"), "step", "Player.step", defArgs s_Player_step, defBody s_Player_step, defScope s_Player_step, [], []⟩
def dd_Player_turn_over : He.DefD := ⟨("Player", some "turn_over"), "turn_over", "Player.turn_over", defArgs s_Player_turn_over, defBody s_Player_turn_over, defScope s_Player_turn_over, [], []⟩
def dd_Player_tick : He.DefD := ⟨("Player", some "tick"), "tick", "Player.tick", defArgs s_Player_tick, defBody s_Player_tick, defScope s_Player_tick, [], []⟩
def dd_Player_state : He.DefD := ⟨("Player", some "state"), "state", "Player.state", defArgs s_Player_state, defBody s_Player_state, defScope s_Player_state, [], []⟩
def dd_Player_sounds : He.DefD := ⟨("Player", some "sounds"), "sounds", "Player.sounds", defArgs s_Player_sounds, defBody s_Player_sounds, defScope s_Player_sounds, [], []⟩
def dd_Player_log : He.DefD := ⟨("Player", some "log"), "log", "Player.log", defArgs s_Player_log, defBody s_Player_log, defScope s_Player_log, [], []⟩
def dd_Player_ticks : He.DefD := ⟨("Player", some "ticks"), "ticks", "Player.ticks", defArgs s_Player_ticks, defBody s_Player_ticks, defScope s_Player_ticks, [], []⟩
def dd_Player_ahead : He.DefD := ⟨("Player", some "ahead"), "ahead", "Player.ahead", defArgs s_Player_ahead, defBody s_Player_ahead, defScope s_Player_ahead, [], []⟩
def dd_Player_twin : He.DefD := ⟨("Player", some "twin"), "twin", "Player.twin", defArgs s_Player_twin, defBody s_Player_twin, defScope s_Player_twin, [], []⟩
def dd_told_as : He.DefD := ⟨("told_as", none), "told_as", "told_as", defArgs s_told_as, defBody s_told_as, defScope s_told_as, [], []⟩
def dd_number_in : He.DefD := ⟨("number_in", none), "number_in", "number_in", defArgs s_number_in, defBody s_number_in, defScope s_number_in, [], []⟩
def dd_row_of : He.DefD := ⟨("row_of", none), "row_of", "row_of", defArgs s_row_of, defBody s_row_of, defScope s_row_of, [], []⟩
def dd_numbers_in : He.DefD := ⟨("numbers_in", none), "numbers_in", "numbers_in", defArgs s_numbers_in, defBody s_numbers_in, defScope s_numbers_in, [], []⟩
def dd_written : He.DefD := ⟨("written", none), "written", "written", defArgs s_written, defBody s_written, defScope s_written, [], []⟩
def dd_woken_order : He.DefD := ⟨("woken_order", none), "woken_order", "woken_order", defArgs s_woken_order, defBody s_woken_order, defScope s_woken_order, [], []⟩
def dd_woken : He.DefD := ⟨("woken", none), "woken", "woken", defArgs s_woken, defBody s_woken, defScope s_woken, [], []⟩
def dd_look_name : He.DefD := ⟨("look_name", none), "look_name", "look_name", defArgs s_look_name, defBody s_look_name, defScope s_look_name, [], []⟩
def dd_Shelf_init__ : He.DefD := ⟨("Shelf", some "__init__"), "__init__", "Shelf.__init__", defArgs s_Shelf_init__, defBody s_Shelf_init__, defScope s_Shelf_init__, [], []⟩
def dd_Shelf_add : He.DefD := ⟨("Shelf", some "add"), "add", "Shelf.add", defArgs s_Shelf_add, defBody s_Shelf_add, defScope s_Shelf_add, [], []⟩
def dd_Shelf_need : He.DefD := ⟨("Shelf", some "need"), "need", "Shelf.need", defArgs s_Shelf_need, defBody s_Shelf_need, defScope s_Shelf_need, [], []⟩
def dd_Shelf_long : He.DefD := ⟨("Shelf", some "long"), "long", "Shelf.long", defArgs s_Shelf_long, defBody s_Shelf_long, defScope s_Shelf_long, [], []⟩
def dd_Shelf_names : He.DefD := ⟨("Shelf", some "names"), "names", "Shelf.names", defArgs s_Shelf_names, defBody s_Shelf_names, defScope s_Shelf_names, [], []⟩
def dd_law_cell : He.DefD := ⟨("_law_cell", none), "_law_cell", "_law_cell", defArgs s_law_cell, defBody s_law_cell, defScope s_law_cell, [], []⟩
def dd_law_mix : He.DefD := ⟨("_law_mix", none), "_law_mix", "_law_mix", defArgs s_law_mix, defBody s_law_mix, defScope s_law_mix, [], []⟩
def dd_law_draw : He.DefD := ⟨("_law_draw", none), "_law_draw", "_law_draw", defArgs s_law_draw, defBody s_law_draw, defScope s_law_draw, [], []⟩
def dd_law_pick : He.DefD := ⟨("_law_pick", none), "_law_pick", "_law_pick", defArgs s_law_pick, defBody s_law_pick, defScope s_law_pick, [], []⟩
def dd_law_refusal : He.DefD := ⟨("_law_refusal", none), "_law_refusal", "_law_refusal", defArgs s_law_refusal, defBody s_law_refusal, defScope s_law_refusal, [], []⟩
def dd_law_one : He.DefD := ⟨("_law_one", none), "_law_one", "_law_one", defArgs s_law_one, defBody s_law_one, defScope s_law_one, [], []⟩
def dd_law_told : He.DefD := ⟨("_law_told", none), "_law_told", "_law_told", defArgs s_law_told, defBody s_law_told, defScope s_law_told, [], []⟩
def dd_law_call : He.DefD := ⟨("_law_call", none), "_law_call", "_law_call", defArgs s_law_call, defBody s_law_call, defScope s_law_call, [], []⟩
def dd_law_all : He.DefD := ⟨("_law_all", none), "_law_all", "_law_all", defArgs s_law_all, defBody s_law_all, defScope s_law_all, [], []⟩
def dd_law_tune : He.DefD := ⟨("_law_tune", none), "_law_tune", "_law_tune", defArgs s_law_tune, defBody s_law_tune, defScope s_law_tune, [], []⟩
def dd_law_led : He.DefD := ⟨("_law_led", none), "_law_led", "_law_led", defArgs s_law_led, defBody s_law_led, defScope s_law_led, [], []⟩
def dd_law_shelf : He.DefD := ⟨("_law_shelf", none), "_law_shelf", "_law_shelf", defArgs s_law_shelf, defBody s_law_shelf, defScope s_law_shelf, [], []⟩
def dd_law_begun : He.DefD := ⟨("_law_begun", none), "_law_begun", "_law_begun", defArgs s_law_begun, defBody s_law_begun, defScope s_law_begun, [], []⟩
def dd_law_is_text : He.DefD := ⟨("_law_is_text", none), "_law_is_text", "_law_is_text", defArgs s_law_is_text, defBody s_law_is_text, defScope s_law_is_text, [], []⟩
def dd_law_same : He.DefD := ⟨("_law_same", none), "_law_same", "_law_same", defArgs s_law_same, defBody s_law_same, defScope s_law_same, [], []⟩
def dd_law : He.DefD := ⟨("law", none), "law", "law", defArgs s_law, defBody s_law, defScope s_law, [], []⟩
def hfn : List He.DefD := [dd_Dice_init__, dd_Dice_below, dd_Dice_twin, dd_mixed, dd_Queue_init__, dd_Queue_entries, dd_Queue_need, dd_Queue_tune, dd_Queue_put, dd_Queue_remove, dd_Queue_move, dd_Queue_place, dd_Queue_twin, dd_Order_init__, dd_Order_set_again, dd_Order_set_mixed, dd_Order_put, dd_Order_remove, dd_Order_next_plain, dd_Order_next_mixed, dd_Order_after, dd_Order_skip, dd_Order_first, dd_Order_began, dd_Order_twin, dd_Player_init__, dd_Player_long, dd_Player_add, dd_Player_remove, dd_Player_move, dd_Player_play_soon, dd_Player_entries, dd_Player_tune, dd_Player_set_again, dd_Player_set_mixed, dd_Player_begin, dd_Player_play, dd_Player_resume, dd_Player_pause, dd_Player_next_entry, dd_Player_skip, dd_Player_back, dd_Player_seek, dd_Player_stop_behind, dd_Player_sleep, dd_Player_join_long, dd_Player_step, dd_Player_turn_over, dd_Player_tick, dd_Player_state, dd_Player_sounds, dd_Player_log, dd_Player_ticks, dd_Player_ahead, dd_Player_twin, dd_told_as, dd_number_in, dd_row_of, dd_numbers_in, dd_written, dd_woken_order, dd_woken, dd_look_name, dd_Shelf_init__, dd_Shelf_add, dd_Shelf_need, dd_Shelf_long, dd_Shelf_names, dd_law_cell, dd_law_mix, dd_law_draw, dd_law_pick, dd_law_refusal, dd_law_one, dd_law_told, dd_law_call, dd_law_all, dd_law_tune, dd_law_led, dd_law_shelf, dd_law_begun, dd_law_is_text, dd_law_same, dd_law]
def hfa0 : List He.Fa := [.free "ValueError", .free "all", .free "dict", .free "int", .free "isinstance", .free "len", .free "list", .free "min", .free "range", .free "sorted", .free "str", .free "tuple", .free "zip", .int "WHEEL" 6075, .int "TIMES" 106, .int "MORE" 1283, .int "MOST" 60, .int "MOST_ENTRIES" 12, .glo "REPEATS", .int "MOST_OVERLAP" 9, .int "MOST_TICKS" 200, .int "MOST_AHEAD" 12, .int "MOST_SLEEP" 60, .int "EARLY" 3, .str "SMALL" "abcdefghijklmnopqrstuvwxyz", .int "MOST_NAME" 6, .int "MOST_TUNES" 6, .int "MOST_LONG" 40, .glo "RoadError", .glo "BadTune"]
def hfa1 : List He.Fa := [.glo "BadNumber", .glo "BadEntry", .glo "BadWord", .glo "Dice", .glo "Queue", .glo "Order", .glo "Player", .glo "Shelf", .cls "Dice", .mkr "Dice", .noat "Dice" "number", .cls "Queue", .mkr "Queue", .noat "Queue" "tunes", .noat "Queue" "turn", .noat "Queue" "last", .cls "Order", .mkr "Order", .noat "Order" "queue", .noat "Order" "dice", .noat "Order" "is_mixed", .noat "Order" "again", .noat "Order" "deck", .noat "Order" "is_gone", .noat "Order" "behind", .cls "Player", .mkr "Player", .noat "Player" "shelf", .noat "Player" "overlap", .noat "Player" "order"]
def hfa2 : List He.Fa := [.noat "Player" "time", .noat "Player" "now", .noat "Player" "spot", .noat "Player" "old", .noat "Player" "soon", .noat "Player" "past", .noat "Player" "rows", .noat "Player" "is_playing", .noat "Player" "stops", .noat "Player" "sleep_left", .cls "Shelf", .mkr "Shelf", .noat "Shelf" "longs", .meth "Dice" "__init__", .meth "Dice" "below", .meth "Dice" "twin", .glo "mixed", .meth "Queue" "__init__", .meth "Queue" "entries", .meth "Queue" "need", .meth "Queue" "tune", .meth "Queue" "put", .meth "Queue" "remove", .meth "Queue" "move", .meth "Queue" "place", .meth "Queue" "twin", .meth "Order" "__init__", .meth "Order" "set_again", .meth "Order" "set_mixed", .meth "Order" "put"]
def hfa3 : List He.Fa := [.meth "Order" "remove", .meth "Order" "next_plain", .meth "Order" "next_mixed", .meth "Order" "after", .meth "Order" "skip", .meth "Order" "first", .meth "Order" "began", .meth "Order" "twin", .meth "Player" "__init__", .meth "Player" "long", .meth "Player" "add", .meth "Player" "remove", .meth "Player" "move", .meth "Player" "play_soon", .meth "Player" "entries", .meth "Player" "tune", .meth "Player" "set_again", .meth "Player" "set_mixed", .meth "Player" "begin", .meth "Player" "play", .meth "Player" "resume", .meth "Player" "pause", .meth "Player" "next_entry", .meth "Player" "skip", .meth "Player" "back", .meth "Player" "seek", .meth "Player" "stop_behind", .meth "Player" "sleep", .meth "Player" "join_long", .meth "Player" "step"]
def hfa4 : List He.Fa := [.meth "Player" "turn_over", .meth "Player" "tick", .meth "Player" "state", .meth "Player" "sounds", .meth "Player" "log", .meth "Player" "ticks", .meth "Player" "ahead", .meth "Player" "twin", .glo "told_as", .glo "number_in", .glo "row_of", .glo "numbers_in", .glo "written", .glo "woken_order", .glo "woken", .glo "look_name", .meth "Shelf" "__init__", .meth "Shelf" "add", .meth "Shelf" "need", .meth "Shelf" "long", .meth "Shelf" "names", .glo "_law_cell", .glo "_law_mix", .glo "_law_draw", .glo "_law_pick", .glo "_law_refusal", .glo "_law_one", .glo "_law_told", .glo "_law_call", .glo "_law_all"]
def hfa5 : List He.Fa := [.glo "_law_tune", .glo "_law_led", .glo "_law_shelf", .glo "_law_begun", .glo "_law_is_text", .glo "_law_same", .glo "law"]
def hfa : List He.Fa := hfa0 ++ (hfa1 ++ (hfa2 ++ (hfa3 ++ (hfa4 ++ (hfa5)))))
def hx_x_RoadError (K : PySem.W.Frag) : Bool := PySem.W.excIn K (He.ga K "RoadError") He.veBase "ValueError.__new__"
def hx_k_RoadError (K : PySem.W.Frag) : Bool := PySem.W.keepIn K (.ref (He.ga K "RoadError"))
def hx_r_RoadError (K : PySem.W.Frag) : Bool := decide (PySem.W.subIn K (.ref (He.ga K "RoadError")) (.type "BaseException") = some true)
def hx_t_RoadError (K : PySem.W.Frag) : Bool := decide (PySem.W.typeIn K (.ref (He.ga K "RoadError")) = some (.type "type"))
def hx_e_RoadError_hg (K : PySem.W.Frag) : Bool := decide (PySem.W.findIn K (.ref (He.ga K "RoadError")) "__getattribute__" = some (some (.builtin "BaseException.__getattribute__")))
def hx_e_RoadError_hk (K : PySem.W.Frag) : Bool := decide (PySem.W.findIn K (.ref (He.ga K "RoadError")) "__getattr__" = some none)
def hx_e_RoadError_hd (K : PySem.W.Frag) : Bool := PySem.W.hasDictIn K (He.ga K "RoadError")
def hx_e_RoadError_ha (K : PySem.W.Frag) : Bool := decide (PySem.W.findIn K (.ref (He.ga K "RoadError")) "__class__" = some (some (.builtin "object.__class__")))
def hx_e_RoadError_hm (K : PySem.W.Frag) : Bool := decide (PySem.W.mroIn K (He.ga K "RoadError") (.type "object") = some true)
def hx_m_RoadError (K : PySem.W.Frag) : Bool := decide (PySem.W.exmOne K (.ref (He.ga K "RoadError")) (.ref (He.ga K "RoadError")) = some true)
def hx_mm_RoadError (K : PySem.W.Frag) : Bool := decide (PySem.W.exmOne K (.ref (He.ga K "RoadError")) (.ref (He.ga K "RoadError")) = some true)
def hx_i_RoadError_RoadError (K : PySem.W.Frag) : Bool := decide (PySem.W.kitOne K (.ref (He.ga K "RoadError")) (.ref (He.ga K "RoadError")) = some true)
def hx_i_RoadError_BadTune (K : PySem.W.Frag) : Bool := decide (PySem.W.kitOne K (.ref (He.ga K "RoadError")) (.ref (He.ga K "BadTune")) = some false)
def hx_i_RoadError_BadNumber (K : PySem.W.Frag) : Bool := decide (PySem.W.kitOne K (.ref (He.ga K "RoadError")) (.ref (He.ga K "BadNumber")) = some false)
def hx_i_RoadError_BadEntry (K : PySem.W.Frag) : Bool := decide (PySem.W.kitOne K (.ref (He.ga K "RoadError")) (.ref (He.ga K "BadEntry")) = some false)
def hx_i_RoadError_BadWord (K : PySem.W.Frag) : Bool := decide (PySem.W.kitOne K (.ref (He.ga K "RoadError")) (.ref (He.ga K "BadWord")) = some false)
def hx_i_RoadError_ValueError (K : PySem.W.Frag) : Bool := decide (PySem.W.kitOne K (.ref (He.ga K "RoadError")) (.type "ValueError") = some true)
def hx_x_BadTune (K : PySem.W.Frag) : Bool := PySem.W.excIn K (He.ga K "BadTune") He.veBase "ValueError.__new__"
def hx_k_BadTune (K : PySem.W.Frag) : Bool := PySem.W.keepIn K (.ref (He.ga K "BadTune"))
def hx_r_BadTune (K : PySem.W.Frag) : Bool := decide (PySem.W.subIn K (.ref (He.ga K "BadTune")) (.type "BaseException") = some true)
def hx_t_BadTune (K : PySem.W.Frag) : Bool := decide (PySem.W.typeIn K (.ref (He.ga K "BadTune")) = some (.type "type"))
def hx_e_BadTune_hg (K : PySem.W.Frag) : Bool := decide (PySem.W.findIn K (.ref (He.ga K "BadTune")) "__getattribute__" = some (some (.builtin "BaseException.__getattribute__")))
def hx_e_BadTune_hk (K : PySem.W.Frag) : Bool := decide (PySem.W.findIn K (.ref (He.ga K "BadTune")) "__getattr__" = some none)
def hx_e_BadTune_hd (K : PySem.W.Frag) : Bool := PySem.W.hasDictIn K (He.ga K "BadTune")
def hx_e_BadTune_ha (K : PySem.W.Frag) : Bool := decide (PySem.W.findIn K (.ref (He.ga K "BadTune")) "__class__" = some (some (.builtin "object.__class__")))
def hx_e_BadTune_hm (K : PySem.W.Frag) : Bool := decide (PySem.W.mroIn K (He.ga K "BadTune") (.type "object") = some true)
def hx_m_BadTune (K : PySem.W.Frag) : Bool := decide (PySem.W.exmOne K (.ref (He.ga K "BadTune")) (.ref (He.ga K "RoadError")) = some true)
def hx_mm_BadTune (K : PySem.W.Frag) : Bool := decide (PySem.W.exmOne K (.ref (He.ga K "BadTune")) (.ref (He.ga K "BadTune")) = some true)
def hx_i_BadTune_RoadError (K : PySem.W.Frag) : Bool := decide (PySem.W.kitOne K (.ref (He.ga K "BadTune")) (.ref (He.ga K "RoadError")) = some true)
def hx_i_BadTune_BadTune (K : PySem.W.Frag) : Bool := decide (PySem.W.kitOne K (.ref (He.ga K "BadTune")) (.ref (He.ga K "BadTune")) = some true)
def hx_i_BadTune_BadNumber (K : PySem.W.Frag) : Bool := decide (PySem.W.kitOne K (.ref (He.ga K "BadTune")) (.ref (He.ga K "BadNumber")) = some false)
def hx_i_BadTune_BadEntry (K : PySem.W.Frag) : Bool := decide (PySem.W.kitOne K (.ref (He.ga K "BadTune")) (.ref (He.ga K "BadEntry")) = some false)
def hx_i_BadTune_BadWord (K : PySem.W.Frag) : Bool := decide (PySem.W.kitOne K (.ref (He.ga K "BadTune")) (.ref (He.ga K "BadWord")) = some false)
def hx_i_BadTune_ValueError (K : PySem.W.Frag) : Bool := decide (PySem.W.kitOne K (.ref (He.ga K "BadTune")) (.type "ValueError") = some true)
def hx_x_BadNumber (K : PySem.W.Frag) : Bool := PySem.W.excIn K (He.ga K "BadNumber") He.veBase "ValueError.__new__"
def hx_k_BadNumber (K : PySem.W.Frag) : Bool := PySem.W.keepIn K (.ref (He.ga K "BadNumber"))
def hx_r_BadNumber (K : PySem.W.Frag) : Bool := decide (PySem.W.subIn K (.ref (He.ga K "BadNumber")) (.type "BaseException") = some true)
def hx_t_BadNumber (K : PySem.W.Frag) : Bool := decide (PySem.W.typeIn K (.ref (He.ga K "BadNumber")) = some (.type "type"))
def hx_e_BadNumber_hg (K : PySem.W.Frag) : Bool := decide (PySem.W.findIn K (.ref (He.ga K "BadNumber")) "__getattribute__" = some (some (.builtin "BaseException.__getattribute__")))
def hx_e_BadNumber_hk (K : PySem.W.Frag) : Bool := decide (PySem.W.findIn K (.ref (He.ga K "BadNumber")) "__getattr__" = some none)
def hx_e_BadNumber_hd (K : PySem.W.Frag) : Bool := PySem.W.hasDictIn K (He.ga K "BadNumber")
def hx_e_BadNumber_ha (K : PySem.W.Frag) : Bool := decide (PySem.W.findIn K (.ref (He.ga K "BadNumber")) "__class__" = some (some (.builtin "object.__class__")))
def hx_e_BadNumber_hm (K : PySem.W.Frag) : Bool := decide (PySem.W.mroIn K (He.ga K "BadNumber") (.type "object") = some true)
def hx_m_BadNumber (K : PySem.W.Frag) : Bool := decide (PySem.W.exmOne K (.ref (He.ga K "BadNumber")) (.ref (He.ga K "RoadError")) = some true)
def hx_mm_BadNumber (K : PySem.W.Frag) : Bool := decide (PySem.W.exmOne K (.ref (He.ga K "BadNumber")) (.ref (He.ga K "BadNumber")) = some true)
def hx_i_BadNumber_RoadError (K : PySem.W.Frag) : Bool := decide (PySem.W.kitOne K (.ref (He.ga K "BadNumber")) (.ref (He.ga K "RoadError")) = some true)
def hx_i_BadNumber_BadTune (K : PySem.W.Frag) : Bool := decide (PySem.W.kitOne K (.ref (He.ga K "BadNumber")) (.ref (He.ga K "BadTune")) = some false)
def hx_i_BadNumber_BadNumber (K : PySem.W.Frag) : Bool := decide (PySem.W.kitOne K (.ref (He.ga K "BadNumber")) (.ref (He.ga K "BadNumber")) = some true)
def hx_i_BadNumber_BadEntry (K : PySem.W.Frag) : Bool := decide (PySem.W.kitOne K (.ref (He.ga K "BadNumber")) (.ref (He.ga K "BadEntry")) = some false)
def hx_i_BadNumber_BadWord (K : PySem.W.Frag) : Bool := decide (PySem.W.kitOne K (.ref (He.ga K "BadNumber")) (.ref (He.ga K "BadWord")) = some false)
def hx_i_BadNumber_ValueError (K : PySem.W.Frag) : Bool := decide (PySem.W.kitOne K (.ref (He.ga K "BadNumber")) (.type "ValueError") = some true)
def hx_x_BadEntry (K : PySem.W.Frag) : Bool := PySem.W.excIn K (He.ga K "BadEntry") He.veBase "ValueError.__new__"
def hx_k_BadEntry (K : PySem.W.Frag) : Bool := PySem.W.keepIn K (.ref (He.ga K "BadEntry"))
def hx_r_BadEntry (K : PySem.W.Frag) : Bool := decide (PySem.W.subIn K (.ref (He.ga K "BadEntry")) (.type "BaseException") = some true)
def hx_t_BadEntry (K : PySem.W.Frag) : Bool := decide (PySem.W.typeIn K (.ref (He.ga K "BadEntry")) = some (.type "type"))
def hx_e_BadEntry_hg (K : PySem.W.Frag) : Bool := decide (PySem.W.findIn K (.ref (He.ga K "BadEntry")) "__getattribute__" = some (some (.builtin "BaseException.__getattribute__")))
def hx_e_BadEntry_hk (K : PySem.W.Frag) : Bool := decide (PySem.W.findIn K (.ref (He.ga K "BadEntry")) "__getattr__" = some none)
def hx_e_BadEntry_hd (K : PySem.W.Frag) : Bool := PySem.W.hasDictIn K (He.ga K "BadEntry")
def hx_e_BadEntry_ha (K : PySem.W.Frag) : Bool := decide (PySem.W.findIn K (.ref (He.ga K "BadEntry")) "__class__" = some (some (.builtin "object.__class__")))
def hx_e_BadEntry_hm (K : PySem.W.Frag) : Bool := decide (PySem.W.mroIn K (He.ga K "BadEntry") (.type "object") = some true)
def hx_m_BadEntry (K : PySem.W.Frag) : Bool := decide (PySem.W.exmOne K (.ref (He.ga K "BadEntry")) (.ref (He.ga K "RoadError")) = some true)
def hx_mm_BadEntry (K : PySem.W.Frag) : Bool := decide (PySem.W.exmOne K (.ref (He.ga K "BadEntry")) (.ref (He.ga K "BadEntry")) = some true)
def hx_i_BadEntry_RoadError (K : PySem.W.Frag) : Bool := decide (PySem.W.kitOne K (.ref (He.ga K "BadEntry")) (.ref (He.ga K "RoadError")) = some true)
def hx_i_BadEntry_BadTune (K : PySem.W.Frag) : Bool := decide (PySem.W.kitOne K (.ref (He.ga K "BadEntry")) (.ref (He.ga K "BadTune")) = some false)
def hx_i_BadEntry_BadNumber (K : PySem.W.Frag) : Bool := decide (PySem.W.kitOne K (.ref (He.ga K "BadEntry")) (.ref (He.ga K "BadNumber")) = some false)
def hx_i_BadEntry_BadEntry (K : PySem.W.Frag) : Bool := decide (PySem.W.kitOne K (.ref (He.ga K "BadEntry")) (.ref (He.ga K "BadEntry")) = some true)
def hx_i_BadEntry_BadWord (K : PySem.W.Frag) : Bool := decide (PySem.W.kitOne K (.ref (He.ga K "BadEntry")) (.ref (He.ga K "BadWord")) = some false)
def hx_i_BadEntry_ValueError (K : PySem.W.Frag) : Bool := decide (PySem.W.kitOne K (.ref (He.ga K "BadEntry")) (.type "ValueError") = some true)
def hx_x_BadWord (K : PySem.W.Frag) : Bool := PySem.W.excIn K (He.ga K "BadWord") He.veBase "ValueError.__new__"
def hx_k_BadWord (K : PySem.W.Frag) : Bool := PySem.W.keepIn K (.ref (He.ga K "BadWord"))
def hx_r_BadWord (K : PySem.W.Frag) : Bool := decide (PySem.W.subIn K (.ref (He.ga K "BadWord")) (.type "BaseException") = some true)
def hx_t_BadWord (K : PySem.W.Frag) : Bool := decide (PySem.W.typeIn K (.ref (He.ga K "BadWord")) = some (.type "type"))
def hx_e_BadWord_hg (K : PySem.W.Frag) : Bool := decide (PySem.W.findIn K (.ref (He.ga K "BadWord")) "__getattribute__" = some (some (.builtin "BaseException.__getattribute__")))
def hx_e_BadWord_hk (K : PySem.W.Frag) : Bool := decide (PySem.W.findIn K (.ref (He.ga K "BadWord")) "__getattr__" = some none)
def hx_e_BadWord_hd (K : PySem.W.Frag) : Bool := PySem.W.hasDictIn K (He.ga K "BadWord")
def hx_e_BadWord_ha (K : PySem.W.Frag) : Bool := decide (PySem.W.findIn K (.ref (He.ga K "BadWord")) "__class__" = some (some (.builtin "object.__class__")))
def hx_e_BadWord_hm (K : PySem.W.Frag) : Bool := decide (PySem.W.mroIn K (He.ga K "BadWord") (.type "object") = some true)
def hx_m_BadWord (K : PySem.W.Frag) : Bool := decide (PySem.W.exmOne K (.ref (He.ga K "BadWord")) (.ref (He.ga K "RoadError")) = some true)
def hx_mm_BadWord (K : PySem.W.Frag) : Bool := decide (PySem.W.exmOne K (.ref (He.ga K "BadWord")) (.ref (He.ga K "BadWord")) = some true)
def hx_i_BadWord_RoadError (K : PySem.W.Frag) : Bool := decide (PySem.W.kitOne K (.ref (He.ga K "BadWord")) (.ref (He.ga K "RoadError")) = some true)
def hx_i_BadWord_BadTune (K : PySem.W.Frag) : Bool := decide (PySem.W.kitOne K (.ref (He.ga K "BadWord")) (.ref (He.ga K "BadTune")) = some false)
def hx_i_BadWord_BadNumber (K : PySem.W.Frag) : Bool := decide (PySem.W.kitOne K (.ref (He.ga K "BadWord")) (.ref (He.ga K "BadNumber")) = some false)
def hx_i_BadWord_BadEntry (K : PySem.W.Frag) : Bool := decide (PySem.W.kitOne K (.ref (He.ga K "BadWord")) (.ref (He.ga K "BadEntry")) = some false)
def hx_i_BadWord_BadWord (K : PySem.W.Frag) : Bool := decide (PySem.W.kitOne K (.ref (He.ga K "BadWord")) (.ref (He.ga K "BadWord")) = some true)
def hx_i_BadWord_ValueError (K : PySem.W.Frag) : Bool := decide (PySem.W.kitOne K (.ref (He.ga K "BadWord")) (.type "ValueError") = some true)
def hx_e_hn (K : PySem.W.Frag) : Bool := decide (PySem.W.specialIn K (.builtin "object.__class__") "__get__" = some (some (.builtin "getset_descriptor.__get__")))
def hx_e_ht (K : PySem.W.Frag) : Bool := decide (PySem.W.takesIn K (.builtin "object.__class__") = some true)
def hx_tu_REPEATS (K : PySem.W.Frag) : Bool := He.tupB K "REPEATS" [.str "none", .str "all", .str "one"]
def hxs0 : List (PySem.W.Frag → Bool) := [hx_x_RoadError, hx_k_RoadError, hx_r_RoadError, hx_t_RoadError, hx_e_RoadError_hg, hx_e_RoadError_hk, hx_e_RoadError_hd, hx_e_RoadError_ha, hx_e_RoadError_hm, hx_m_RoadError, hx_mm_RoadError, hx_i_RoadError_RoadError, hx_i_RoadError_BadTune, hx_i_RoadError_BadNumber, hx_i_RoadError_BadEntry, hx_i_RoadError_BadWord, hx_i_RoadError_ValueError, hx_x_BadTune, hx_k_BadTune, hx_r_BadTune, hx_t_BadTune, hx_e_BadTune_hg, hx_e_BadTune_hk, hx_e_BadTune_hd, hx_e_BadTune_ha]
def hxs1 : List (PySem.W.Frag → Bool) := [hx_e_BadTune_hm, hx_m_BadTune, hx_mm_BadTune, hx_i_BadTune_RoadError, hx_i_BadTune_BadTune, hx_i_BadTune_BadNumber, hx_i_BadTune_BadEntry, hx_i_BadTune_BadWord, hx_i_BadTune_ValueError, hx_x_BadNumber, hx_k_BadNumber, hx_r_BadNumber, hx_t_BadNumber, hx_e_BadNumber_hg, hx_e_BadNumber_hk, hx_e_BadNumber_hd, hx_e_BadNumber_ha, hx_e_BadNumber_hm, hx_m_BadNumber, hx_mm_BadNumber, hx_i_BadNumber_RoadError, hx_i_BadNumber_BadTune, hx_i_BadNumber_BadNumber, hx_i_BadNumber_BadEntry, hx_i_BadNumber_BadWord]
def hxs2 : List (PySem.W.Frag → Bool) := [hx_i_BadNumber_ValueError, hx_x_BadEntry, hx_k_BadEntry, hx_r_BadEntry, hx_t_BadEntry, hx_e_BadEntry_hg, hx_e_BadEntry_hk, hx_e_BadEntry_hd, hx_e_BadEntry_ha, hx_e_BadEntry_hm, hx_m_BadEntry, hx_mm_BadEntry, hx_i_BadEntry_RoadError, hx_i_BadEntry_BadTune, hx_i_BadEntry_BadNumber, hx_i_BadEntry_BadEntry, hx_i_BadEntry_BadWord, hx_i_BadEntry_ValueError, hx_x_BadWord, hx_k_BadWord, hx_r_BadWord, hx_t_BadWord, hx_e_BadWord_hg, hx_e_BadWord_hk, hx_e_BadWord_hd]
def hxs3 : List (PySem.W.Frag → Bool) := [hx_e_BadWord_ha, hx_e_BadWord_hm, hx_m_BadWord, hx_mm_BadWord, hx_i_BadWord_RoadError, hx_i_BadWord_BadTune, hx_i_BadWord_BadNumber, hx_i_BadWord_BadEntry, hx_i_BadWord_BadWord, hx_i_BadWord_ValueError, hx_e_hn, hx_e_ht, hx_tu_REPEATS]
def hxs : List (PySem.W.Frag → Bool) := hxs0 ++ (hxs1 ++ (hxs2 ++ (hxs3)))
def hex (K : PySem.W.Frag) : Bool := hxs.all fun f => f K
theorem hex_at {K : PySem.W.Frag} (h : hex K = true) (i : Nat) {f : PySem.W.Frag → Bool} (e : hxs[i]? = some f := by rfl) : f K = true := List.all_eq_true.mp h f (List.mem_of_getElem? e)
abbrev hR : PySem.W.OpenRow := PySem.W.OpenLaw.row PySem.Challenge.rw_tuneroad_k40_whole_woken
abbrev hhk : PySem.W.Hook := hookM hfa hfn hex
def hob (s : PySem.W.SharedT) : AlM := obsM hfa hfn hex (HandSHeadRun.getT s)
theorem hob_eq (s : PySem.W.SharedT) : hob s = hhk.obs s.abs := obsM_eq (HandSHeadRun.getT_eq s)
def hnm0 : List PySem.Str := ["RoadError", "BadTune", "BadNumber", "BadEntry", "BadWord", "WHEEL", "TIMES", "MORE", "MOST", "Dice", "mixed", "MOST_ENTRIES", "Queue", "REPEATS", "Order", "MOST_OVERLAP", "MOST_TICKS", "MOST_AHEAD", "MOST_SLEEP", "EARLY", "Player", "told_as", "number_in", "row_of", "numbers_in", "written", "woken_order", "woken", "SMALL", "MOST_NAME"]
def hnm1 : List PySem.Str := ["MOST_TUNES", "MOST_LONG", "look_name", "Shelf", "_law_cell", "_law_mix", "_law_draw", "_law_pick", "_law_refusal", "_law_one", "_law_told", "_law_call", "_law_all", "_law_tune", "_law_led", "_law_shelf", "_law_begun", "_law_is_text", "_law_same"]
def hnm : List PySem.Str := hnm0 ++ (hnm1)
theorem hrun2 (w : World) : ∀ os, (HandSHeadRun.endF (HandSHeadRun.stepQ (HandSHeadRun.denQ HandSHeadRun.tabQ) hR.prog w) 20000 hR.prog w os).map hob = some (hhk.val w) := by
  intro os
  kernel_rfl
theorem hrun (w : World) : HandSHeadRun.RunEq hR (PySem.W.view hR.prog [57]) hhk hob 20000 hnm w := by
  refine run_split (fun os => ?_) (hrun2 w)
  kernel_rfl
theorem txt_of {K : PySem.W.Frag} {h : Heap} {mg : Str → Option Value} (X : K.In h) (G : h.Ns mainGlobals mg) (c : SaysM hfa hfn hex K) : ∃ A : Ads, Txt K mg A := by
  have cd := c.d
  have cx := c.more
  obtain ⟨d_Dice_init__, F_Dice_init__⟩ := cd.def_ 0 (d := dd_Dice_init__) rfl
  obtain ⟨d_Dice_below, F_Dice_below⟩ := cd.def_ 1 (d := dd_Dice_below) rfl
  obtain ⟨d_Dice_twin, F_Dice_twin⟩ := cd.def_ 2 (d := dd_Dice_twin) rfl
  obtain ⟨d_mixed, F_mixed⟩ := cd.def_ 3 (d := dd_mixed) rfl
  obtain ⟨d_Queue_init__, F_Queue_init__⟩ := cd.def_ 4 (d := dd_Queue_init__) rfl
  obtain ⟨d_Queue_entries, F_Queue_entries⟩ := cd.def_ 5 (d := dd_Queue_entries) rfl
  obtain ⟨d_Queue_need, F_Queue_need⟩ := cd.def_ 6 (d := dd_Queue_need) rfl
  obtain ⟨d_Queue_tune, F_Queue_tune⟩ := cd.def_ 7 (d := dd_Queue_tune) rfl
  obtain ⟨d_Queue_put, F_Queue_put⟩ := cd.def_ 8 (d := dd_Queue_put) rfl
  obtain ⟨d_Queue_remove, F_Queue_remove⟩ := cd.def_ 9 (d := dd_Queue_remove) rfl
  obtain ⟨d_Queue_move, F_Queue_move⟩ := cd.def_ 10 (d := dd_Queue_move) rfl
  obtain ⟨d_Queue_place, F_Queue_place⟩ := cd.def_ 11 (d := dd_Queue_place) rfl
  obtain ⟨d_Queue_twin, F_Queue_twin⟩ := cd.def_ 12 (d := dd_Queue_twin) rfl
  obtain ⟨d_Order_init__, F_Order_init__⟩ := cd.def_ 13 (d := dd_Order_init__) rfl
  obtain ⟨d_Order_set_again, F_Order_set_again⟩ := cd.def_ 14 (d := dd_Order_set_again) rfl
  obtain ⟨d_Order_set_mixed, F_Order_set_mixed⟩ := cd.def_ 15 (d := dd_Order_set_mixed) rfl
  obtain ⟨d_Order_put, F_Order_put⟩ := cd.def_ 16 (d := dd_Order_put) rfl
  obtain ⟨d_Order_remove, F_Order_remove⟩ := cd.def_ 17 (d := dd_Order_remove) rfl
  obtain ⟨d_Order_next_plain, F_Order_next_plain⟩ := cd.def_ 18 (d := dd_Order_next_plain) rfl
  obtain ⟨d_Order_next_mixed, F_Order_next_mixed⟩ := cd.def_ 19 (d := dd_Order_next_mixed) rfl
  obtain ⟨d_Order_after, F_Order_after⟩ := cd.def_ 20 (d := dd_Order_after) rfl
  obtain ⟨d_Order_skip, F_Order_skip⟩ := cd.def_ 21 (d := dd_Order_skip) rfl
  obtain ⟨d_Order_first, F_Order_first⟩ := cd.def_ 22 (d := dd_Order_first) rfl
  obtain ⟨d_Order_began, F_Order_began⟩ := cd.def_ 23 (d := dd_Order_began) rfl
  obtain ⟨d_Order_twin, F_Order_twin⟩ := cd.def_ 24 (d := dd_Order_twin) rfl
  obtain ⟨d_Player_init__, F_Player_init__⟩ := cd.def_ 25 (d := dd_Player_init__) rfl
  obtain ⟨d_Player_long, F_Player_long⟩ := cd.def_ 26 (d := dd_Player_long) rfl
  obtain ⟨d_Player_add, F_Player_add⟩ := cd.def_ 27 (d := dd_Player_add) rfl
  obtain ⟨d_Player_remove, F_Player_remove⟩ := cd.def_ 28 (d := dd_Player_remove) rfl
  obtain ⟨d_Player_move, F_Player_move⟩ := cd.def_ 29 (d := dd_Player_move) rfl
  obtain ⟨d_Player_play_soon, F_Player_play_soon⟩ := cd.def_ 30 (d := dd_Player_play_soon) rfl
  obtain ⟨d_Player_entries, F_Player_entries⟩ := cd.def_ 31 (d := dd_Player_entries) rfl
  obtain ⟨d_Player_tune, F_Player_tune⟩ := cd.def_ 32 (d := dd_Player_tune) rfl
  obtain ⟨d_Player_set_again, F_Player_set_again⟩ := cd.def_ 33 (d := dd_Player_set_again) rfl
  obtain ⟨d_Player_set_mixed, F_Player_set_mixed⟩ := cd.def_ 34 (d := dd_Player_set_mixed) rfl
  obtain ⟨d_Player_begin, F_Player_begin⟩ := cd.def_ 35 (d := dd_Player_begin) rfl
  obtain ⟨d_Player_play, F_Player_play⟩ := cd.def_ 36 (d := dd_Player_play) rfl
  obtain ⟨d_Player_resume, F_Player_resume⟩ := cd.def_ 37 (d := dd_Player_resume) rfl
  obtain ⟨d_Player_pause, F_Player_pause⟩ := cd.def_ 38 (d := dd_Player_pause) rfl
  obtain ⟨d_Player_next_entry, F_Player_next_entry⟩ := cd.def_ 39 (d := dd_Player_next_entry) rfl
  obtain ⟨d_Player_skip, F_Player_skip⟩ := cd.def_ 40 (d := dd_Player_skip) rfl
  obtain ⟨d_Player_back, F_Player_back⟩ := cd.def_ 41 (d := dd_Player_back) rfl
  obtain ⟨d_Player_seek, F_Player_seek⟩ := cd.def_ 42 (d := dd_Player_seek) rfl
  obtain ⟨d_Player_stop_behind, F_Player_stop_behind⟩ := cd.def_ 43 (d := dd_Player_stop_behind) rfl
  obtain ⟨d_Player_sleep, F_Player_sleep⟩ := cd.def_ 44 (d := dd_Player_sleep) rfl
  obtain ⟨d_Player_join_long, F_Player_join_long⟩ := cd.def_ 45 (d := dd_Player_join_long) rfl
  obtain ⟨d_Player_step, F_Player_step⟩ := cd.def_ 46 (d := dd_Player_step) rfl
  obtain ⟨d_Player_turn_over, F_Player_turn_over⟩ := cd.def_ 47 (d := dd_Player_turn_over) rfl
  obtain ⟨d_Player_tick, F_Player_tick⟩ := cd.def_ 48 (d := dd_Player_tick) rfl
  obtain ⟨d_Player_state, F_Player_state⟩ := cd.def_ 49 (d := dd_Player_state) rfl
  obtain ⟨d_Player_sounds, F_Player_sounds⟩ := cd.def_ 50 (d := dd_Player_sounds) rfl
  obtain ⟨d_Player_log, F_Player_log⟩ := cd.def_ 51 (d := dd_Player_log) rfl
  obtain ⟨d_Player_ticks, F_Player_ticks⟩ := cd.def_ 52 (d := dd_Player_ticks) rfl
  obtain ⟨d_Player_ahead, F_Player_ahead⟩ := cd.def_ 53 (d := dd_Player_ahead) rfl
  obtain ⟨d_Player_twin, F_Player_twin⟩ := cd.def_ 54 (d := dd_Player_twin) rfl
  obtain ⟨d_told_as, F_told_as⟩ := cd.def_ 55 (d := dd_told_as) rfl
  obtain ⟨d_number_in, F_number_in⟩ := cd.def_ 56 (d := dd_number_in) rfl
  obtain ⟨d_row_of, F_row_of⟩ := cd.def_ 57 (d := dd_row_of) rfl
  obtain ⟨d_numbers_in, F_numbers_in⟩ := cd.def_ 58 (d := dd_numbers_in) rfl
  obtain ⟨d_written, F_written⟩ := cd.def_ 59 (d := dd_written) rfl
  obtain ⟨d_woken_order, F_woken_order⟩ := cd.def_ 60 (d := dd_woken_order) rfl
  obtain ⟨d_woken, F_woken⟩ := cd.def_ 61 (d := dd_woken) rfl
  obtain ⟨d_look_name, F_look_name⟩ := cd.def_ 62 (d := dd_look_name) rfl
  obtain ⟨d_Shelf_init__, F_Shelf_init__⟩ := cd.def_ 63 (d := dd_Shelf_init__) rfl
  obtain ⟨d_Shelf_add, F_Shelf_add⟩ := cd.def_ 64 (d := dd_Shelf_add) rfl
  obtain ⟨d_Shelf_need, F_Shelf_need⟩ := cd.def_ 65 (d := dd_Shelf_need) rfl
  obtain ⟨d_Shelf_long, F_Shelf_long⟩ := cd.def_ 66 (d := dd_Shelf_long) rfl
  obtain ⟨d_Shelf_names, F_Shelf_names⟩ := cd.def_ 67 (d := dd_Shelf_names) rfl
  obtain ⟨d_law_cell, F_law_cell⟩ := cd.def_ 68 (d := dd_law_cell) rfl
  obtain ⟨d_law_mix, F_law_mix⟩ := cd.def_ 69 (d := dd_law_mix) rfl
  obtain ⟨d_law_draw, F_law_draw⟩ := cd.def_ 70 (d := dd_law_draw) rfl
  obtain ⟨d_law_pick, F_law_pick⟩ := cd.def_ 71 (d := dd_law_pick) rfl
  obtain ⟨d_law_refusal, F_law_refusal⟩ := cd.def_ 72 (d := dd_law_refusal) rfl
  obtain ⟨d_law_one, F_law_one⟩ := cd.def_ 73 (d := dd_law_one) rfl
  obtain ⟨d_law_told, F_law_told⟩ := cd.def_ 74 (d := dd_law_told) rfl
  obtain ⟨d_law_call, F_law_call⟩ := cd.def_ 75 (d := dd_law_call) rfl
  obtain ⟨d_law_all, F_law_all⟩ := cd.def_ 76 (d := dd_law_all) rfl
  obtain ⟨d_law_tune, F_law_tune⟩ := cd.def_ 77 (d := dd_law_tune) rfl
  obtain ⟨d_law_led, F_law_led⟩ := cd.def_ 78 (d := dd_law_led) rfl
  obtain ⟨d_law_shelf, F_law_shelf⟩ := cd.def_ 79 (d := dd_law_shelf) rfl
  obtain ⟨d_law_begun, F_law_begun⟩ := cd.def_ 80 (d := dd_law_begun) rfl
  obtain ⟨d_law_is_text, F_law_is_text⟩ := cd.def_ 81 (d := dd_law_is_text) rfl
  obtain ⟨d_law_same, F_law_same⟩ := cd.def_ 82 (d := dd_law_same) rfl
  obtain ⟨d_law, F_law⟩ := cd.def_ 83 (d := dd_law) rfl
  refine ⟨{ c_RoadError := He.ga K "RoadError", c_BadTune := He.ga K "BadTune", c_BadNumber := He.ga K "BadNumber", c_BadEntry := He.ga K "BadEntry", c_BadWord := He.ga K "BadWord", c_Dice := He.ga K "Dice", c_Queue := He.ga K "Queue", c_Order := He.ga K "Order", c_Player := He.ga K "Player", c_Shelf := He.ga K "Shelf", f_Dice_init__ := He.fAd K ("Dice", some "__init__"), f_Dice_below := He.fAd K ("Dice", some "below"), f_Dice_twin := He.fAd K ("Dice", some "twin"), f_mixed := He.fAd K ("mixed", none), f_Queue_init__ := He.fAd K ("Queue", some "__init__"), f_Queue_entries := He.fAd K ("Queue", some "entries"), f_Queue_need := He.fAd K ("Queue", some "need"), f_Queue_tune := He.fAd K ("Queue", some "tune"), f_Queue_put := He.fAd K ("Queue", some "put"), f_Queue_remove := He.fAd K ("Queue", some "remove"), f_Queue_move := He.fAd K ("Queue", some "move"), f_Queue_place := He.fAd K ("Queue", some "place"), f_Queue_twin := He.fAd K ("Queue", some "twin"), f_Order_init__ := He.fAd K ("Order", some "__init__"), f_Order_set_again := He.fAd K ("Order", some "set_again"), f_Order_set_mixed := He.fAd K ("Order", some "set_mixed"), f_Order_put := He.fAd K ("Order", some "put"), f_Order_remove := He.fAd K ("Order", some "remove"), f_Order_next_plain := He.fAd K ("Order", some "next_plain"), f_Order_next_mixed := He.fAd K ("Order", some "next_mixed"), f_Order_after := He.fAd K ("Order", some "after"), f_Order_skip := He.fAd K ("Order", some "skip"), f_Order_first := He.fAd K ("Order", some "first"), f_Order_began := He.fAd K ("Order", some "began"), f_Order_twin := He.fAd K ("Order", some "twin"), f_Player_init__ := He.fAd K ("Player", some "__init__"), f_Player_long := He.fAd K ("Player", some "long"), f_Player_add := He.fAd K ("Player", some "add"), f_Player_remove := He.fAd K ("Player", some "remove"), f_Player_move := He.fAd K ("Player", some "move"), f_Player_play_soon := He.fAd K ("Player", some "play_soon"), f_Player_entries := He.fAd K ("Player", some "entries"), f_Player_tune := He.fAd K ("Player", some "tune"), f_Player_set_again := He.fAd K ("Player", some "set_again"), f_Player_set_mixed := He.fAd K ("Player", some "set_mixed"), f_Player_begin := He.fAd K ("Player", some "begin"), f_Player_play := He.fAd K ("Player", some "play"), f_Player_resume := He.fAd K ("Player", some "resume"), f_Player_pause := He.fAd K ("Player", some "pause"), f_Player_next_entry := He.fAd K ("Player", some "next_entry"), f_Player_skip := He.fAd K ("Player", some "skip"), f_Player_back := He.fAd K ("Player", some "back"), f_Player_seek := He.fAd K ("Player", some "seek"), f_Player_stop_behind := He.fAd K ("Player", some "stop_behind"), f_Player_sleep := He.fAd K ("Player", some "sleep"), f_Player_join_long := He.fAd K ("Player", some "join_long"), f_Player_step := He.fAd K ("Player", some "step"), f_Player_turn_over := He.fAd K ("Player", some "turn_over"), f_Player_tick := He.fAd K ("Player", some "tick"), f_Player_state := He.fAd K ("Player", some "state"), f_Player_sounds := He.fAd K ("Player", some "sounds"), f_Player_log := He.fAd K ("Player", some "log"), f_Player_ticks := He.fAd K ("Player", some "ticks"), f_Player_ahead := He.fAd K ("Player", some "ahead"), f_Player_twin := He.fAd K ("Player", some "twin"), f_told_as := He.fAd K ("told_as", none), f_number_in := He.fAd K ("number_in", none), f_row_of := He.fAd K ("row_of", none), f_numbers_in := He.fAd K ("numbers_in", none), f_written := He.fAd K ("written", none), f_woken_order := He.fAd K ("woken_order", none), f_woken := He.fAd K ("woken", none), f_look_name := He.fAd K ("look_name", none), f_Shelf_init__ := He.fAd K ("Shelf", some "__init__"), f_Shelf_add := He.fAd K ("Shelf", some "add"), f_Shelf_need := He.fAd K ("Shelf", some "need"), f_Shelf_long := He.fAd K ("Shelf", some "long"), f_Shelf_names := He.fAd K ("Shelf", some "names"), f_law_cell := He.fAd K ("_law_cell", none), f_law_mix := He.fAd K ("_law_mix", none), f_law_draw := He.fAd K ("_law_draw", none), f_law_pick := He.fAd K ("_law_pick", none), f_law_refusal := He.fAd K ("_law_refusal", none), f_law_one := He.fAd K ("_law_one", none), f_law_told := He.fAd K ("_law_told", none), f_law_call := He.fAd K ("_law_call", none), f_law_all := He.fAd K ("_law_all", none), f_law_tune := He.fAd K ("_law_tune", none), f_law_led := He.fAd K ("_law_led", none), f_law_shelf := He.fAd K ("_law_shelf", none), f_law_begun := He.fAd K ("_law_begun", none), f_law_is_text := He.fAd K ("_law_is_text", none), f_law_same := He.fAd K ("_law_same", none), f_law := He.fAd K ("law", none), o_REPEATS := He.ga K "REPEATS", d_Dice_init__ := d_Dice_init__, d_Dice_below := d_Dice_below, d_Dice_twin := d_Dice_twin, d_mixed := d_mixed, d_Queue_init__ := d_Queue_init__, d_Queue_entries := d_Queue_entries, d_Queue_need := d_Queue_need, d_Queue_tune := d_Queue_tune, d_Queue_put := d_Queue_put, d_Queue_remove := d_Queue_remove, d_Queue_move := d_Queue_move, d_Queue_place := d_Queue_place, d_Queue_twin := d_Queue_twin, d_Order_init__ := d_Order_init__, d_Order_set_again := d_Order_set_again, d_Order_set_mixed := d_Order_set_mixed, d_Order_put := d_Order_put, d_Order_remove := d_Order_remove, d_Order_next_plain := d_Order_next_plain, d_Order_next_mixed := d_Order_next_mixed, d_Order_after := d_Order_after, d_Order_skip := d_Order_skip, d_Order_first := d_Order_first, d_Order_began := d_Order_began, d_Order_twin := d_Order_twin, d_Player_init__ := d_Player_init__, d_Player_long := d_Player_long, d_Player_add := d_Player_add, d_Player_remove := d_Player_remove, d_Player_move := d_Player_move, d_Player_play_soon := d_Player_play_soon, d_Player_entries := d_Player_entries, d_Player_tune := d_Player_tune, d_Player_set_again := d_Player_set_again, d_Player_set_mixed := d_Player_set_mixed, d_Player_begin := d_Player_begin, d_Player_play := d_Player_play, d_Player_resume := d_Player_resume, d_Player_pause := d_Player_pause, d_Player_next_entry := d_Player_next_entry, d_Player_skip := d_Player_skip, d_Player_back := d_Player_back, d_Player_seek := d_Player_seek, d_Player_stop_behind := d_Player_stop_behind, d_Player_sleep := d_Player_sleep, d_Player_join_long := d_Player_join_long, d_Player_step := d_Player_step, d_Player_turn_over := d_Player_turn_over, d_Player_tick := d_Player_tick, d_Player_state := d_Player_state, d_Player_sounds := d_Player_sounds, d_Player_log := d_Player_log, d_Player_ticks := d_Player_ticks, d_Player_ahead := d_Player_ahead, d_Player_twin := d_Player_twin, d_told_as := d_told_as, d_number_in := d_number_in, d_row_of := d_row_of, d_numbers_in := d_numbers_in, d_written := d_written, d_woken_order := d_woken_order, d_woken := d_woken, d_look_name := d_look_name, d_Shelf_init__ := d_Shelf_init__, d_Shelf_add := d_Shelf_add, d_Shelf_need := d_Shelf_need, d_Shelf_long := d_Shelf_long, d_Shelf_names := d_Shelf_names, d_law_cell := d_law_cell, d_law_mix := d_law_mix, d_law_draw := d_law_draw, d_law_pick := d_law_pick, d_law_refusal := d_law_refusal, d_law_one := d_law_one, d_law_told := d_law_told, d_law_call := d_law_call, d_law_all := d_law_all, d_law_tune := d_law_tune, d_law_led := d_law_led, d_law_shelf := d_law_shelf, d_law_begun := d_law_begun, d_law_is_text := d_law_is_text, d_law_same := d_law_same, d_law := d_law }, ?_⟩
  exact {
    z_ValueError := He.free_ok X G (cd.fact 0 (f := .free "ValueError") rfl),
    z_all := He.free_ok X G (cd.fact 1 (f := .free "all") rfl),
    z_dict := He.free_ok X G (cd.fact 2 (f := .free "dict") rfl),
    z_int := He.free_ok X G (cd.fact 3 (f := .free "int") rfl),
    z_isinstance := He.free_ok X G (cd.fact 4 (f := .free "isinstance") rfl),
    z_len := He.free_ok X G (cd.fact 5 (f := .free "len") rfl),
    z_list := He.free_ok X G (cd.fact 6 (f := .free "list") rfl),
    z_min := He.free_ok X G (cd.fact 7 (f := .free "min") rfl),
    z_range := He.free_ok X G (cd.fact 8 (f := .free "range") rfl),
    z_sorted := He.free_ok X G (cd.fact 9 (f := .free "sorted") rfl),
    z_str := He.free_ok X G (cd.fact 10 (f := .free "str") rfl),
    z_tuple := He.free_ok X G (cd.fact 11 (f := .free "tuple") rfl),
    z_zip := He.free_ok X G (cd.fact 12 (f := .free "zip") rfl),
    gi_WHEEL := He.int_ok X G (cd.fact 13 (f := .int "WHEEL" 6075) rfl),
    gi_TIMES := He.int_ok X G (cd.fact 14 (f := .int "TIMES" 106) rfl),
    gi_MORE := He.int_ok X G (cd.fact 15 (f := .int "MORE" 1283) rfl),
    gi_MOST := He.int_ok X G (cd.fact 16 (f := .int "MOST" 60) rfl),
    gi_MOST_ENTRIES := He.int_ok X G (cd.fact 17 (f := .int "MOST_ENTRIES" 12) rfl),
    gi_REPEATS := He.glo_ok X G (cd.fact 18 (f := .glo "REPEATS") rfl),
    tu_REPEATS := fun H => He.tupB_ok (hex_at cx 87 (f := hx_tu_REPEATS)) H,
    gi_MOST_OVERLAP := He.int_ok X G (cd.fact 19 (f := .int "MOST_OVERLAP" 9) rfl),
    gi_MOST_TICKS := He.int_ok X G (cd.fact 20 (f := .int "MOST_TICKS" 200) rfl),
    gi_MOST_AHEAD := He.int_ok X G (cd.fact 21 (f := .int "MOST_AHEAD" 12) rfl),
    gi_MOST_SLEEP := He.int_ok X G (cd.fact 22 (f := .int "MOST_SLEEP" 60) rfl),
    gi_EARLY := He.int_ok X G (cd.fact 23 (f := .int "EARLY" 3) rfl),
    gi_SMALL := He.str_ok X G (cd.fact 24 (f := .str "SMALL" "abcdefghijklmnopqrstuvwxyz") rfl),
    gi_MOST_NAME := He.int_ok X G (cd.fact 25 (f := .int "MOST_NAME" 6) rfl),
    gi_MOST_TUNES := He.int_ok X G (cd.fact 26 (f := .int "MOST_TUNES" 6) rfl),
    gi_MOST_LONG := He.int_ok X G (cd.fact 27 (f := .int "MOST_LONG" 40) rfl),
    g_RoadError := He.glo_ok X G (cd.fact 28 (f := .glo "RoadError") rfl),
    g_BadTune := He.glo_ok X G (cd.fact 29 (f := .glo "BadTune") rfl),
    g_BadNumber := He.glo_ok X G (cd.fact 30 (f := .glo "BadNumber") rfl),
    g_BadEntry := He.glo_ok X G (cd.fact 31 (f := .glo "BadEntry") rfl),
    g_BadWord := He.glo_ok X G (cd.fact 32 (f := .glo "BadWord") rfl),
    g_Dice := He.glo_ok X G (cd.fact 33 (f := .glo "Dice") rfl),
    g_Queue := He.glo_ok X G (cd.fact 34 (f := .glo "Queue") rfl),
    g_Order := He.glo_ok X G (cd.fact 35 (f := .glo "Order") rfl),
    g_Player := He.glo_ok X G (cd.fact 36 (f := .glo "Player") rfl),
    g_Shelf := He.glo_ok X G (cd.fact 37 (f := .glo "Shelf") rfl),
    c_Dice := He.cls_ok (cd.fact 38 (f := .cls "Dice") rfl),
    M_Dice := He.mkr_ok (cd.fact 39 (f := .mkr "Dice") rfl),
    n_Dice_number := He.noat_ok (cd.fact 40 (f := .noat "Dice" "number") rfl),
    c_Queue := He.cls_ok (cd.fact 41 (f := .cls "Queue") rfl),
    M_Queue := He.mkr_ok (cd.fact 42 (f := .mkr "Queue") rfl),
    n_Queue_tunes := He.noat_ok (cd.fact 43 (f := .noat "Queue" "tunes") rfl),
    n_Queue_turn := He.noat_ok (cd.fact 44 (f := .noat "Queue" "turn") rfl),
    n_Queue_last := He.noat_ok (cd.fact 45 (f := .noat "Queue" "last") rfl),
    c_Order := He.cls_ok (cd.fact 46 (f := .cls "Order") rfl),
    M_Order := He.mkr_ok (cd.fact 47 (f := .mkr "Order") rfl),
    n_Order_queue := He.noat_ok (cd.fact 48 (f := .noat "Order" "queue") rfl),
    n_Order_dice := He.noat_ok (cd.fact 49 (f := .noat "Order" "dice") rfl),
    n_Order_is_mixed := He.noat_ok (cd.fact 50 (f := .noat "Order" "is_mixed") rfl),
    n_Order_again := He.noat_ok (cd.fact 51 (f := .noat "Order" "again") rfl),
    n_Order_deck := He.noat_ok (cd.fact 52 (f := .noat "Order" "deck") rfl),
    n_Order_is_gone := He.noat_ok (cd.fact 53 (f := .noat "Order" "is_gone") rfl),
    n_Order_behind := He.noat_ok (cd.fact 54 (f := .noat "Order" "behind") rfl),
    c_Player := He.cls_ok (cd.fact 55 (f := .cls "Player") rfl),
    M_Player := He.mkr_ok (cd.fact 56 (f := .mkr "Player") rfl),
    n_Player_shelf := He.noat_ok (cd.fact 57 (f := .noat "Player" "shelf") rfl),
    n_Player_overlap := He.noat_ok (cd.fact 58 (f := .noat "Player" "overlap") rfl),
    n_Player_order := He.noat_ok (cd.fact 59 (f := .noat "Player" "order") rfl),
    n_Player_time := He.noat_ok (cd.fact 60 (f := .noat "Player" "time") rfl),
    n_Player_now := He.noat_ok (cd.fact 61 (f := .noat "Player" "now") rfl),
    n_Player_spot := He.noat_ok (cd.fact 62 (f := .noat "Player" "spot") rfl),
    n_Player_old := He.noat_ok (cd.fact 63 (f := .noat "Player" "old") rfl),
    n_Player_soon := He.noat_ok (cd.fact 64 (f := .noat "Player" "soon") rfl),
    n_Player_past := He.noat_ok (cd.fact 65 (f := .noat "Player" "past") rfl),
    n_Player_rows := He.noat_ok (cd.fact 66 (f := .noat "Player" "rows") rfl),
    n_Player_is_playing := He.noat_ok (cd.fact 67 (f := .noat "Player" "is_playing") rfl),
    n_Player_stops := He.noat_ok (cd.fact 68 (f := .noat "Player" "stops") rfl),
    n_Player_sleep_left := He.noat_ok (cd.fact 69 (f := .noat "Player" "sleep_left") rfl),
    c_Shelf := He.cls_ok (cd.fact 70 (f := .cls "Shelf") rfl),
    M_Shelf := He.mkr_ok (cd.fact 71 (f := .mkr "Shelf") rfl),
    n_Shelf_longs := He.noat_ok (cd.fact 72 (f := .noat "Shelf" "longs") rfl),
    x_RoadError := (hex_at cx 0 (f := hx_x_RoadError)),
    k_RoadError := (hex_at cx 1 (f := hx_k_RoadError)),
    r_RoadError := (of_decide_eq_true (hex_at cx 2 (f := hx_r_RoadError))),
    t_RoadError := (of_decide_eq_true (hex_at cx 3 (f := hx_t_RoadError))),
    e_RoadError := ⟨(of_decide_eq_true (hex_at cx 4 (f := hx_e_RoadError_hg))), (of_decide_eq_true (hex_at cx 5 (f := hx_e_RoadError_hk))), (of_decide_eq_true (hex_at cx 2 (f := hx_r_RoadError))), (hex_at cx 6 (f := hx_e_RoadError_hd)), (of_decide_eq_true (hex_at cx 7 (f := hx_e_RoadError_ha))), (of_decide_eq_true (hex_at cx 85 (f := hx_e_hn))), (of_decide_eq_true (hex_at cx 86 (f := hx_e_ht))), (of_decide_eq_true (hex_at cx 8 (f := hx_e_RoadError_hm)))⟩,
    m_RoadError := (of_decide_eq_true (hex_at cx 9 (f := hx_m_RoadError))),
    mm_RoadError := (of_decide_eq_true (hex_at cx 10 (f := hx_mm_RoadError))),
    i_RoadError_RoadError := (of_decide_eq_true (hex_at cx 11 (f := hx_i_RoadError_RoadError))),
    i_RoadError_BadTune := (of_decide_eq_true (hex_at cx 12 (f := hx_i_RoadError_BadTune))),
    i_RoadError_BadNumber := (of_decide_eq_true (hex_at cx 13 (f := hx_i_RoadError_BadNumber))),
    i_RoadError_BadEntry := (of_decide_eq_true (hex_at cx 14 (f := hx_i_RoadError_BadEntry))),
    i_RoadError_BadWord := (of_decide_eq_true (hex_at cx 15 (f := hx_i_RoadError_BadWord))),
    i_RoadError_ValueError := (of_decide_eq_true (hex_at cx 16 (f := hx_i_RoadError_ValueError))),
    x_BadTune := (hex_at cx 17 (f := hx_x_BadTune)),
    k_BadTune := (hex_at cx 18 (f := hx_k_BadTune)),
    r_BadTune := (of_decide_eq_true (hex_at cx 19 (f := hx_r_BadTune))),
    t_BadTune := (of_decide_eq_true (hex_at cx 20 (f := hx_t_BadTune))),
    e_BadTune := ⟨(of_decide_eq_true (hex_at cx 21 (f := hx_e_BadTune_hg))), (of_decide_eq_true (hex_at cx 22 (f := hx_e_BadTune_hk))), (of_decide_eq_true (hex_at cx 19 (f := hx_r_BadTune))), (hex_at cx 23 (f := hx_e_BadTune_hd)), (of_decide_eq_true (hex_at cx 24 (f := hx_e_BadTune_ha))), (of_decide_eq_true (hex_at cx 85 (f := hx_e_hn))), (of_decide_eq_true (hex_at cx 86 (f := hx_e_ht))), (of_decide_eq_true (hex_at cx 25 (f := hx_e_BadTune_hm)))⟩,
    m_BadTune := (of_decide_eq_true (hex_at cx 26 (f := hx_m_BadTune))),
    mm_BadTune := (of_decide_eq_true (hex_at cx 27 (f := hx_mm_BadTune))),
    i_BadTune_RoadError := (of_decide_eq_true (hex_at cx 28 (f := hx_i_BadTune_RoadError))),
    i_BadTune_BadTune := (of_decide_eq_true (hex_at cx 29 (f := hx_i_BadTune_BadTune))),
    i_BadTune_BadNumber := (of_decide_eq_true (hex_at cx 30 (f := hx_i_BadTune_BadNumber))),
    i_BadTune_BadEntry := (of_decide_eq_true (hex_at cx 31 (f := hx_i_BadTune_BadEntry))),
    i_BadTune_BadWord := (of_decide_eq_true (hex_at cx 32 (f := hx_i_BadTune_BadWord))),
    i_BadTune_ValueError := (of_decide_eq_true (hex_at cx 33 (f := hx_i_BadTune_ValueError))),
    x_BadNumber := (hex_at cx 34 (f := hx_x_BadNumber)),
    k_BadNumber := (hex_at cx 35 (f := hx_k_BadNumber)),
    r_BadNumber := (of_decide_eq_true (hex_at cx 36 (f := hx_r_BadNumber))),
    t_BadNumber := (of_decide_eq_true (hex_at cx 37 (f := hx_t_BadNumber))),
    e_BadNumber := ⟨(of_decide_eq_true (hex_at cx 38 (f := hx_e_BadNumber_hg))), (of_decide_eq_true (hex_at cx 39 (f := hx_e_BadNumber_hk))), (of_decide_eq_true (hex_at cx 36 (f := hx_r_BadNumber))), (hex_at cx 40 (f := hx_e_BadNumber_hd)), (of_decide_eq_true (hex_at cx 41 (f := hx_e_BadNumber_ha))), (of_decide_eq_true (hex_at cx 85 (f := hx_e_hn))), (of_decide_eq_true (hex_at cx 86 (f := hx_e_ht))), (of_decide_eq_true (hex_at cx 42 (f := hx_e_BadNumber_hm)))⟩,
    m_BadNumber := (of_decide_eq_true (hex_at cx 43 (f := hx_m_BadNumber))),
    mm_BadNumber := (of_decide_eq_true (hex_at cx 44 (f := hx_mm_BadNumber))),
    i_BadNumber_RoadError := (of_decide_eq_true (hex_at cx 45 (f := hx_i_BadNumber_RoadError))),
    i_BadNumber_BadTune := (of_decide_eq_true (hex_at cx 46 (f := hx_i_BadNumber_BadTune))),
    i_BadNumber_BadNumber := (of_decide_eq_true (hex_at cx 47 (f := hx_i_BadNumber_BadNumber))),
    i_BadNumber_BadEntry := (of_decide_eq_true (hex_at cx 48 (f := hx_i_BadNumber_BadEntry))),
    i_BadNumber_BadWord := (of_decide_eq_true (hex_at cx 49 (f := hx_i_BadNumber_BadWord))),
    i_BadNumber_ValueError := (of_decide_eq_true (hex_at cx 50 (f := hx_i_BadNumber_ValueError))),
    x_BadEntry := (hex_at cx 51 (f := hx_x_BadEntry)),
    k_BadEntry := (hex_at cx 52 (f := hx_k_BadEntry)),
    r_BadEntry := (of_decide_eq_true (hex_at cx 53 (f := hx_r_BadEntry))),
    t_BadEntry := (of_decide_eq_true (hex_at cx 54 (f := hx_t_BadEntry))),
    e_BadEntry := ⟨(of_decide_eq_true (hex_at cx 55 (f := hx_e_BadEntry_hg))), (of_decide_eq_true (hex_at cx 56 (f := hx_e_BadEntry_hk))), (of_decide_eq_true (hex_at cx 53 (f := hx_r_BadEntry))), (hex_at cx 57 (f := hx_e_BadEntry_hd)), (of_decide_eq_true (hex_at cx 58 (f := hx_e_BadEntry_ha))), (of_decide_eq_true (hex_at cx 85 (f := hx_e_hn))), (of_decide_eq_true (hex_at cx 86 (f := hx_e_ht))), (of_decide_eq_true (hex_at cx 59 (f := hx_e_BadEntry_hm)))⟩,
    m_BadEntry := (of_decide_eq_true (hex_at cx 60 (f := hx_m_BadEntry))),
    mm_BadEntry := (of_decide_eq_true (hex_at cx 61 (f := hx_mm_BadEntry))),
    i_BadEntry_RoadError := (of_decide_eq_true (hex_at cx 62 (f := hx_i_BadEntry_RoadError))),
    i_BadEntry_BadTune := (of_decide_eq_true (hex_at cx 63 (f := hx_i_BadEntry_BadTune))),
    i_BadEntry_BadNumber := (of_decide_eq_true (hex_at cx 64 (f := hx_i_BadEntry_BadNumber))),
    i_BadEntry_BadEntry := (of_decide_eq_true (hex_at cx 65 (f := hx_i_BadEntry_BadEntry))),
    i_BadEntry_BadWord := (of_decide_eq_true (hex_at cx 66 (f := hx_i_BadEntry_BadWord))),
    i_BadEntry_ValueError := (of_decide_eq_true (hex_at cx 67 (f := hx_i_BadEntry_ValueError))),
    x_BadWord := (hex_at cx 68 (f := hx_x_BadWord)),
    k_BadWord := (hex_at cx 69 (f := hx_k_BadWord)),
    r_BadWord := (of_decide_eq_true (hex_at cx 70 (f := hx_r_BadWord))),
    t_BadWord := (of_decide_eq_true (hex_at cx 71 (f := hx_t_BadWord))),
    e_BadWord := ⟨(of_decide_eq_true (hex_at cx 72 (f := hx_e_BadWord_hg))), (of_decide_eq_true (hex_at cx 73 (f := hx_e_BadWord_hk))), (of_decide_eq_true (hex_at cx 70 (f := hx_r_BadWord))), (hex_at cx 74 (f := hx_e_BadWord_hd)), (of_decide_eq_true (hex_at cx 75 (f := hx_e_BadWord_ha))), (of_decide_eq_true (hex_at cx 85 (f := hx_e_hn))), (of_decide_eq_true (hex_at cx 86 (f := hx_e_ht))), (of_decide_eq_true (hex_at cx 76 (f := hx_e_BadWord_hm)))⟩,
    m_BadWord := (of_decide_eq_true (hex_at cx 77 (f := hx_m_BadWord))),
    mm_BadWord := (of_decide_eq_true (hex_at cx 78 (f := hx_mm_BadWord))),
    i_BadWord_RoadError := (of_decide_eq_true (hex_at cx 79 (f := hx_i_BadWord_RoadError))),
    i_BadWord_BadTune := (of_decide_eq_true (hex_at cx 80 (f := hx_i_BadWord_BadTune))),
    i_BadWord_BadNumber := (of_decide_eq_true (hex_at cx 81 (f := hx_i_BadWord_BadNumber))),
    i_BadWord_BadEntry := (of_decide_eq_true (hex_at cx 82 (f := hx_i_BadWord_BadEntry))),
    i_BadWord_BadWord := (of_decide_eq_true (hex_at cx 83 (f := hx_i_BadWord_BadWord))),
    i_BadWord_ValueError := (of_decide_eq_true (hex_at cx 84 (f := hx_i_BadWord_ValueError))),
    F_Dice_init__ := fun_of F_Dice_init__,
    b_Dice_init__ := FunD.bindsN F_Dice_init__ (fun _ _ _ _ _ _ us hl => match us, hl with | [_, _], _ => rfl),
    m_Dice_init__ := He.meth_ok (cd.fact 73 (f := .meth "Dice" "__init__") rfl),
    F_Dice_below := fun_of F_Dice_below,
    b_Dice_below := FunD.bindsN F_Dice_below (fun _ _ _ _ _ _ us hl => match us, hl with | [_, _], _ => rfl),
    m_Dice_below := He.meth_ok (cd.fact 74 (f := .meth "Dice" "below") rfl),
    F_Dice_twin := fun_of F_Dice_twin,
    b_Dice_twin := FunD.bindsN F_Dice_twin (fun _ _ _ _ _ _ us hl => match us, hl with | [_], _ => rfl),
    m_Dice_twin := He.meth_ok (cd.fact 75 (f := .meth "Dice" "twin") rfl),
    F_mixed := fun_of F_mixed,
    b_mixed := FunD.bindsN F_mixed (fun _ _ _ _ _ _ us hl => match us, hl with | [_, _], _ => rfl),
    g_mixed := He.glo_ok X G (cd.fact 76 (f := .glo "mixed") rfl),
    k_mixed := F_mixed.kp,
    F_Queue_init__ := fun_of F_Queue_init__,
    b_Queue_init__ := FunD.bindsN F_Queue_init__ (fun _ _ _ _ _ _ us hl => match us, hl with | [_], _ => rfl),
    m_Queue_init__ := He.meth_ok (cd.fact 77 (f := .meth "Queue" "__init__") rfl),
    F_Queue_entries := fun_of F_Queue_entries,
    b_Queue_entries := FunD.bindsN F_Queue_entries (fun _ _ _ _ _ _ us hl => match us, hl with | [_], _ => rfl),
    m_Queue_entries := He.meth_ok (cd.fact 78 (f := .meth "Queue" "entries") rfl),
    F_Queue_need := fun_of F_Queue_need,
    b_Queue_need := FunD.bindsN F_Queue_need (fun _ _ _ _ _ _ us hl => match us, hl with | [_, _], _ => rfl),
    m_Queue_need := He.meth_ok (cd.fact 79 (f := .meth "Queue" "need") rfl),
    F_Queue_tune := fun_of F_Queue_tune,
    b_Queue_tune := FunD.bindsN F_Queue_tune (fun _ _ _ _ _ _ us hl => match us, hl with | [_, _], _ => rfl),
    m_Queue_tune := He.meth_ok (cd.fact 80 (f := .meth "Queue" "tune") rfl),
    F_Queue_put := fun_of F_Queue_put,
    b_Queue_put := FunD.bindsN F_Queue_put (fun _ _ _ _ _ _ us hl => match us, hl with | [_, _, _], _ => rfl),
    m_Queue_put := He.meth_ok (cd.fact 81 (f := .meth "Queue" "put") rfl),
    F_Queue_remove := fun_of F_Queue_remove,
    b_Queue_remove := FunD.bindsN F_Queue_remove (fun _ _ _ _ _ _ us hl => match us, hl with | [_, _], _ => rfl),
    m_Queue_remove := He.meth_ok (cd.fact 82 (f := .meth "Queue" "remove") rfl),
    F_Queue_move := fun_of F_Queue_move,
    b_Queue_move := FunD.bindsN F_Queue_move (fun _ _ _ _ _ _ us hl => match us, hl with | [_, _, _], _ => rfl),
    m_Queue_move := He.meth_ok (cd.fact 83 (f := .meth "Queue" "move") rfl),
    F_Queue_place := fun_of F_Queue_place,
    b_Queue_place := FunD.bindsN F_Queue_place (fun _ _ _ _ _ _ us hl => match us, hl with | [_, _], _ => rfl),
    m_Queue_place := He.meth_ok (cd.fact 84 (f := .meth "Queue" "place") rfl),
    F_Queue_twin := fun_of F_Queue_twin,
    b_Queue_twin := FunD.bindsN F_Queue_twin (fun _ _ _ _ _ _ us hl => match us, hl with | [_], _ => rfl),
    m_Queue_twin := He.meth_ok (cd.fact 85 (f := .meth "Queue" "twin") rfl),
    F_Order_init__ := fun_of F_Order_init__,
    b_Order_init__ := FunD.bindsN F_Order_init__ (fun _ _ _ _ _ _ us hl => match us, hl with | [_, _], _ => rfl),
    m_Order_init__ := He.meth_ok (cd.fact 86 (f := .meth "Order" "__init__") rfl),
    F_Order_set_again := fun_of F_Order_set_again,
    b_Order_set_again := FunD.bindsN F_Order_set_again (fun _ _ _ _ _ _ us hl => match us, hl with | [_, _], _ => rfl),
    m_Order_set_again := He.meth_ok (cd.fact 87 (f := .meth "Order" "set_again") rfl),
    F_Order_set_mixed := fun_of F_Order_set_mixed,
    b_Order_set_mixed := FunD.bindsN F_Order_set_mixed (fun _ _ _ _ _ _ us hl => match us, hl with | [_, _, _], _ => rfl),
    m_Order_set_mixed := He.meth_ok (cd.fact 88 (f := .meth "Order" "set_mixed") rfl),
    F_Order_put := fun_of F_Order_put,
    b_Order_put := FunD.bindsN F_Order_put (fun _ _ _ _ _ _ us hl => match us, hl with | [_, _, _], _ => rfl),
    m_Order_put := He.meth_ok (cd.fact 89 (f := .meth "Order" "put") rfl),
    F_Order_remove := fun_of F_Order_remove,
    b_Order_remove := FunD.bindsN F_Order_remove (fun _ _ _ _ _ _ us hl => match us, hl with | [_, _, _], _ => rfl),
    m_Order_remove := He.meth_ok (cd.fact 90 (f := .meth "Order" "remove") rfl),
    F_Order_next_plain := fun_of F_Order_next_plain,
    b_Order_next_plain := FunD.bindsN F_Order_next_plain (fun _ _ _ _ _ _ us hl => match us, hl with | [_, _], _ => rfl),
    m_Order_next_plain := He.meth_ok (cd.fact 91 (f := .meth "Order" "next_plain") rfl),
    F_Order_next_mixed := fun_of F_Order_next_mixed,
    b_Order_next_mixed := FunD.bindsN F_Order_next_mixed (fun _ _ _ _ _ _ us hl => match us, hl with | [_, _], _ => rfl),
    m_Order_next_mixed := He.meth_ok (cd.fact 92 (f := .meth "Order" "next_mixed") rfl),
    F_Order_after := fun_of F_Order_after,
    b_Order_after := FunD.bindsN F_Order_after (fun _ _ _ _ _ _ us hl => match us, hl with | [_, _], _ => rfl),
    m_Order_after := He.meth_ok (cd.fact 93 (f := .meth "Order" "after") rfl),
    F_Order_skip := fun_of F_Order_skip,
    b_Order_skip := FunD.bindsN F_Order_skip (fun _ _ _ _ _ _ us hl => match us, hl with | [_, _], _ => rfl),
    m_Order_skip := He.meth_ok (cd.fact 94 (f := .meth "Order" "skip") rfl),
    F_Order_first := fun_of F_Order_first,
    b_Order_first := FunD.bindsN F_Order_first (fun _ _ _ _ _ _ us hl => match us, hl with | [_], _ => rfl),
    m_Order_first := He.meth_ok (cd.fact 95 (f := .meth "Order" "first") rfl),
    F_Order_began := fun_of F_Order_began,
    b_Order_began := FunD.bindsN F_Order_began (fun _ _ _ _ _ _ us hl => match us, hl with | [_, _], _ => rfl),
    m_Order_began := He.meth_ok (cd.fact 96 (f := .meth "Order" "began") rfl),
    F_Order_twin := fun_of F_Order_twin,
    b_Order_twin := FunD.bindsN F_Order_twin (fun _ _ _ _ _ _ us hl => match us, hl with | [_], _ => rfl),
    m_Order_twin := He.meth_ok (cd.fact 97 (f := .meth "Order" "twin") rfl),
    F_Player_init__ := fun_of F_Player_init__,
    b_Player_init__ := FunD.bindsN F_Player_init__ (fun _ _ _ _ _ _ us hl => match us, hl with | [_, _, _, _], _ => rfl),
    m_Player_init__ := He.meth_ok (cd.fact 98 (f := .meth "Player" "__init__") rfl),
    F_Player_long := fun_of F_Player_long,
    b_Player_long := FunD.bindsN F_Player_long (fun _ _ _ _ _ _ us hl => match us, hl with | [_, _], _ => rfl),
    m_Player_long := He.meth_ok (cd.fact 99 (f := .meth "Player" "long") rfl),
    F_Player_add := fun_of F_Player_add,
    b_Player_add := FunD.bindsN F_Player_add (fun _ _ _ _ _ _ us hl => match us, hl with | [_, _, _], _ => rfl),
    m_Player_add := He.meth_ok (cd.fact 100 (f := .meth "Player" "add") rfl),
    F_Player_remove := fun_of F_Player_remove,
    b_Player_remove := FunD.bindsN F_Player_remove (fun _ _ _ _ _ _ us hl => match us, hl with | [_, _], _ => rfl),
    m_Player_remove := He.meth_ok (cd.fact 101 (f := .meth "Player" "remove") rfl),
    F_Player_move := fun_of F_Player_move,
    b_Player_move := FunD.bindsN F_Player_move (fun _ _ _ _ _ _ us hl => match us, hl with | [_, _, _], _ => rfl),
    m_Player_move := He.meth_ok (cd.fact 102 (f := .meth "Player" "move") rfl),
    F_Player_play_soon := fun_of F_Player_play_soon,
    b_Player_play_soon := FunD.bindsN F_Player_play_soon (fun _ _ _ _ _ _ us hl => match us, hl with | [_, _], _ => rfl),
    m_Player_play_soon := He.meth_ok (cd.fact 103 (f := .meth "Player" "play_soon") rfl),
    F_Player_entries := fun_of F_Player_entries,
    b_Player_entries := FunD.bindsN F_Player_entries (fun _ _ _ _ _ _ us hl => match us, hl with | [_], _ => rfl),
    m_Player_entries := He.meth_ok (cd.fact 104 (f := .meth "Player" "entries") rfl),
    F_Player_tune := fun_of F_Player_tune,
    b_Player_tune := FunD.bindsN F_Player_tune (fun _ _ _ _ _ _ us hl => match us, hl with | [_, _], _ => rfl),
    m_Player_tune := He.meth_ok (cd.fact 105 (f := .meth "Player" "tune") rfl),
    F_Player_set_again := fun_of F_Player_set_again,
    b_Player_set_again := FunD.bindsN F_Player_set_again (fun _ _ _ _ _ _ us hl => match us, hl with | [_, _], _ => rfl),
    m_Player_set_again := He.meth_ok (cd.fact 106 (f := .meth "Player" "set_again") rfl),
    F_Player_set_mixed := fun_of F_Player_set_mixed,
    b_Player_set_mixed := FunD.bindsN F_Player_set_mixed (fun _ _ _ _ _ _ us hl => match us, hl with | [_, _], _ => rfl),
    m_Player_set_mixed := He.meth_ok (cd.fact 107 (f := .meth "Player" "set_mixed") rfl),
    F_Player_begin := fun_of F_Player_begin,
    b_Player_begin := FunD.bindsN F_Player_begin (fun _ _ _ _ _ _ us hl => match us, hl with | [_, _, _], _ => rfl),
    m_Player_begin := He.meth_ok (cd.fact 108 (f := .meth "Player" "begin") rfl),
    F_Player_play := fun_of F_Player_play,
    b_Player_play := FunD.bindsN F_Player_play (fun _ _ _ _ _ _ us hl => match us, hl with | [_, _], _ => rfl),
    m_Player_play := He.meth_ok (cd.fact 109 (f := .meth "Player" "play") rfl),
    F_Player_resume := fun_of F_Player_resume,
    b_Player_resume := FunD.bindsN F_Player_resume (fun _ _ _ _ _ _ us hl => match us, hl with | [_], _ => rfl),
    m_Player_resume := He.meth_ok (cd.fact 110 (f := .meth "Player" "resume") rfl),
    F_Player_pause := fun_of F_Player_pause,
    b_Player_pause := FunD.bindsN F_Player_pause (fun _ _ _ _ _ _ us hl => match us, hl with | [_], _ => rfl),
    m_Player_pause := He.meth_ok (cd.fact 111 (f := .meth "Player" "pause") rfl),
    F_Player_next_entry := fun_of F_Player_next_entry,
    b_Player_next_entry := FunD.bindsN F_Player_next_entry (fun _ _ _ _ _ _ us hl => match us, hl with | [_, _], _ => rfl),
    m_Player_next_entry := He.meth_ok (cd.fact 112 (f := .meth "Player" "next_entry") rfl),
    F_Player_skip := fun_of F_Player_skip,
    b_Player_skip := FunD.bindsN F_Player_skip (fun _ _ _ _ _ _ us hl => match us, hl with | [_], _ => rfl),
    m_Player_skip := He.meth_ok (cd.fact 113 (f := .meth "Player" "skip") rfl),
    F_Player_back := fun_of F_Player_back,
    b_Player_back := FunD.bindsN F_Player_back (fun _ _ _ _ _ _ us hl => match us, hl with | [_], _ => rfl),
    m_Player_back := He.meth_ok (cd.fact 114 (f := .meth "Player" "back") rfl),
    F_Player_seek := fun_of F_Player_seek,
    b_Player_seek := FunD.bindsN F_Player_seek (fun _ _ _ _ _ _ us hl => match us, hl with | [_, _], _ => rfl),
    m_Player_seek := He.meth_ok (cd.fact 115 (f := .meth "Player" "seek") rfl),
    F_Player_stop_behind := fun_of F_Player_stop_behind,
    b_Player_stop_behind := FunD.bindsN F_Player_stop_behind (fun _ _ _ _ _ _ us hl => match us, hl with | [_, _], _ => rfl),
    m_Player_stop_behind := He.meth_ok (cd.fact 116 (f := .meth "Player" "stop_behind") rfl),
    F_Player_sleep := fun_of F_Player_sleep,
    b_Player_sleep := FunD.bindsN F_Player_sleep (fun _ _ _ _ _ _ us hl => match us, hl with | [_, _], _ => rfl),
    m_Player_sleep := He.meth_ok (cd.fact 117 (f := .meth "Player" "sleep") rfl),
    F_Player_join_long := fun_of F_Player_join_long,
    b_Player_join_long := FunD.bindsN F_Player_join_long (fun _ _ _ _ _ _ us hl => match us, hl with | [_, _], _ => rfl),
    m_Player_join_long := He.meth_ok (cd.fact 118 (f := .meth "Player" "join_long") rfl),
    F_Player_step := fun_of F_Player_step,
    b_Player_step := FunD.bindsN F_Player_step (fun _ _ _ _ _ _ us hl => match us, hl with | [_], _ => rfl),
    m_Player_step := He.meth_ok (cd.fact 119 (f := .meth "Player" "step") rfl),
    F_Player_turn_over := fun_of F_Player_turn_over,
    b_Player_turn_over := FunD.bindsN F_Player_turn_over (fun _ _ _ _ _ _ us hl => match us, hl with | [_], _ => rfl),
    m_Player_turn_over := He.meth_ok (cd.fact 120 (f := .meth "Player" "turn_over") rfl),
    F_Player_tick := fun_of F_Player_tick,
    b_Player_tick := FunD.bindsN F_Player_tick (fun _ _ _ _ _ _ us hl => match us, hl with | [_, _], _ => rfl),
    m_Player_tick := He.meth_ok (cd.fact 121 (f := .meth "Player" "tick") rfl),
    F_Player_state := fun_of F_Player_state,
    b_Player_state := FunD.bindsN F_Player_state (fun _ _ _ _ _ _ us hl => match us, hl with | [_], _ => rfl),
    m_Player_state := He.meth_ok (cd.fact 122 (f := .meth "Player" "state") rfl),
    F_Player_sounds := fun_of F_Player_sounds,
    b_Player_sounds := FunD.bindsN F_Player_sounds (fun _ _ _ _ _ _ us hl => match us, hl with | [_], _ => rfl),
    m_Player_sounds := He.meth_ok (cd.fact 123 (f := .meth "Player" "sounds") rfl),
    F_Player_log := fun_of F_Player_log,
    b_Player_log := FunD.bindsN F_Player_log (fun _ _ _ _ _ _ us hl => match us, hl with | [_], _ => rfl),
    m_Player_log := He.meth_ok (cd.fact 124 (f := .meth "Player" "log") rfl),
    F_Player_ticks := fun_of F_Player_ticks,
    b_Player_ticks := FunD.bindsN F_Player_ticks (fun _ _ _ _ _ _ us hl => match us, hl with | [_], _ => rfl),
    m_Player_ticks := He.meth_ok (cd.fact 125 (f := .meth "Player" "ticks") rfl),
    F_Player_ahead := fun_of F_Player_ahead,
    b_Player_ahead := FunD.bindsN F_Player_ahead (fun _ _ _ _ _ _ us hl => match us, hl with | [_, _], _ => rfl),
    m_Player_ahead := He.meth_ok (cd.fact 126 (f := .meth "Player" "ahead") rfl),
    F_Player_twin := fun_of F_Player_twin,
    b_Player_twin := FunD.bindsN F_Player_twin (fun _ _ _ _ _ _ us hl => match us, hl with | [_], _ => rfl),
    m_Player_twin := He.meth_ok (cd.fact 127 (f := .meth "Player" "twin") rfl),
    F_told_as := fun_of F_told_as,
    b_told_as := FunD.bindsN F_told_as (fun _ _ _ _ _ _ us hl => match us, hl with | [_], _ => rfl),
    g_told_as := He.glo_ok X G (cd.fact 128 (f := .glo "told_as") rfl),
    k_told_as := F_told_as.kp,
    F_number_in := fun_of F_number_in,
    b_number_in := FunD.bindsN F_number_in (fun _ _ _ _ _ _ us hl => match us, hl with | [_], _ => rfl),
    g_number_in := He.glo_ok X G (cd.fact 129 (f := .glo "number_in") rfl),
    k_number_in := F_number_in.kp,
    F_row_of := fun_of F_row_of,
    b_row_of := FunD.bindsN F_row_of (fun _ _ _ _ _ _ us hl => match us, hl with | [_], _ => rfl),
    g_row_of := He.glo_ok X G (cd.fact 130 (f := .glo "row_of") rfl),
    k_row_of := F_row_of.kp,
    F_numbers_in := fun_of F_numbers_in,
    b_numbers_in := FunD.bindsN F_numbers_in (fun _ _ _ _ _ _ us hl => match us, hl with | [_], _ => rfl),
    g_numbers_in := He.glo_ok X G (cd.fact 131 (f := .glo "numbers_in") rfl),
    k_numbers_in := F_numbers_in.kp,
    F_written := fun_of F_written,
    b_written := FunD.bindsN F_written (fun _ _ _ _ _ _ us hl => match us, hl with | [_], _ => rfl),
    g_written := He.glo_ok X G (cd.fact 132 (f := .glo "written") rfl),
    k_written := F_written.kp,
    F_woken_order := fun_of F_woken_order,
    b_woken_order := FunD.bindsN F_woken_order (fun _ _ _ _ _ _ us hl => match us, hl with | [_], _ => rfl),
    g_woken_order := He.glo_ok X G (cd.fact 133 (f := .glo "woken_order") rfl),
    k_woken_order := F_woken_order.kp,
    F_woken := fun_of F_woken,
    b_woken := FunD.bindsN F_woken (fun _ _ _ _ _ _ us hl => match us, hl with | [_, _], _ => rfl),
    g_woken := He.glo_ok X G (cd.fact 134 (f := .glo "woken") rfl),
    k_woken := F_woken.kp,
    F_look_name := fun_of F_look_name,
    b_look_name := FunD.bindsN F_look_name (fun _ _ _ _ _ _ us hl => match us, hl with | [_], _ => rfl),
    g_look_name := He.glo_ok X G (cd.fact 135 (f := .glo "look_name") rfl),
    k_look_name := F_look_name.kp,
    F_Shelf_init__ := fun_of F_Shelf_init__,
    b_Shelf_init__ := FunD.bindsN F_Shelf_init__ (fun _ _ _ _ _ _ us hl => match us, hl with | [_], _ => rfl),
    m_Shelf_init__ := He.meth_ok (cd.fact 136 (f := .meth "Shelf" "__init__") rfl),
    F_Shelf_add := fun_of F_Shelf_add,
    b_Shelf_add := FunD.bindsN F_Shelf_add (fun _ _ _ _ _ _ us hl => match us, hl with | [_, _, _], _ => rfl),
    m_Shelf_add := He.meth_ok (cd.fact 137 (f := .meth "Shelf" "add") rfl),
    F_Shelf_need := fun_of F_Shelf_need,
    b_Shelf_need := FunD.bindsN F_Shelf_need (fun _ _ _ _ _ _ us hl => match us, hl with | [_, _], _ => rfl),
    m_Shelf_need := He.meth_ok (cd.fact 138 (f := .meth "Shelf" "need") rfl),
    F_Shelf_long := fun_of F_Shelf_long,
    b_Shelf_long := FunD.bindsN F_Shelf_long (fun _ _ _ _ _ _ us hl => match us, hl with | [_, _], _ => rfl),
    m_Shelf_long := He.meth_ok (cd.fact 139 (f := .meth "Shelf" "long") rfl),
    F_Shelf_names := fun_of F_Shelf_names,
    b_Shelf_names := FunD.bindsN F_Shelf_names (fun _ _ _ _ _ _ us hl => match us, hl with | [_], _ => rfl),
    m_Shelf_names := He.meth_ok (cd.fact 140 (f := .meth "Shelf" "names") rfl),
    F_law_cell := fun_of F_law_cell,
    b_law_cell := FunD.bindsN F_law_cell (fun _ _ _ _ _ _ us hl => match us, hl with | [_, _], _ => rfl),
    g_law_cell := He.glo_ok X G (cd.fact 141 (f := .glo "_law_cell") rfl),
    k_law_cell := F_law_cell.kp,
    F_law_mix := fun_of F_law_mix,
    b_law_mix := FunD.bindsN F_law_mix (fun _ _ _ _ _ _ us hl => match us, hl with | [_, _], _ => rfl),
    g_law_mix := He.glo_ok X G (cd.fact 142 (f := .glo "_law_mix") rfl),
    k_law_mix := F_law_mix.kp,
    F_law_draw := fun_of F_law_draw,
    b_law_draw := FunD.bindsN F_law_draw (fun _ _ _ _ _ _ us hl => match us, hl with | [_, _, _], _ => rfl),
    g_law_draw := He.glo_ok X G (cd.fact 143 (f := .glo "_law_draw") rfl),
    k_law_draw := F_law_draw.kp,
    F_law_pick := fun_of F_law_pick,
    b_law_pick := FunD.bindsN F_law_pick (fun _ _ _ _ _ _ us hl => match us, hl with | [_, _, _], _ => rfl),
    g_law_pick := He.glo_ok X G (cd.fact 144 (f := .glo "_law_pick") rfl),
    k_law_pick := F_law_pick.kp,
    F_law_refusal := fun_of F_law_refusal,
    b_law_refusal := FunD.bindsN F_law_refusal (fun _ _ _ _ _ _ us hl => match us, hl with | [_], _ => rfl),
    g_law_refusal := He.glo_ok X G (cd.fact 145 (f := .glo "_law_refusal") rfl),
    k_law_refusal := F_law_refusal.kp,
    F_law_one := fun_of F_law_one,
    b_law_one := FunD.bindsN F_law_one (fun _ _ _ _ _ _ us hl => match us, hl with | [_, _], _ => rfl),
    g_law_one := He.glo_ok X G (cd.fact 146 (f := .glo "_law_one") rfl),
    k_law_one := F_law_one.kp,
    F_law_told := fun_of F_law_told,
    b_law_told := FunD.bindsN F_law_told (fun _ _ _ _ _ _ us hl => match us, hl with | [_, _], _ => rfl),
    g_law_told := He.glo_ok X G (cd.fact 147 (f := .glo "_law_told") rfl),
    k_law_told := F_law_told.kp,
    F_law_call := fun_of F_law_call,
    b_law_call := FunD.bindsN F_law_call (fun _ _ _ _ _ _ us hl => match us, hl with | [_, _, _], _ => rfl),
    g_law_call := He.glo_ok X G (cd.fact 148 (f := .glo "_law_call") rfl),
    k_law_call := F_law_call.kp,
    F_law_all := fun_of F_law_all,
    b_law_all := FunD.bindsN F_law_all (fun _ _ _ _ _ _ us hl => match us, hl with | [_, _], _ => rfl),
    g_law_all := He.glo_ok X G (cd.fact 149 (f := .glo "_law_all") rfl),
    k_law_all := F_law_all.kp,
    F_law_tune := fun_of F_law_tune,
    b_law_tune := FunD.bindsN F_law_tune (fun _ _ _ _ _ _ us hl => match us, hl with | [_, _], _ => rfl),
    g_law_tune := He.glo_ok X G (cd.fact 150 (f := .glo "_law_tune") rfl),
    k_law_tune := F_law_tune.kp,
    F_law_led := fun_of F_law_led,
    b_law_led := FunD.bindsN F_law_led (fun _ _ _ _ _ _ us hl => match us, hl with | [_, _, _], _ => rfl),
    g_law_led := He.glo_ok X G (cd.fact 151 (f := .glo "_law_led") rfl),
    k_law_led := F_law_led.kp,
    F_law_shelf := fun_of F_law_shelf,
    b_law_shelf := FunD.bindsN F_law_shelf (fun _ _ _ _ _ _ us hl => match us, hl with | [_], _ => rfl),
    g_law_shelf := He.glo_ok X G (cd.fact 152 (f := .glo "_law_shelf") rfl),
    k_law_shelf := F_law_shelf.kp,
    F_law_begun := fun_of F_law_begun,
    b_law_begun := FunD.bindsN F_law_begun (fun _ _ _ _ _ _ us hl => match us, hl with | [_, _, _], _ => rfl),
    g_law_begun := He.glo_ok X G (cd.fact 153 (f := .glo "_law_begun") rfl),
    k_law_begun := F_law_begun.kp,
    F_law_is_text := fun_of F_law_is_text,
    b_law_is_text := FunD.bindsN F_law_is_text (fun _ _ _ _ _ _ us hl => match us, hl with | [_], _ => rfl),
    g_law_is_text := He.glo_ok X G (cd.fact 154 (f := .glo "_law_is_text") rfl),
    k_law_is_text := F_law_is_text.kp,
    F_law_same := fun_of F_law_same,
    b_law_same := FunD.bindsN F_law_same (fun _ _ _ _ _ _ us hl => match us, hl with | [_, _, _, _], _ => rfl),
    g_law_same := He.glo_ok X G (cd.fact 155 (f := .glo "_law_same") rfl),
    k_law_same := F_law_same.kp,
    F_law := fun_of F_law,
    b_law := FunD.bindsN F_law (fun _ _ _ _ _ _ us hl => match us, hl with | [_], _ => rfl),
    g_law := He.glo_ok X G (cd.fact 156 (f := .glo "law") rfl),
    k_law := F_law.kp }
end TR
open PySem PySem.W PySem.Calls PyProof.Rows in
set_option maxRecDepth 100000 in
set_option maxHeartbeats 0 in
theorem PySem.Challenge.cw_tuneroad_k40_whole_woken_holds : PySem.Challenge.rw_tuneroad_k40_whole_woken.Holds := by
  w_on; o_law
  refine HandSHeadRun.head_any (r := OpenLaw.row PySem.Challenge.rw_tuneroad_k40_whole_woken) (q := view (OpenLaw.row PySem.Challenge.rw_tuneroad_k40_whole_woken).prog [57]) (H := TR.hhk) (ob := TR.hob) (M := 20000) (loose := TR.hnm) (d := HandSHeadRun.topDef (OpenLaw.row PySem.Challenge.rw_tuneroad_k40_whole_woken).prog 57) (kwd := []) TR.hob_eq
    (by kernel_rfl) (fun s => by kernel_rfl) TR.hrun (by kernel_rfl) (by kernel_rfl) (by kernel_rfl) (by rfl) (by first | assumption | decide +kernel) (by decide +kernel) ⟨rfl, rfl, rfl, rfl, rfl, by decide +kernel⟩ ?hw ?hc
  case hw => w_witness2
  case hc =>
    refine TR.law_end (l := PySem.Challenge.rw_tuneroad_k40_whole_woken) (n := 63) (k := 14) (x := "script") rfl (by decide) (by kernel_rfl) ⟨rfl, by decide, by decide⟩ ?F
    intro w mg fa h Y G hmg0
    obtain ⟨K, KX, c⟩ := Y
    have hmg : mg ("law" : PySem.Str) = some (.ref fa) := by
      have e : (HandSHeadRun.topDef (OpenLaw.row PySem.Challenge.rw_tuneroad_k40_whole_woken).prog 57).name = ("law" : PySem.Str) := by kernel_rfl
      rw [← e]
      exact hmg0
    obtain ⟨A, T⟩ := TR.txt_of KX G c
    have e := hmg.symm.trans T.g_law
    cases e
    exact ⟨K, A.d_law, TR.sp_law K, KX, fun s v => TR.binds1 T.F_law (fun _ _ _ _ _ _ us hl => match us, hl with | [_], _ => rfl) s v, fun H a ns hl hO hS => TR.law_pre hl hO hS, fun base _ _ => TR.ok_law T⟩

