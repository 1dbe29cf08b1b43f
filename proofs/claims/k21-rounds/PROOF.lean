import PyProof.Rows.All
import Wide.All
import OpenK.AllK
import Wide.FinOn
import HandS.ForMost
import HandS.ForExc
import HandS.More
import HandS.Flow
import HandS.Style
import HandS.SetFor
import HandS.ExcIs
import HandS.ExcValue
import HandS.CallSlots
import HandS.Defaults
import HandS.Conv
import HandS.Zip
import HandS.IsInst
import HandS.Head0
import HandS.Head1
import HandS.Head2
import HandS.HeadEnd
import HandS.HeadHook1
import HandS.HeadHook2
import HandS.HeadHook3
import HandS.HeadHook4
import PySem.Challenge.RW_tuneroad_k21_whole_rounds
set_option Elab.async false
set_option linter.all false
set_option maxRecDepth 100000
set_option maxHeartbeats 4000000
/-! TR: the ledger W (what is tracked at which address, no address twice; the tuples of H0 stand), readings that stop the walk, steps over them. -/
namespace TR
open PySem L2
abbrev Ent := Addr × HO
def isTup : HO → Bool
  | .tup _ => true
  | _ => false
structure W (H0 H : Hp) (L : List Ent) : Prop where
  nd : (L.map (·.1)).Nodup
  is_ : ∀ x ∈ L, H x.1 = some x.2
  tp : ∀ a xs, H0 a = some (.tup xs) → H a = some (.tup xs)
section
variable {H0 H H1 H' : Hp} {L L' R : List Ent} {p q : Addr} {o o' : HO} {i j : Nat}
theorem W.get (w : W H0 H L) (i : Nat) (h : L[i]? = some (p, o)) : H p = some o := w.is_ (p, o) (List.mem_of_getElem? h)
theorem W.now (w : W H0 H L) : W H H L := ⟨w.nd, w.is_, fun _ _ e => e⟩
theorem W.tr (w : W H0 H L) (v : W H H' L') : W H0 H' L' := ⟨v.nd, v.is_, fun a xs e => v.tp a xs (w.tp a xs e)⟩
theorem nd_get {α : Type} {l : List α} (hN : l.Nodup) {i j : Nat} {x : α} (a : l[i]? = some x) (b : l[j]? = some x) : i = j := by
  obtain ⟨h1, e1⟩ := List.getElem?_eq_some_iff.mp a
  obtain ⟨h2, e2⟩ := List.getElem?_eq_some_iff.mp b
  exact (List.getElem_inj hN).mp (e1.trans e2.symm)
theorem map_set_fst : ∀ (L : List Ent) (i : Nat) (p : Addr) (o o' : HO), L[i]? = some (p, o) → (L.set i (p, o')).map (·.1) = L.map (·.1)
  | [], _, _, _, _, h => by simp at h
  | x :: L, 0, p, o, o', h => by
    have e : x = (p, o) := Option.some.inj h
    subst e; rfl
  | x :: L, i + 1, p, o, o', h => by
    show x.1 :: (L.set i (p, o')).map (·.1) = x.1 :: L.map (·.1)
    rw [map_set_fst L i p o o' h]
theorem W.set (w : W H0 H L) (i : Nat) (o' : HO) (h : L[i]? = some (p, o)) (t : isTup o = false) : W H0 (upd H p o') (L.set i (p, o')) := by
  have hp := w.get i h
  refine ⟨by rw [map_set_fst L i p o o' h]; exact w.nd, fun x hx => ?_, fun a xs e => ?_⟩
  · obtain ⟨j, hj⟩ := List.getElem?_of_mem hx
    by_cases hij : i = j
    · subst hij
      obtain ⟨hl, _⟩ := List.getElem?_eq_some_iff.mp h
      rw [List.getElem?_set_self hl] at hj
      cases hj
      exact upd_same
    · rw [List.getElem?_set_ne hij] at hj
      have ne : x.1 ≠ p := fun e => hij (nd_get w.nd (x := p) (by rw [List.getElem?_map, h]; rfl) (by rw [List.getElem?_map, hj]; simp [e]))
      rw [upd_ne ne]
      exact w.is_ x (List.mem_of_getElem? hj)
  · have q := w.tp a xs e
    have ne : a ≠ p := fun z => by
      rw [z, hp] at q
      cases q
      cases t
    rw [upd_ne ne]
    exact q
theorem W.skip (w : W H0 H L) (hp : H p = none) : W H0 (upd H p o) L :=
  ⟨w.nd, fun x hx => by rw [upd_ne (ne_of_none (w.is_ x hx) hp)]; exact w.is_ x hx, fun a xs e => by rw [upd_ne (ne_of_none (w.tp a xs e) hp)]; exact w.tp a xs e⟩
theorem W.new (w : W H0 H L) (o : HO) (hp : H p = none) : W H0 (upd H p o) ((p, o) :: L) := by
  have w1 := w.skip (o := o) hp
  refine ⟨List.nodup_cons.mpr ⟨fun m => ?_, w.nd⟩, fun x hx => ?_, w1.tp⟩
  · obtain ⟨x, hx, e⟩ := List.mem_map.mp m
    have z := w.is_ x hx
    rw [show x.1 = p from e, hp] at z
    cases z
  · rcases List.mem_cons.mp hx with rfl | hx
    · exact upd_same
    · exact w1.is_ x hx
theorem W.sub (w : W H0 H L) (h : ∀ x ∈ L', x ∈ L) (hn : (L'.map (·.1)).Nodup) : W H0 H L' := ⟨hn, fun x hx => w.is_ x (h x hx), w.tp⟩
theorem W.perm (w : W H0 H L) (h : L.Perm L') : W H0 H L' := w.sub (fun x hx => h.mem_iff.mpr hx) ((h.map _).nodup_iff.mp w.nd)
theorem W.drop1 {x : Ent} (w : W H0 H (x :: L)) : W H0 H L := w.sub (fun y hy => List.mem_cons_of_mem _ hy) (List.nodup_cons.mp w.nd).2
theorem W.dropL (w : W H0 H (L ++ R)) : W H0 H R := w.sub (fun y hy => List.mem_append_right _ hy) (by have := w.nd; rw [List.map_append] at this; exact (List.nodup_append.mp this).2.1)
/-- of the first n entries these, in this turn; and the rest -/
theorem W.pick (w : W H0 H L) (n : Nat) (is : List Nat) (h : is.Nodup ∧ ∀ i ∈ is, i < n := by decide) : W H0 H (is.filterMap (fun i => L[i]?) ++ L.drop n) := by
  have inj : ∀ (i j : Nat) (x y : Ent), L[i]? = some x → L[j]? = some y → x.1 = y.1 → i = j := by
    intro i j x y hx hy e
    obtain ⟨hi, ex⟩ := List.getElem?_eq_some_iff.mp hx
    obtain ⟨hj, ey⟩ := List.getElem?_eq_some_iff.mp hy
    refine (List.getElem_inj (xs := L.map (·.1)) (h₀ := by rw [List.length_map]; exact hi) (h₁ := by rw [List.length_map]; exact hj) w.nd).mp ?_
    rw [List.getElem_map, List.getElem_map, ex, ey, e]
  refine w.sub ?_ ?_
  · intro x hx
    rcases List.mem_append.mp hx with q | q
    · obtain ⟨i, _, e⟩ := List.mem_filterMap.mp q
      exact List.mem_of_getElem? e
    · exact List.mem_of_mem_drop q
  · rw [List.map_append, List.nodup_append]
    refine ⟨?_, ?_, ?_⟩
    · show List.Pairwise (· ≠ ·) _
      rw [List.pairwise_map, List.pairwise_filterMap]
      exact List.Pairwise.imp (fun {i j} ne x hx y hy e => ne (inj i j x y hx hy e)) h.1
    · exact w.nd.sublist ((List.drop_sublist n L).map _)
    · intro a ha b hb e
      obtain ⟨x, hx, rfl⟩ := List.mem_map.mp ha
      obtain ⟨y, hy, rfl⟩ := List.mem_map.mp hb
      obtain ⟨i, hi, ei⟩ := List.mem_filterMap.mp hx
      obtain ⟨j, hj⟩ := List.getElem?_of_mem hy
      rw [List.getElem?_drop] at hj
      have := inj i (n + j) x y ei hj e
      have := h.2 i hi
      omega
/-- the segment [n, n + m) to the front -/
theorem W.rot (w : W H0 H L) (n m : Nat) : W H0 H ((L.drop n).take m ++ (L.take n ++ (L.drop n).drop m)) := by
  refine w.perm ?_
  have e : L = L.take n ++ ((L.drop n).take m ++ (L.drop n).drop m) := by rw [List.take_append_drop, List.take_append_drop]
  conv => lhs; rw [e]
  rw [← List.append_assoc, ← List.append_assoc]
  exact List.Perm.append_right _ List.perm_append_comm
/-- the first entry takes the place of the j-th one behind it -/
theorem W.repl {x : Ent} (w : W H0 H (x :: L)) (j : Nat) : W H0 H (L.set j x) := by
  have hx := (List.nodup_cons.mp w.nd)
  refine w.sub (fun y hy => ?_) ?_
  · rcases List.mem_or_eq_of_mem_set hy with h | h
    · exact List.mem_cons_of_mem _ h
    · rw [h]; exact List.mem_cons_self
  · rw [List.map_set]
    by_cases hj : j < (L.map (·.1)).length
    · rw [List.set_eq_take_append_cons_drop, if_pos hj]
      have e : L.map (·.1) = (L.map (·.1)).take j ++ (L.map (·.1)).drop j := (List.take_append_drop _ _).symm
      have n2 := hx.2
      rw [e] at n2
      obtain ⟨a1, a2, a3⟩ := List.nodup_append.mp n2
      have hm : ∀ z ∈ (L.map (·.1)).drop (j + 1), z ∈ (L.map (·.1)).drop j := fun z hz => by
        rw [← List.drop_drop] at hz
        exact List.mem_of_mem_drop hz
      refine List.nodup_append.mpr ⟨a1, List.nodup_cons.mpr ⟨fun z => hx.1 (List.mem_of_mem_drop z), ?_⟩, fun a ha b hb => ?_⟩
      · rw [← List.drop_drop]
        exact a2.sublist (List.drop_sublist _ _)
      · rcases List.mem_cons.mp hb with rfl | hb
        · exact fun z => hx.1 (by show x.1 ∈ _; rw [← z]; exact List.mem_of_mem_take ha)
        · exact a3 a ha b (hm b hb)
    · rw [List.set_eq_of_length_le (by omega)]
      exact hx.2
/-- the i-th entry to the front, and back -/
theorem perm_front {α : Type} : ∀ (L : List α) (i : Nat) (x : α), L[i]? = some x → L.Perm (x :: L.eraseIdx i)
  | [], _, _, h => by simp at h
  | y :: L, 0, x, h => by
    have e : y = x := Option.some.inj h
    subst e; exact List.Perm.refl _
  | y :: L, i + 1, x, h => by
    have ih := perm_front L i x h
    exact (ih.cons y).trans (List.Perm.swap x y _)
theorem perm_back {α : Type} : ∀ (L : List α) (i : Nat) (x x' : α), L[i]? = some x → (x' :: L.eraseIdx i).Perm (L.set i x')
  | [], _, _, _, h => by simp at h
  | y :: L, 0, x, x', h => List.Perm.refl _
  | y :: L, i + 1, x, x', h => by
    have ih := perm_back L i x x' h
    exact (List.Perm.swap y x' _).trans (ih.cons y)
theorem W.front {x : Ent} (w : W H0 H L) (i : Nat) (h : L[i]? = some x) : W H0 H (x :: L.eraseIdx i) := w.perm (perm_front L i x h)
theorem W.back {x x' : Ent} (w : W H0 H L) (i : Nat) (h : L[i]? = some x) (v : W H H' (x' :: L.eraseIdx i)) : W H0 H' (L.set i x') := (w.tr v).perm (perm_back L i x x' h)
theorem W.list {K : PySem.W.Frag} {xs : List V} (w : W H0 H L) (i : Nat) (h : L[i]? = some (p, .lst xs)) : SqL K H p xs := SqL.of (w.get i h)
end
theorem szL {n : Nat} (h : n ≤ 100000) : n < sizeLine := Nat.lt_of_le_of_lt h (by decide)
theorem szE {n : Nat} (h : n ≤ 100000) : n ≤ sizeLine := Nat.le_of_lt (szL h)

/-! ### readings that stop the walk -/
abbrev MRd := V → List V → Hp → VK → Prop
@[irreducible] def xApp : MRd := rAppend
@[irreducible] def xPop : MRd := rPop
@[irreducible] def xPopAt : MRd := rPopAt
@[irreducible] def xIns : MRd := fun x vs H Q => ∃ (l : Addr) (xs : List V) (i : Int) (y : V), x = .ref l ∧ vs = [.int i, y] ∧ H l = some (.lst xs) ∧ xs.length < sizeLine ∧ 0 ≤ i ∧ i < 2 ^ 63 ∧
    Q .non (upd H l (.lst (xs.take i.toNat ++ [y] ++ xs.drop i.toNat)))
@[irreducible] def xRem : MRd := rRemI
@[irreducible] def xExt : MRd := rExtend
@[irreducible] def xSetL : TSet := rSetL
/-- a new object -/
@[irreducible] def xNew (o : HO) (H : Hp) (Q : VK) : Prop := ∀ p, H p = none → Q (.ref p) (upd H p o)
@[irreducible] def xFldSt (K : PySem.W.Frag) (f : Str) (x y : V) (H : Hp) (Q : Hp → Prop) : Prop := ∃ a C dx fs, x = .ref a ∧ H a = some (.ins C dx fs) ∧ Cls K C ∧ NoAttr K C f ∧ fs.length < 1000 ∧ Q (upd H a (.ins C dx (putF f y fs)))
@[irreducible] def xDPut (x y v : V) (H : Hp) (Q : Hp → Prop) : Prop := ∃ a H', x = .ref a ∧ DPut H a y v H' ∧ Q H'
@[irreducible] def xMake (C : Addr) (sp : Sp) (E : XK) (vs : List V) (H : Hp) (Q : VK) : Prop := ∀ x dx, H x = none → H dx = none → dx ≠ x →
  sp (.ref x :: vs) (upd (upd H dx (.own x)) x (.ins C dx [])) (fun v H2 => v = .non ∧ Q (.ref x) H2) E
@[irreducible] def xCall (sp : Sp) (vs : List V) (H : Hp) (Q : VK) (E : XK) : Prop := sp vs H Q E
@[irreducible] def xFor (J : It) (g : TG) (tb : TS) (D : Ends) (σ : L2.St) (H : Hp) : Prop := ∃ W : Nat → Nat → L2.St → Hp → Prop, (∃ m, W 0 m σ H) ∧ ∀ i m σ H, W i m σ H →
  (J.stop i H ∧ D.nx σ H) ∨ (J.go i H ∧ ∃ N : L2.St → Hp → Prop, (∀ σ' H', N σ' H' → ∃ m', m' < m ∧ W (i + 1) m' σ' H') ∧ ∀ x H', J.yld i H x H' → g x σ H' fun σ2 H2 => tb { D with nx := N, ct := N, bk := D.nx } σ2 H2)
@[irreducible] def xWhile (c : TT) (tb : TS) (D : Ends) (σ : L2.St) (H : Hp) : Prop := tWhile c tb D σ H
@[irreducible] def xLc (J : It) (g : TG) (tt : TT) (te : TE) (vs : List Nat) (σ : L2.St) (H1 : Hp) (Q : VK) : Prop := ∀ D, H1 D = none → ∃ W : Nat → Nat → Hp → Prop, (∃ m, W 0 m (upd H1 D (.lst []))) ∧ ∀ i m H, W i m H →
  (J.stop i H ∧ Q (.ref D) H) ∨ (J.go i H ∧ ∃ Nx : Hp → Prop, (∀ H', Nx H' → ∃ m', m' < m ∧ W (i + 1) m' H') ∧ ∀ x H', J.yld i H x H' → g x (wipe σ vs) H' fun σ2 H2 => wipe σ2 vs = wipe σ vs ∧ tt σ2 H2 fun b H3 =>
    if b = true then te σ2 H3 fun y H4 => ∃ acc, H4 D = some (.lst acc) ∧ acc.length < sizeLine ∧ Nx (upd H4 D (.lst (acc ++ [y]))) else Nx H3)
/-- two ways; said behind it which one -/
@[irreducible] def xIf (b : Bool) (A B : Prop) : Prop := if b = true then A else B
theorem xIf_T {b : Bool} {A B : Prop} (hb : b = true) (h : A) : xIf b A B := by
  unfold xIf; rw [if_pos hb]; exact h
theorem xIf_F {b : Bool} {A B : Prop} (hb : b = false) (h : B) : xIf b A B := by
  unfold xIf; rw [hb, if_neg Bool.false_ne_true]; exact h
theorem xIf_2 {b : Bool} {A B : Prop} (h1 : b = true → A) (h2 : b = false → B) : xIf b A B := by
  cases b
  · exact xIf_F rfl (h2 rfl)
  · exact xIf_T rfl (h1 rfl)
theorem xIf_D {c : Prop} [Decidable c] {A B : Prop} (h1 : c → A) (h2 : ¬ c → B) : xIf (decide c) A B :=
  xIf_2 (fun h => h1 (of_decide_eq_true h)) (fun h => h2 (of_decide_eq_false h))
theorem xIf_N {c : Prop} [Decidable c] {A B : Prop} (h1 : ¬ c → A) (h2 : c → B) : xIf (!decide c) A B :=
  xIf_2 (fun h => h1 (by simpa using h)) (fun h => h2 (by simpa using h))
section
variable {X : Cx}
theorem my_append : MtM X "list.append" xApp := by unfold xApp; exact mt_append
theorem my_pop : MtM X "list.pop" xPop := by unfold xPop; exact mt_pop
theorem my_popAt : MtM X "list.pop" xPopAt := by unfold xPopAt; exact mt_popAt
theorem my_insert : MtR X "list.insert" xIns := by unfold xIns; exact mt_insert
theorem my_remove : MtM X "list.remove" xRem := by unfold xRem; exact mt_remove
theorem my_extend : MtM X "list.extend" xExt := by unfold xExt; exact mt_extend
theorem my_setL : PSet X xSetL := by unfold xSetL; exact set_list
theorem opr_le {f : Value → Value → Sem Value} {r r' : R2} (h : OpR X f r') (g : ∀ x y H Q, r x y H Q → r' x y H Q) : OpR X f r := fun pins s σ H x y v u Q I rx ry q => h pins s σ H x y v u Q I rx ry (g _ _ _ _ q)
theorem cr_le {f : Value} {r r' : List V → Hp → VK → Prop} (h : CallR X f r') (g : ∀ xs H Q, r xs H Q → r' xs H Q) : CallR X f r := fun pins s σ H xs us Q I rx q => h pins s σ H xs us Q I rx (g _ _ _ q)
theorem PE.le {e : Expr} {t t' : TE} (h : PE X e t') (g : ∀ σ H Q, t σ H Q → t' σ H Q) : PE X e t := ⟨fun pins s σ H Q I q => h.run pins s σ H Q I (g _ _ _ q)⟩
theorem PT.le {e : Expr} {t t' : TT} (h : PT X e t') (g : ∀ σ H Q, t σ H Q → t' σ H Q) : PT X e t := ⟨fun pins s σ H Q I q => h.run pins s σ H Q I (g _ _ _ q)⟩
theorem PS.le {e : Stmt} {t t' : TS} (h : PS X e t') (g : ∀ D σ H, t D σ H → t' D σ H) : PS X e t := ⟨fun pins s σ H D I q => h.run pins s σ H D I (g _ _ _ q)⟩
/-- lists, tuples displayed -/
def uLst (t : TA) : TE := fun σ H Q => t σ H fun xs H1 => xs.length ≤ sizeLine ∧ xNew (.lst xs) H1 Q
def uTup (t : TA) : TE := fun σ H Q => t σ H fun xs H1 => xs.length ≤ sizeLine ∧ xNew (.tup xs) H1 Q
theorem my_lst {es : List Expr} {t : TA} {pos : Pos} (h : PA X es t) : PE X (.List es pos) (uLst t) := by
  have e : uLst t = tLst t := by unfold uLst tLst xNew; rfl
  rw [e]; exact pe_lst h
theorem my_tup {es : List Expr} {t : TA} {pos : Pos} {x1} (h : PA X es t) : PE X (.Tuple es x1 pos) (uTup t) := by
  have e : uTup t = tTup t := by unfold uTup tTup xNew; rfl
  rw [e]; exact pe_tup h
def uDNew : TE := fun _ H Q => xNew (.dK []) H Q
theorem my_dnew {pos : Pos} : PE X (.Dict [] [] pos) uDNew := by
  have e : uDNew = tDNewK := by unfold uDNew tDNewK xNew; rfl
  rw [e]; exact pe_dnewK
def uCat : R2 := fun x y H Q => ∃ l b xs zs, x = .ref l ∧ y = .ref b ∧ H l = some (.lst xs) ∧ H b = some (.lst zs) ∧ xs.length + zs.length ≤ sizeLine ∧ xNew (.lst (xs ++ zs)) H Q
theorem my_cat : OpR X (binaryOp .Add) uCat := by
  have e : uCat = rCat := by unfold uCat rCat xNew; rfl
  rw [e]; exact op_cat
def uSlL (K : PySem.W.Frag) : V → Option Int → Option Int → Hp → VK → Prop := fun x lo hi H Q => ∃ a xs, x = .ref a ∧ SqL K H a xs ∧ xNew (.lst (cutV xs lo hi)) H Q
theorem my_sl : SlR X (uSlL X.K) := by
  have e : uSlL X.K = rSlL X.K := by unfold uSlL rSlL xNew; rfl
  rw [e]; exact sl_list
def uListOf (K : PySem.W.Frag) : List V → Hp → VK → Prop := fun xs H Q => ∃ p ys, xs = [.ref p] ∧ (SqL K H p ys ∨ SqT K H p ys) ∧ xNew (.lst ys) H Q
theorem my_listOf : CallR X (.type "list") (uListOf X.K) := by
  unfold uListOf xNew; exact call_list_of
def uFld (K : PySem.W.Frag) (ta tv : TE) (f : Str) : TS := fun D σ H => tv σ H fun y H1 => ta σ H1 fun x H2 => xFldSt K f x y H2 fun H3 => D.nx σ H3
theorem my_fld {o value : Expr} {ta tv : TE} {f : Str} {pos pos' : Pos} (ha : PE X o ta) (hv : PE X value tv) (hs : swapsWith value (some (.Attribute o f pos')) pos.line X.env = pure false := by rfl) : PS X (.Assign [.Attribute o f pos'] value pos) (uFld X.K ta tv f) := by
  have e : uFld X.K ta tv f = sFld X.K ta tv f := by unfold uFld sFld xFldSt; rfl
  rw [e]; exact ps_fld ha hv hs
def uDPut (td ty tv : TE) : TS := fun D σ H => tv σ H fun v H1 => td σ H1 fun x H2 => ty σ H2 fun y H3 => xDPut x y v H3 fun H4 => D.nx σ H4
theorem my_dput {o i value : Expr} {td ty tv : TE} {pos pos' : Pos} (hu : X.A.units + 1 < cLine) (ho : PE X o td) (hi : PE X i ty) (hv : PE X value tv) (hs : swapsWith value (some (.Subscript o i pos')) pos.line X.env = pure false := by rfl) :
    PS X (.Assign [.Subscript o i pos'] value pos) (uDPut td ty tv) := by
  have e : uDPut td ty tv = sDPut td ty tv := by unfold uDPut sDPut xDPut; rfl
  rw [e]; exact ps_dput hu ho hi hv hs
def uMake (C : Addr) (sp : Sp) (E : XK) (t : TA) : TE := fun σ H Q => t σ H fun vs H1 => xMake C sp E vs H1 Q
theorem uMake_eq (C : Addr) (sp : Sp) (E : XK) (t : TA) (σ : L2.St) (H : Hp) (Q : VK) : uMake C sp E t σ H Q = tMake C sp [] E t σ H Q := by
  unfold uMake tMake xMake; simp only [List.append_nil]
def uCall (sp : Sp) (E : XK) (t : TA) : TE := fun σ H Q => t σ H fun vs H1 => xCall sp vs H1 Q E
theorem uCall_eq (sp : Sp) (E : XK) (t : TA) (σ : L2.St) (H : Hp) (Q : VK) : uCall sp E t σ H Q = tCall sp [] E t σ H Q := by
  unfold uCall tCall xCall; simp only [List.append_nil]
def uMeth (C : Addr) (m : Str) (sp : Sp) (E : XK) (ta : TE) (t : TA) : TE := fun σ H Q => ta σ H fun x H1 => ∃ a dx fs, x = .ref a ∧ H1 a = some (.ins C dx fs) ∧ fs.lookup m = none ∧ t σ H1 fun vs H2 => xCall sp (x :: vs) H2 Q E
theorem uMeth_eq (C : Addr) (m : Str) (sp : Sp) (E : XK) (ta : TE) (t : TA) (σ : L2.St) (H : Hp) (Q : VK) : uMeth C m sp E ta t σ H Q = tMeth C m sp [] E ta t σ H Q := by
  unfold uMeth tMeth xCall; simp only [List.append_nil]
def uIfS (c : TT) (t u : TS) : TS := fun D σ H => c σ H fun b H1 => xIf b (t D σ H1) (u D σ H1)
theorem my_if {c : Expr} {a b : List Stmt} {tc : TT} {t u : TS} {pos : Pos} (hc : PT X c tc) (ha : PSs X a t) (hb : PSs X b u) : PS X (.If c a b pos) (uIfS tc t u) := by
  have e : uIfS tc t u = tIfS tc t u := by unfold uIfS tIfS xIf; rfl
  rw [e]; exact ps_if hc ha hb
def uIf (t : TT) (ta tb : TE) : TE := fun σ H Q => t σ H fun c H1 => xIf c (ta σ H1 Q) (tb σ H1 Q)
theorem my_ifExp {a b c : Expr} {tA : TT} {ta tb : TE} {pos : Pos} (hc : PT X c tA) (ha : PE X a ta) (hb : PE X b tb) : PE X (.IfExp c a b pos) (uIf tA ta tb) := by
  have e : uIf tA ta tb = tIf tA ta tb := by unfold uIf tIf xIf; rfl
  rw [e]; exact pe_ifExp hc ha hb
def uAnd (t u : TT) : TT := fun σ H Q => t σ H fun c H1 => xIf c (u σ H1 Q) (Q false H1)
def uOr (t u : TT) : TT := fun σ H Q => t σ H fun c H1 => xIf c (Q true H1) (u σ H1 Q)
theorem my_and {a b : Expr} {rest : List Expr} {tA tB' : TT} {pos : Pos} (ha : PT X a tA) (hb : PW X (.BoolOp .And (b :: rest) pos) tB') : PW X (.BoolOp .And (a :: b :: rest) pos) (uAnd tA tB') := by
  have e : uAnd tA tB' = tAnd tA tB' := by unfold uAnd tAnd xIf; rfl
  rw [e]; exact pw_and ha hb
theorem my_or {a b : Expr} {rest : List Expr} {tA tB' : TT} {pos : Pos} (ha : PT X a tA) (hb : PW X (.BoolOp .Or (b :: rest) pos) tB') : PW X (.BoolOp .Or (a :: b :: rest) pos) (uOr tA tB') := by
  have e : uOr tA tB' = tOr tA tB' := by unfold uOr tOr xIf; rfl
  rw [e]; exact pw_or ha hb
def uAndV (ta tb : TE) : TE := fun σ H Q => ta σ H fun x H1 => ∃ c, x = .bl c ∧ xIf c (tb σ H1 Q) (Q (.bl false) H1)
def uOrV (ta tb : TE) : TE := fun σ H Q => ta σ H fun x H1 => ∃ c, x = .bl c ∧ xIf c (Q (.bl true) H1) (tb σ H1 Q)
theorem my_andV {a b : Expr} {rest : List Expr} {ta tb : TE} {pos : Pos} (ha : PE X a ta) (hb : PE X (.BoolOp .And (b :: rest) pos) tb) : PE X (.BoolOp .And (a :: b :: rest) pos) (uAndV ta tb) := by
  have e : uAndV ta tb = tAndV ta tb := by unfold uAndV tAndV xIf; rfl
  rw [e]; exact pe_and ha hb
theorem my_orV {a b : Expr} {rest : List Expr} {ta tb : TE} {pos : Pos} (ha : PE X a ta) (hb : PE X (.BoolOp .Or (b :: rest) pos) tb) : PE X (.BoolOp .Or (a :: b :: rest) pos) (uOrV ta tb) := by
  have e : uOrV ta tb = tOrV ta tb := by unfold uOrV tOrV xIf; rfl
  rw [e]; exact pe_or ha hb
/-- a < b < c -/
def uChain (r r' : R2) (ta tb tc : TE) : TE := fun σ H Q => ta σ H fun x H1 => tb σ H1 fun y H2 => r x y H2 fun z H3 => ∃ k, z = .bl k ∧ xIf k (tc σ H3 fun u H4 => r' y u H4 Q) (Q (.bl false) H3)
def uFor (wi : TI) (g : TG) (tb : TS) : TS := fun D σ H => wi σ H fun J H1 => xFor J g tb D σ H1
theorem my_for {tg iter : Expr} {body : List Stmt} {wi : TI} {g : TG} {tb : TS} {pos : Pos} (hp : PassesOwn (model X.prog X.w) X.A X.env X.xe) (hc : X.calm = true) (hi : PI X tg iter wi) (hg : PG X tg g) (hb : PSs X body tb)
    (hs : ∀ x, foldedSetIterable iter X.env x = pure x := by intro _; rfl) : PS X (.For tg iter body [] pos) (uFor wi g tb) := by
  have e : uFor wi g tb = tFor wi g tb := by unfold uFor tFor xFor; rfl
  rw [e]; exact ps_for hp hc hi hg hb hs
def uWhile (c : TT) (tb : TS) : TS := fun D σ H => xWhile c tb D σ H
theorem my_while {c : Expr} {body : List Stmt} {tc : TT} {tb : TS} {pos : Pos} (hp : PassesOwn (model X.prog X.w) X.A X.env X.xe) (hc : PT X c tc) (hb : PSs X body tb) : PS X (.While c body [] pos) (uWhile tc tb) := by
  have e : uWhile tc tb = tWhile tc tb := by unfold uWhile xWhile; rfl
  rw [e]; exact ps_while hp hc hb
end
end TR
namespace TR
open PySem L2
section
variable {X : Cx} {CX : CXT} {k : Nat} {f C : Addr} {fd : FuncData} {ps : List Str} {sp : Sp} {E : XK} {x m : Str} {p pos apos : Pos} {e o : Expr} {es : List Expr} {ta : TE} {t : TA}
theorem my_call (F : FnOk X.prog X.w X.K X.mg X.base CX k f fd ps sp) (hr : Room k X.A) (hg : Gl X x) (hm : X.mg x = some (.ref f)) (hk : PySem.W.keepIn X.K (.ref f) = true) (hb : Binds X.K fd ps []) (hx : Passes CX X E)
    (ha : PA X (e :: es) t) (hdb : (x == ("__debug__" : Str)) = false := by decide) (he : starEach (e :: es) X.env = (false, eval e X.env) :: starEach es X.env := by rfl) (hpl : (backTo pos (starEach es X.env)).any (·.1) = false := by rfl) :
    PE X (.Call (.Name x p) (e :: es) [] pos) (uCall sp E t) := PE.le (pe_call F hr hg hm hk hb .nil hx ha hdb he hpl) fun σ H Q q => by rw [← uCall_eq]; exact q
theorem my_call0 (F : FnOk X.prog X.w X.K X.mg X.base CX k f fd ps sp) (hr : Room k X.A) (hg : Gl X x) (hm : X.mg x = some (.ref f)) (hk : PySem.W.keepIn X.K (.ref f) = true) (hb : Binds X.K fd ps []) (hx : Passes CX X E)
    (hdb : (x == ("__debug__" : Str)) = false := by decide) : PE X (.Call (.Name x p) [] [] pos) (uCall sp E tNil) := PE.le (pe_call0 F hr hg hm hk hb .nil hx hdb) fun σ H Q q => by rw [← uCall_eq]; exact q
theorem my_meth {pl : Sem Bool} (he : PE X o ta) (c : Cls X.K C) (hm : Meth X.K C m f) (F : FnOk X.prog X.w X.K X.mg X.base CX k f fd ps sp) (hr : Room k X.A) (hb : Binds X.K fd ps []) (hx : Passes CX X E) (ha : PA X (e :: es) t)
    (hst : starEach (e :: es) X.env = (false, eval e X.env) :: starEach es X.env := by rfl) (hpl : (backTo pos (starEach es X.env)).any (·.1) = false := by rfl)
    (ht : eval (.Call (.Attribute o m apos) (e :: es) [] pos) X.env = (do
      let ov ← eval o X.env
      standAt apos.atName
      let (f, first) ← holding [ov] (getMethod ov m pl)
      callWith pos f first (backTo pos (starEach (e :: es) X.env)) (backToKw pos (keywordEach [] X.env))) := by rfl) :
    PE X (.Call (.Attribute o m apos) (e :: es) [] pos) (uMeth C m sp E ta t) := PE.le (pe_meth he c hm F hr hb .nil hx ha hst hpl ht) fun σ H Q q => by rw [← uMeth_eq]; exact q
theorem my_meth0 {pl : Sem Bool} (he : PE X o ta) (c : Cls X.K C) (hm : Meth X.K C m f) (F : FnOk X.prog X.w X.K X.mg X.base CX k f fd ps sp) (hr : Room k X.A) (hb : Binds X.K fd ps []) (hx : Passes CX X E)
    (ht : eval (.Call (.Attribute o m apos) [] [] pos) X.env = (do
      let ov ← eval o X.env
      standAt apos.atName
      let (f, first) ← holding [ov] (getMethod ov m pl)
      callWith pos f first (backTo pos (starEach [] X.env)) (backToKw pos (keywordEach [] X.env))) := by rfl) :
    PE X (.Call (.Attribute o m apos) [] [] pos) (uMeth C m sp E ta tNil) := PE.le (pe_meth0 he c hm F hr hb .nil hx ht) fun σ H Q q => by rw [← uMeth_eq]; exact q
theorem my_make (M : Mk X.K C f) (F : FnOk X.prog X.w X.K X.mg X.base CX k f fd ps sp) (hr : Room (k + 1) X.A) (hg : Gl X x) (hm : X.mg x = some (.ref C)) (hb : Binds X.K fd ps []) (hx : Passes CX X E)
    (ha : PA X (e :: es) t) (hdb : (x == ("__debug__" : Str)) = false := by decide) (he : starEach (e :: es) X.env = (false, eval e X.env) :: starEach es X.env := by rfl) (hpl : (backTo pos (starEach es X.env)).any (·.1) = false := by rfl) :
    PE X (.Call (.Name x p) (e :: es) [] pos) (uMake C sp E t) := PE.le (pe_make M F hr hg hm hb .nil hx ha hdb he hpl) fun σ H Q q => by rw [← uMake_eq]; exact q
theorem my_make0 (M : Mk X.K C f) (F : FnOk X.prog X.w X.K X.mg X.base CX k f fd ps sp) (hr : Room (k + 1) X.A) (hg : Gl X x) (hm : X.mg x = some (.ref C)) (hb : Binds X.K fd ps []) (hx : Passes CX X E)
    (hdb : (x == ("__debug__" : Str)) = false := by decide) : PE X (.Call (.Name x p) [] [] pos) (uMake C sp E tNil) := PE.le (pe_make0 M F hr hg hm hb .nil hx hdb) fun σ H Q q => by rw [← uMake_eq]; exact q
end
section
variable {X : Cx} {a b c : Expr} {ta tb tc te : TE} {r r' : R2} {op op' : CmpOp} {pos : Pos}
theorem uChain_eq : uChain r r' ta tb tc = tChain r r' ta tb tc := by unfold uChain tChain xIf; rfl
theorem my_chain (ho : OpR X (compareOp op) r) (ho' : OpR X (compareOp op') r') (ha : PE X a ta) (hb : PE X b tb) (hc : PE X c tc)
    (hm : lastMarks [op, op'] [b, c] = false := by with_unfolding_all rfl) : PE X (.Compare a [op, op'] [b, c] pos) (uChain r r' ta tb tc) := by rw [uChain_eq]; exact pe_chain ho ho' ha hb hc hm
theorem my_chainT (ho : OpR X (compareOp op) r) (ho' : OpR X (compareOp op') r') (ha : PE X a ta) (hb : PE X b tb) (hc : PE X c tc)
    (hm : lastMarks [op, op'] [b, c] = false := by with_unfolding_all rfl) : PT X (.Compare a [op, op'] [b, c] pos) (tTest (uChain r r' ta tb tc)) := by rw [uChain_eq]; exact pt_chain ho ho' ha hb hc hm
/-- a part that has a value and leaves the heap as it is -/
def Still (t : TE) : Prop := ∀ σ H Q, t σ H Q → ∃ v, Q v H ∧ ∀ Q' : VK, Q' v H → t σ H Q'
theorem still_c {v : V} : Still (tC v) := fun _ _ _ q => ⟨v, q, fun _ q' => q'⟩
theorem still_v {i : Nat} : Still (tVar i) := fun _ _ _ ⟨v, e, q⟩ => ⟨v, q, fun _ q' => ⟨v, e, q'⟩⟩
theorem still_fld {K : PySem.W.Frag} {f : Str} (h : Still ta) : Still (tFld K ta f) := fun σ H Q q => by
  obtain ⟨v, ⟨a, C, dx, fs, u, e, e1, e2, e3, e4, q⟩, k⟩ := h σ H _ q
  exact ⟨u, q, fun Q' q' => k _ ⟨a, C, dx, fs, u, e, e1, e2, e3, e4, q'⟩⟩
def rLenQ (K : PySem.W.Frag) : List V → Hp → VK → Prop := fun xs H Q => ∃ p ys, xs = [.ref p] ∧ (SqL K H p ys ∨ SqT K H p ys) ∧ Q (.int ys.length) H
theorem my_lenQ : CallR X (.builtin "len") (rLenQ X.K) := call_len_seq
theorem still_len {K : PySem.W.Frag} (h : Still ta) : Still (tCB (rLenQ K) (tCons ta tNil)) := fun σ H Q q => by
  obtain ⟨v, ⟨p, ys, e, e1, q⟩, k⟩ := h σ H _ q
  exact ⟨_, q, fun Q' q' => k _ ⟨p, ys, e, e1, q'⟩⟩
def rLenSQ : List V → Hp → VK → Prop := fun xs H Q => ∃ z, xs = [.str z] ∧ z.length ≤ sizeLine ∧ Q (.int z.length) H
theorem my_lenSQ : CallR X (.builtin "len") rLenSQ := call_len_str
theorem still_lenS (h : Still ta) : Still (tCB rLenSQ (tCons ta tNil)) := fun σ H Q q => by
  obtain ⟨v, ⟨z, e, e1, q⟩, k⟩ := h σ H _ q
  exact ⟨_, q, fun Q' q' => k _ ⟨z, e, e1, q'⟩⟩
/-- a <= b <= c of ints, all three still -/
def uChI (f g : Int → Int → Bool) (ta tb tc : TE) : TE := fun σ H Q => ta σ H fun x _ => tb σ H fun y _ => tc σ H fun z _ => ∃ i j l, x = .int i ∧ y = .int j ∧ z = .int l ∧ Q (.bl (f i j && g j l)) H
theorem uChI_le {f g : Int → Int → Bool} (sa : Still ta) (sb : Still tb) (sc : Still tc) (σ : L2.St) (H : Hp) (Q : VK) (q : uChI f g ta tb tc σ H Q) :
    uChain (rI0 fun i j => .bl (f i j)) (rI0 fun i j => .bl (g i j)) ta tb tc σ H Q := by
  obtain ⟨x, q, ka⟩ := sa σ H _ q
  obtain ⟨y, q, kb⟩ := sb σ H _ q
  obtain ⟨z, ⟨i, j, l, rfl, rfl, rfl, q⟩, kc⟩ := sc σ H _ q
  refine ka _ (kb _ ⟨i, j, rfl, rfl, _, rfl, ?_⟩)
  refine xIf_2 (fun h => kc _ ⟨j, l, rfl, rfl, ?_⟩) (fun h => ?_)
  · rw [h, Bool.true_and] at q; exact q
  · rw [h, Bool.false_and] at q; exact q
theorem my_chI {f g : Int → Int → Bool} (ho : OpR X (compareOp op) (rI0 fun i j => .bl (f i j))) (ho' : OpR X (compareOp op') (rI0 fun i j => .bl (g i j))) (ha : PE X a ta) (hb : PE X b tb) (hc : PE X c tc) (sa : Still ta) (sb : Still tb) (sc : Still tc)
    (hm : lastMarks [op, op'] [b, c] = false := by with_unfolding_all rfl) : PE X (.Compare a [op, op'] [b, c] pos) (uChI f g ta tb tc) := PE.le (my_chain ho ho' ha hb hc hm) (uChI_le sa sb sc)
theorem my_chIT {f g : Int → Int → Bool} (ho : OpR X (compareOp op) (rI0 fun i j => .bl (f i j))) (ho' : OpR X (compareOp op') (rI0 fun i j => .bl (g i j))) (ha : PE X a ta) (hb : PE X b tb) (hc : PE X c tc) (sa : Still ta) (sb : Still tb) (sc : Still tc)
    (hm : lastMarks [op, op'] [b, c] = false := by with_unfolding_all rfl) : PT X (.Compare a [op, op'] [b, c] pos) (tTest (uChI f g ta tb tc)) :=
  PT.le (my_chainT ho ho' ha hb hc hm) fun σ H Q q => uChI_le sa sb sc σ H _ q
def uRevL (K : PySem.W.Frag) (te : TE) : TE := fun σ H Q => te σ H fun x H1 => ∃ a xs, x = .ref a ∧ SqL K H1 a xs ∧ xNew (.lst xs.reverse) H1 Q
theorem my_revL {e : Expr} {k : Nat} {p1 p2 p3 : Pos} (he : PE X e te) : PE X (.Subscript e (.Slice none none (some (.UnaryOp .USub (.Constant (.int 1) k p1) p2)) p3) pos) (uRevL X.K te) := by
  have e : uRevL X.K te = tRevL X.K te := by unfold uRevL tRevL xNew; rfl
  rw [e]; exact pe_revL he
def uLstRg (te : L2.St → Hp → (Int → Int → Hp → Prop) → Prop) : TE := fun σ H Q => te σ H fun a b H1 => RgOk a b ∧ xNew (.lst (rgV a b)) H1 Q
theorem my_listRg {e : Expr} {te : L2.St → Hp → (Int → Int → Hp → Prop) → Prop} {p : Pos} (hc : X.calm = true) (hg : Gl X "list") (hm : X.mg "list" = none) (he : PRg X e te) (na : starEach [e] X.env = (false, eval e X.env) :: starEach [] X.env := by rfl) : PE X (.Call (.Name "list" p) [e] [] pos) (uLstRg te) := by
  have e' : uLstRg te = tLstRg te := by unfold uLstRg tLstRg xNew; rfl
  rw [e']; exact pe_listRg hc hg hm he na
def uLc (wi : TI) (g : TG) (tt : TT) (te : TE) (vs : List Nat) : TE := fun σ H Q => wi σ H fun J H1 => xLc J g tt te vs σ H1 Q
theorem uLc_eq (wi : TI) (g : TG) (tt : TT) (te : TE) (vs : List Nat) : uLc wi g tt te vs = tLc wi g tt te vs := by unfold uLc tLc xLc; rfl
end
/-! ### what leaves a def -/
section
variable {P : Program} {w : World} {K : PySem.W.Frag} {mg : Str → Option Value} {base : Heap} {N : List Str} {qual : Str} {sc : Scope} {f : Addr} {cd : Value} {A : Around} {outer : List Env} {s : Shared} {H : Hp} {E : XK}
theorem passE : Passes (L2.CX P w) (cxOf (L2.CX P w) P w K mg base N qual sc f cd A outer s H E) E := passes_call (takes_of rfl rfl rfl rfl) fun _ _ _ _ h => h
theorem ownE : PassesOwn (model P w) (A.deeper (PyProof.Rows.envOfC qual sc s.heap.objs.size f cd)) (PyProof.Rows.envOfC qual sc s.heap.objs.size f cd) (cxOf (L2.CX P w) P w K mg base N qual sc f cd A outer s H E).xe := passes_of (X := cxOf (L2.CX P w) P w K mg base N qual sc f cd A outer s H E) rfl
theorem takesE : Takes (cxOf (L2.CX P w) P w K mg base N qual sc f cd A outer s H E) (fun cls d _ H => E cls d H) := takes_of rfl rfl rfl rfl
end
/-- a def of the text -/
theorem fun_of {K : PySem.W.Frag} {x qual : Str} {st : Stmt} {f : Addr} {fd : FuncData} (F : FunD K x qual (defArgs st) (defBody st) (defScope st) [] [] f fd) : Fun K x qual st f fd := by
  obtain ⟨⟨oc, od, dV, kV, doc, pm, an, cdv, ct, osl, e, lk, cd, dd, kk⟩, kp⟩ := F
  refine ⟨⟨oc, od, kV, doc, pm, an, cdv, ct, osl, ?_, lk, cd⟩, kp⟩
  rcases dd with ⟨_, rfl⟩ | ⟨h, _⟩
  · exact e
  · exact absurd rfl h
theorem ix_of {n : Nat} {z : Int} {j : Nat} (e : z = (j : Int)) (h : j < n) : ixN n z = some j := by
  unfold ixN
  rw [e, if_pos (by omega), if_pos (by omega)]
  simp
/-! ### steps -/
section
variable {H0 H : Hp} {L : List Ent} {l : Addr} {xs zs : List V} {y : V} {Q : VK} {QH : Hp → Prop} {o : HO}
theorem st_new (w : W H0 H L) (k : ∀ p H', W H0 H' ((p, o) :: L) → Q (.ref p) H') : xNew o H Q := by
  unfold xNew; exact fun p hp => k p _ (w.new o hp)
theorem st_tup (w : W H0 H L) (k : ∀ p H', H' p = some (.tup xs) → W H0 H' L → Q (.ref p) H') : xNew (.tup xs) H Q := by
  unfold xNew; exact fun p hp => k p _ upd_same (w.skip hp)
theorem st_app (w : W H0 H L) (i : Nat) (h : L[i]? = some (l, .lst xs)) (hz : xs.length < sizeLine) (k : ∀ H', W H0 H' (L.set i (l, .lst (xs ++ [y]))) → Q .non H') : xApp (.ref l) [y] H Q := by
  unfold xApp; exact ⟨l, xs, y, rfl, rfl, w.get i h, hz, k _ (w.set i _ h rfl)⟩
theorem st_pop (w : W H0 H L) (i : Nat) (h : L[i]? = some (l, .lst xs)) (hy : xs[xs.length - 1]? = some y) (k : ∀ H', W H0 H' (L.set i (l, .lst xs.dropLast)) → Q y H') : xPop (.ref l) [] H Q := by
  unfold xPop; exact ⟨l, xs, y, rfl, rfl, w.get i h, hy, k _ (w.set i _ h rfl)⟩
theorem st_pop0 (w : W H0 H L) (i : Nat) (h : L[i]? = some (l, .lst (y :: xs))) (k : ∀ H', W H0 H' (L.set i (l, .lst xs)) → Q y H') : xPopAt (.ref l) [.int 0] H Q := by
  unfold xPopAt
  refine ⟨l, y :: xs, 0, 0, y, rfl, rfl, w.get i h, by decide, by decide, ?_, rfl, k _ (w.set i _ h rfl)⟩
  show seqIndex? 0 (xs.length + 1) = some 0
  unfold seqIndex?
  simp
theorem st_ins (w : W H0 H L) (i : Nat) {n : Int} (h : L[i]? = some (l, .lst xs)) (hz : xs.length < sizeLine) (h0 : 0 ≤ n) (h1 : n < 2 ^ 63) (k : ∀ H', W H0 H' (L.set i (l, .lst (xs.take n.toNat ++ [y] ++ xs.drop n.toNat))) → Q .non H') : xIns (.ref l) [.int n, y] H Q := by
  unfold xIns; exact ⟨l, xs, n, y, rfl, rfl, w.get i h, hz, h0, h1, k _ (w.set i _ h rfl)⟩
theorem find_first {ns : List Int} {n : Int} (hm : n ∈ ns) : ∃ j, ns[j]? = some n ∧ (∀ m, m < j → ns[m]? ≠ some n) ∧ ns.eraseIdx j = ns.erase n := by
  induction ns with
  | nil => cases hm
  | cons a r ih =>
    by_cases e : a = n
    · subst e
      exact ⟨0, rfl, fun m hm => absurd hm (Nat.not_lt_zero m), by simp⟩
    · obtain ⟨j, h1, h2, h3⟩ := ih ((List.mem_cons.mp hm).resolve_left fun z => e z.symm)
      refine ⟨j + 1, h1, fun m hm => ?_, ?_⟩
      · cases m with
        | zero => exact fun z => e (Option.some.inj z)
        | succ m => exact h2 m (Nat.lt_of_succ_lt_succ hm)
      · rw [List.eraseIdx_cons_succ, h3, List.erase_cons_tail (by simpa using e)]
theorem st_rem (w : W H0 H L) (i : Nat) {ns : List Int} {n : Int} (h : L[i]? = some (l, .lst (ns.map V.int))) (hm : n ∈ ns) (k : ∀ H', W H0 H' (L.set i (l, .lst ((ns.erase n).map V.int))) → Q .non H') : xRem (.ref l) [.int n] H Q := by
  obtain ⟨j, h1, h2, h3⟩ := find_first hm
  unfold xRem
  refine ⟨l, ns, n, j, rfl, rfl, w.get i h, h1, h2, ?_⟩
  rw [h3]
  exact k _ (w.set i _ h rfl)
theorem st_setL (w : W H0 H L) (i : Nat) {n : Int} {j : Nat} (h : L[i]? = some (l, .lst xs)) (hj : ixN xs.length n = some j) (k : ∀ H', W H0 H' (L.set i (l, .lst (xs.set j y))) → QH H') : xSetL (.ref l) (.int n) y H QH := by
  unfold xSetL; exact ⟨l, xs, n, j, rfl, rfl, w.get i h, hj, k _ (w.set i _ h rfl)⟩
theorem st_fld {K : PySem.W.Frag} {C dx : Addr} {f : Str} {fs : List (Str × V)} (w : W H0 H L) (i : Nat) (h : L[i]? = some (l, .ins C dx fs)) (c : Cls K C) (n : NoAttr K C f) (hz : fs.length < 1000)
    (k : ∀ H', W H0 H' (L.set i (l, .ins C dx (putF f y fs))) → QH H') : xFldSt K f (.ref l) y H QH := by
  unfold xFldSt; exact ⟨l, C, dx, fs, rfl, w.get i h, c, n, hz, k _ (w.set i _ h rfl)⟩
theorem st_dput {key : Key} {kvs : List (Key × V)} {kv : V} (w : W H0 H L) (i : Nat) (h : L[i]? = some (l, .dK kvs)) (hk : kv = kV key) (hz : kvs.length < sizeLine) (k : ∀ H', W H0 H' (L.set i (l, .dK (putK kvs key y))) → QH H') : xDPut (.ref l) kv y H QH := by
  subst hk
  unfold xDPut; exact ⟨l, _, rfl, DPut.k (w.get i h) hz, k _ (w.set i _ h rfl)⟩
theorem st_make {C : Addr} {sp : Sp} {E : XK} {vs : List V} (w : W H0 H L) (k : ∀ x dx H', W H0 H' ((x, .ins C dx []) :: L) → sp (.ref x :: vs) H' (fun v H2 => v = .non ∧ Q (.ref x) H2) E) : xMake C sp E vs H Q := by
  unfold xMake; exact fun x dx hx hdx ne => k x dx _ ((w.skip hdx).new _ (by rw [upd_ne (Ne.symm ne)]; exact hx))
theorem st_call {sp : Sp} {E : XK} {vs : List V} (h : sp vs H Q E) : xCall sp vs H Q E := by unfold xCall; exact h
theorem st_forR {lo : Int} {n : Nat} {g : TG} {tb : TS} {D : Ends} {σ : L2.St} (Pv : Nat → L2.St → Hp → Prop) (h0 : Pv 0 σ H)
    (hs : ∀ i σ H, i < n → Pv i σ H → g (.int (lo + i)) σ H fun σ2 H2 => tb { D with nx := Pv (i + 1), ct := Pv (i + 1), bk := D.nx } σ2 H2) (hd : ∀ σ H, Pv n σ H → D.nx σ H) : xFor (Itr lo n) g tb D σ H := by
  unfold xFor; exact for_range Pv h0 hs hd
theorem st_forRC {lo c : Int} {n : Nat} {g : TG} {tb : TS} {D : Ends} {σ : L2.St} (Pv : Nat → L2.St → Hp → Prop) (h0 : Pv 0 σ H)
    (hs : ∀ i σ H, i < n → Pv i σ H → g (.int (lo + (i : Nat) * c)) σ H fun σ2 H2 => tb { D with nx := Pv (i + 1), ct := Pv (i + 1), bk := D.nx } σ2 H2) (hd : ∀ σ H, Pv n σ H → D.nx σ H) : xFor (Itc lo c n) g tb D σ H := by
  unfold xFor; exact for_rangeC Pv h0 hs hd
theorem st_forL {K : PySem.W.Frag} {a : Addr} {g : TG} {tb : TS} {D : Ends} {σ : L2.St} (Pv : Nat → L2.St → Hp → Prop) (h0 : Pv 0 σ H) (hl : ∀ i σ H, i ≤ xs.length → Pv i σ H → SqL K H a xs)
    (hs : ∀ i x σ H, xs[i]? = some x → Pv i σ H → g x σ H fun σ2 H2 => tb { D with nx := Pv (i + 1), ct := Pv (i + 1), bk := D.nx } σ2 H2) (hd : ∀ σ H, Pv xs.length σ H → D.nx σ H) : xFor (Itl K a) g tb D σ H := by
  unfold xFor; exact for_list Pv h0 hl hs hd
theorem st_forT {K : PySem.W.Frag} {a : Addr} {g : TG} {tb : TS} {D : Ends} {σ : L2.St} (Pv : Nat → L2.St → Hp → Prop) (h0 : Pv 0 σ H) (hl : ∀ i σ H, i ≤ xs.length → Pv i σ H → SqT K H a xs)
    (hs : ∀ i x σ H, xs[i]? = some x → Pv i σ H → g x σ H fun σ2 H2 => tb { D with nx := Pv (i + 1), ct := Pv (i + 1), bk := D.nx } σ2 H2) (hd : ∀ σ H, Pv xs.length σ H → D.nx σ H) : xFor (Itt K a) g tb D σ H := by
  unfold xFor; exact for_tup Pv h0 hl hs hd
/-- while: W, by a number that falls -/
theorem st_while {c : TT} {tb : TS} {D : Ends} {σ : L2.St} (Wv : Nat → L2.St → Hp → Prop) (m0 : Nat) (h0 : Wv m0 σ H)
    (hs : ∀ m σ H, Wv m σ H → c σ H fun b H1 => xIf b (tb { D with nx := fun σ' H' => ∃ m', m' < m ∧ Wv m' σ' H', ct := fun σ' H' => ∃ m', m' < m ∧ Wv m' σ' H', bk := D.nx } σ H1) (D.nx σ H1))
    (mono : ∀ σ H Q Q', (∀ b H1, Q b H1 → Q' b H1) → c σ H Q → c σ H Q') : xWhile c tb D σ H := by
  unfold xWhile
  refine ⟨Wv, ⟨m0, h0⟩, fun m σ H hw => mono σ H _ _ (fun b H1 q => ?_) (hs m σ H hw)⟩
  unfold xIf at q
  cases b with
  | true => exact ⟨_, fun _ _ z => z, q⟩
  | false => exact q
end
end TR
namespace TR
open PySem L2
section
variable {X : Cx} {x : Str} {pos : Pos}
theorem my_globI {i : Int} (h : ∃ t, X.mg x = some (.int i t)) (hg : Gl X x) (hd : (x == ("__debug__" : Str)) = false := by decide) : PE X (.Name x pos) (tC (.int i)) := by
  obtain ⟨t, h⟩ := h
  exact pe_glob hg h ⟨t, rfl⟩ hd
theorem my_globS {z : Str} (h : ∃ t, X.mg x = some (.str z t)) (hg : Gl X x) (hd : (x == ("__debug__" : Str)) = false := by decide) : PE X (.Name x pos) (tC (.str z)) := by
  obtain ⟨t, h⟩ := h
  exact pe_glob hg h ⟨t, rfl⟩ hd
theorem my_globR {a : Addr} (h : X.mg x = some (.ref a)) (hg : Gl X x) (hd : (x == ("__debug__" : Str)) = false := by decide) : PE X (.Name x pos) (tC (.ref a)) := pe_glob hg h rfl hd
end
theorem nb_t {a b : Prop} [Decidable a] [Decidable b] (h : (!(decide a && decide b)) = true) : ¬ (a ∧ b) := fun ⟨x, y⟩ => by
  rw [decide_eq_true x, decide_eq_true y] at h; cases h
theorem nb_f {a b : Prop} [Decidable a] [Decidable b] (h : (!(decide a && decide b)) = false) : a ∧ b := by
  by_cases x : a
  · by_cases y : b
    · exact ⟨x, y⟩
    · rw [decide_eq_true x, decide_eq_false y] at h; cases h
  · rw [decide_eq_false x] at h; cases h
theorem de_t {i j : Int} (h : decide (V.int i = V.int j) = true) : i = j := V.int.inj (of_decide_eq_true h)
theorem de_f {i j : Int} (h : decide (V.int i = V.int j) = false) : i ≠ j := fun z => of_decide_eq_false h (by rw [z])
/-- where the script stands: an entry of the ledger, or the written part -/
def Scr (K : PySem.W.Frag) (a : Addr) (ns : List Int) (R : List Ent) : Prop := ∀ H0 H, W H0 H R → SqL K H a (ns.map V.int)
theorem Scr.cons {K : PySem.W.Frag} {a : Addr} {ns : List Int} {R : List Ent} {x : Ent} (s : Scr K a ns R) : Scr K a ns (x :: R) := fun _ _ w => s _ _ w.drop1
theorem Scr.app {K : PySem.W.Frag} {a : Addr} {ns : List Int} {R L : List Ent} (s : Scr K a ns R) : Scr K a ns (L ++ R) := fun _ _ w => s _ _ w.dropL
@[irreducible] def sp_law (K : PySem.W.Frag) : Sp := fun vs H Q _ => ∃ (a : Addr) (ns : List Int) (R : List Ent), vs = [.ref a] ∧ Scr K a ns R ∧ W H H R ∧ ns.length ≤ 63 ∧ ∀ H', Q (.bl true) H'
theorem of_law {K : PySem.W.Frag} {vs : List V} {H : Hp} {Q : VK} {E : XK} (h :  ∃ (a : Addr) (ns : List Int) (R : List Ent), vs = [.ref a] ∧ Scr K a ns R ∧ W H H R ∧ ns.length ≤ 63 ∧ ∀ H', Q (.bl true) H') : sp_law K vs H Q E := by unfold sp_law; exact h
theorem law_pre {K : PySem.W.Frag} {H : Hp} {a : Addr} {ns : List Int} (hl : ns.length ≤ 63) (hO : Only H) (hS : SqL K H a (ns.map V.int)) : sp_law K [.ref a] H (fun v _ => v = .bl true) fun _ _ _ => False := by
  unfold sp_law
  rcases hS with (h | ⟨o, h⟩) | h
  · exact ⟨a, ns, [(a, .lst (ns.map V.int))], rfl, fun H0 H' w => SqL.of (w.get 0 rfl), ⟨by simp, fun x hx => by rw [List.mem_singleton.mp hx]; exact h, fun _ _ e => e⟩, hl, fun _ => rfl⟩
  · exact ⟨a, ns, [(a, .frz o (.lst (ns.map V.int)))], rfl, fun H0 H' w => .inl (.inr ⟨o, w.get 0 rfl⟩), ⟨by simp, fun x hx => by rw [List.mem_singleton.mp hx]; exact h, fun _ _ e => e⟩, hl, fun _ => rfl⟩
  · exact ⟨a, ns, [], rfl, fun H0 H' w => .inr h, ⟨by simp, fun x hx => (nomatch hx), fun _ _ e => e⟩, hl, fun _ => rfl⟩
theorem binds1 {K : PySem.W.Frag} {x qual : Str} {st : Stmt} {f : Addr} {fd : FuncData} {p : Str} (F : Fun K x qual st f fd)
    (h : ∀ (kV doc pm : Value) (an : Option Addr) (cdv ct : Value) (us : List Value), us.length = [p].length → bindArgs (PySem.W.fnOf x qual (defArgs st) (defBody st) (defScope st) .none kV doc pm an cdv ct) ⟨us, []⟩ = pure ([p].zip us)) (s : Shared) (v : Value) : BindsTo s fd ⟨[v], []⟩ [(p, v)] := by
  obtain ⟨oc, od, kV, doc, pm, an, cdv, ct, osl, rfl, lk, hcd⟩ := F.ex
  exact .of_eq (h kV doc pm an cdv ct [v] rfl)
open PySem.Spec PyProof.Rows in
theorem law_end {l : PySem.W.OpenLaw} {n k : Nat} {q : Program} {loose : List Str} {XP : (Str → Option Value) → Heap → Prop} {YP : World → Heap → Prop} {d : DefRec} {x : Str}
    (hn : l.most = some n) (hn2 : n ≤ sizeLine) (hdf : d.params.defaults = []) (hr : Room k callerA)
    (F : ∀ (w : World) (mg : Str → Option Value) (fa : Addr) (h : Heap), YP w h → h.Ns mainGlobals mg → mg d.name = some (.ref fa) →
      ∃ (K : PySem.W.Frag) (fd : FuncData) (sp : Sp), K.In h ∧ (∀ (s : Shared) (u : Value), BindsTo s fd ⟨[u], []⟩ [(x, u)]) ∧
        (∀ (H : Hp) (a : Addr) (ns : List Int), ns.length ≤ n → Only H → SqL K H a (ns.map V.int) → sp [.ref a] H (fun v _ => v = .bl true) fun _ _ _ => False) ∧
        ∀ base : Heap, K.In base → base.Ns mainGlobals mg → FnOk l.prog w K mg base (L2.CX l.prog w) k fa fd [x] sp) :
    PySem.W.WalkO q loose XP YP l.row.toRowW d [] (fun f vs => PySem.call f vs) := by
  refine Att.attach_call hn hdf fun w s₀ s₁ mg mb fa o pm cd doc a vs ns G Y ho hd hcd hmg hobj hints hlen hg => ?_
  obtain ⟨K, fd, sp, KX, hb, hsp, hF⟩ := F w mg fa _ Y G.T.g hmg
  refine law_call KX G.T.g G.T.b G.T.builtins G.T.nolimit hg hobj hints (Nat.le_trans hlen hn2) hr hF hb (fun H hO hS => hsp H a ns hlen hO hS) fun H e s' h => ?_
  obtain ⟨_, _, _, _, _, _, _, _, _, _, _, _, z⟩ := h
  exact z.elim
end TR
namespace TR
open PySem PySem.Spec PyProof.Rows L2
/-! ### an exception that was caught and is held by a name behind the suite -/
def ExH (cls : Value) (d : Option Addr) (a : Addr) : HO :=
  .ext fun h => ∃ (oe : Obj) (vs : Array Value), h.get? a = some oe ∧ Zc cls d oe ∧ oe.data = .fields vs
section
variable {X : Cx} {pins : List (Addr × Obj)} {σ : L2.St} {H : Hp} {s : Shared}
/-- an untracked exception of ours comes to be tracked -/
theorem inv_track {a : Addr} {oe : Obj} {vs : Array Value} {cls : Value} {d : Option Addr} (I : Inv X pins σ H s)
    (ha : s.heap.get? a = some oe) (z : Zc cls d oe) (hv : oe.data = .fields vs) (na : H a = none)
    (nL : X.env.locals ≠ a) (n0 : ∀ o, X.s_0.heap.get? a = some o → a ∈ X.ex) (np : ∀ p ∈ X.pn ++ pins, p.1 ≠ a) :
    Inv X pins σ (upd H a (ExH cls d a)) s := by
  have keepN : ∀ b, H b = none → b ≠ a → upd H a (ExH cls d a) b = none := fun b hb ne => by
    rw [upd_ne ne]
    exact hb
  have keepS : ∀ b o, H b = some o → upd H a (ExH cls d a) b = some o := fun b o hb => by
    rw [upd_ne (ne_of_none hb na)]
    exact hb
  have obj : ObjOk X.prog X.w (upd H a (ExH cls d a)) s.heap a (ExH cls d a) :=
    ⟨⟨oe, vs, ha, z, hv⟩, ⟨oe, ha⟩, fun _ _ ⟨o, v, q, r⟩ k => ⟨o, v, k o q, r⟩⟩
  constructor
  · exact I.ok
  · exact I.os
  · exact I.bare
  · constructor
    · exact I.base.keep
    · exact I.base.slot
    · intro b o e n hx
      refine keepN b (I.base.free b o e n hx) fun q => ?_
      subst q
      exact hx (n0 o e)
    · exact I.base.there
    · exact fun b xs e => keepS b _ (I.base.tups b xs e)
    · exact fun b o u e => keepS b _ (I.base.frzs b o u e)
    · intro b ps e
      obtain ⟨m, q⟩ := I.base.tbls b ps e
      exact ⟨m, keepS b _ q⟩
  · exact I.loc
  · exact I.cell
  · exact keepN _ I.free nL
  · intro x c e
    refine keepN c (I.freeC x c e) fun q => ?_
    obtain ⟨v, o, ho, hd⟩ := I.cell x c e
    rw [q, ha] at ho
    cases ho
    rw [hv] at hd
    cases hd
  · intro p hp
    obtain ⟨h1, h2, h3⟩ := I.pin p hp
    exact ⟨h1, keepN p.1 h2 (np p hp), h3⟩
  · exact HOk.laidN I.hok (fun _ _ q => q) na obj
  · exact I.len
end
/-- what is wished of an exception of the body: it is of the clause's class; behind the suite it is held in slot j -/
def wHeld (K : PySem.W.Frag) (c : Value) (i j : Nat) (D : Ends) : WX := fun cls d σ H =>
  PySem.W.exmOne K cls c = some true ∧ ∀ a, H a = none → D.nx (((σ.set i (some (.ref a))).set j (some (.ref a))).set i none) (upd H a (ExH cls d a))
section
variable {X : Cx} {x n m : Str} {c : Value} {i j : Nat} {body : List Stmt} {np pos pos' hp ep ap : Pos} {tb : WX → TS}
/-- try: body / except x as n: m = n -/
theorem my_tryHeld (hs : X.stack = X.env :: X.outer) (hf : X.env.frame = some X.env.locals) (hN : X.N.Nodup)
    (hi : X.N[i]? = some n) (hln : X.env.kindOf n = some .local) (hj : X.N[j]? = some m) (hlm : X.env.kindOf m = some .local) (hij : i ≠ j)
    (hc : Names X x c) (hdb : (n == ("__debug__" : Str)) = false) (hcd : (n == ("__classdict__" : Str)) = false)
    (hsw : ∀ (a : Addr) (pn : List (Addr × Obj)), swapsWith (.Name n ep) (some (.Name m hp)) ap.line (X.suite a pn).env = pure false)
    (hb : ∀ (W : WX) (pn : List (Addr × Obj)) (xe : Value → Shared → Prop), Takes (X.tr pn xe) W →
      PassesOwn (model X.prog X.w) X.A X.env xe → PSs (X.tr pn xe) body (tb W)) :
    PS X (.Try body [.ExceptHandler (some (.Name x np)) (some n) [.Assign [.Name m hp] (.Name n ep) ap] pos'] [] [] pos)
      (fun D σ H => tb (wHeld X.K c i j D) D σ H) := by
  constructor
  intro pins s σ H D I h
  have ok := I.ok
  have frm : X.A.frames = some (X.env :: X.outer) := by
    rw [ok.frames, hs]
  apply wpAny_Try_except
  have key : ∀ xe : Value → Shared → Prop, Takes (X.tr (X.pn ++ pins) xe) (wHeld X.K c i j D) → PassesOwn (model X.prog X.w) X.A X.env xe →
      wpAny (model X.prog X.w) X.A (execs body X.env) (fun f s₁ => match f with
        | .next => wpAny (model X.prog X.w) X.A (execs [] X.env) (SP X pins D) X.xe s₁
        | f => SP X pins D f s₁) xe s := by
    intro xe tk po
    apply wpAny_mono ((hb _ _ xe tk po).run [] s σ H D (I.toTry _) h)
    · intro f s1 sp
      cases f with
      | next =>
        obtain ⟨σ1, H1, J1, q1⟩ := sp
        exact wpAny_execs_nil ⟨σ1, H1, J1.ofTry ok, q1⟩
      | brk =>
        obtain ⟨σ1, H1, J1, q1⟩ := sp
        exact ⟨σ1, H1, J1.ofTry ok, q1⟩
      | cont =>
        obtain ⟨σ1, H1, J1, q1⟩ := sp
        exact ⟨σ1, H1, J1.ofTry ok, q1⟩
      | ret u =>
        obtain ⟨v, σ1, H1, J1, r1, q1⟩ := sp
        exact ⟨v, σ1, H1, J1.ofTry ok, r1, q1⟩
    · exact fun _ _ z => z
  refine key _ (fun u s' xx => ?_) PassesOwn.looking
  · obtain ⟨a, B, sI, pins1, σ1, H1, cls, d, rfl, J1, nb, up, sky, na, os, ag, hm, wish⟩ := xx
    have J : Inv X pins σ1 H1 sI := J1.ofTry ok
    rw [hs] at sky nb
    refine Sky.land Zc.steady frm hf sky fun h3 fl up3 => ?_
    have newB : B.get? a = none := fl.2.1
    obtain ⟨o3, v3, g3, z3, d3⟩ := fl.there
    have nfr : a ∉ frs (X.env :: X.outer) := by
      intro q
      obtain ⟨_, o, e, no⟩ := fl.2.2.1.mem q
      rw [g3] at e
      cases e
      exact no _ d3
    have nL : a ≠ X.env.locals := by
      intro q
      refine nfr (List.mem_filterMap.mpr ⟨X.env, List.mem_cons_self, ?_⟩)
      rw [hf, q]
    have nF : a ∉ X.fs := by
      intro q
      obtain ⟨e, he, z⟩ := List.mem_filterMap.mp q
      exact nfr (List.mem_filterMap.mpr ⟨e, List.mem_cons_of_mem _ he, z⟩)
    have notI : ∀ o, sI.heap.get? a ≠ some o := by
      intro o e
      have := nb a o e nfr
      rw [newB] at this
      cases this
    have J3 : Inv X pins σ1 H1 { s' with heap := h3 } := by
      rw [← hs] at nb
      exact J.landed nb fl.1 (up.trans up3) os ag
    have S3 := J3.suite g3 d3 na nL nF
    apply wpAny_handleBy_cons (codeAny_handlers_test ?_) (by intro q; cases q)
    have LT : PySem.W.Looks (model X.prog X.w) h3 (typeOf (.ref a)) cls := by
      intro A Q E s k q
      apply wpAny_typeOf_ref (k _ _ g3)
      rw [z3.1]
      exact q
    have LM := PySem.W.exm_one (M := model X.prog X.w) J3.kIn LT hm
    have look : ∀ {Q : Value → Shared → Prop} {E : Value → Shared → Prop}, Q c { s' with heap := h3 } →
        wpAny (model X.prog X.w) (X.A.mark (some (.ref a))) (eval (.Name x np) X.env) Q E { s' with heap := h3 } := by
      intro Q E q
      obtain ⟨hg, hd1, h1 | ⟨h1, h2, h4⟩⟩ := hc
      · exact ld_glob S3 hg h1 q hd1
      · exact ld_blt S3 hg h1 h2 q h4 hd1
    apply look
    apply LM.here
    apply codeAny_handlers_suite_as
    apply HandSPX.lands_againZ fl
    intro h4 fl4 up4
    have J4 : Inv X pins σ1 H1 { s' with heap := h4 } := by
      rw [← hs] at nb
      exact J.landed nb fl4.1 ((up.trans up3).trans up4) os ag
    obtain ⟨o4, v4, g4, z4, d4⟩ := fl4.there
    have S4 := J4.suite g4 d4 na nL nF
    refine store_ok (X := X.suite a _) (v := .ref a) S4 hN hi (.inl hln) rfl (fun s5 S5 => ?_) (.inr hln)
    -- the suite: m = n
    have su : PSs (X.suite a ((a, o4) :: (X.pn ++ pins))) [.Assign [.Name m hp] (.Name n ep) ap] (tAsg (tVar i) (gName j)) :=
      pss_one (ps_set hN hj (.inl hlm) (pe_var hi (.inl hln) hdb hcd) (hsw a _) (.inr hlm))
    have slot : ((σ1.set i (some (V.ref a))) : L2.St)[i]? = some (some (V.ref a)) := by
      have : i < σ1.length := by
        rw [J.len]
        exact (List.getElem?_eq_some_iff.mp hi).1
      rw [List.getElem?_set_self this]
    have red : tAsg (tVar i) (gName j) { nx := fun σ6 H6 => σ6 = (σ1.set i (some (.ref a))).set j (some (.ref a)) ∧ H6 = H1, rt := fun _ _ => False } (σ1.set i (some (.ref a))) H1 :=
      ⟨_, slot, rfl, rfl⟩
    apply wpAny_mono (su.run [] s5 _ H1 _ S5 red)
    · intro f s6 sp
      cases f with
      | next =>
        obtain ⟨σ6, H6, S6, rfl, rfl⟩ := sp
        refine gone_ok (X := X.suite a _) S6 hN hi hln fun s7 S7 => ?_
        obtain ⟨g7, _, _, _, _⟩ := S7.pin (a, o4) (List.mem_append_left _ List.mem_cons_self)
        have J7 : Inv X pins _ H6 s7 := S7.unsuite ok
        refine ⟨_, _, inv_track J7 g7 z4 d4 na (Ne.symm nL) ?_ ?_, wish a na⟩
        · intro o e
          apply Classical.byContradiction
          intro nx
          obtain ⟨o', q⟩ := J.base.there a o e nx
          exact notI o' q
        · intro p hp q
          obtain ⟨e, _⟩ := J.pin p hp
          rw [q] at e
          exact notI _ e
      | brk =>
        obtain ⟨_, _, _, z⟩ := sp
        exact z.elim
      | cont =>
        obtain ⟨_, _, _, z⟩ := sp
        exact z.elim
      | ret u =>
        obtain ⟨_, _, _, _, _, z⟩ := sp
        exact z.elim
    · exact fun _ _ z => z.elim
end
section
variable {X : Cx}
/-- isinstance(e, c), e a held exception -/
def rIsH (K : PySem.W.Frag) : List V → Hp → VK → Prop := fun xs H Q =>
  ∃ (a D : Addr) (c : V) (cv : Value) (b : Bool), xs = [.ref a, c] ∧ H a = some (ExH (.ref D) none a) ∧ ExcC K D ∧ (∀ u, RelV c u → u = cv) ∧ PySem.W.kitOne K (.ref D) cv = some b ∧ Q (.bl b) H
theorem my_isi : CallR X (.builtin "isinstance") (rIsH X.K) := by
  intro pins s σ H xs us Q I r h
  obtain ⟨a, D, c, cv, b, rfl, ha, C, hcv, e, q⟩ := h
  obtain ⟨u, v, rfl, ru, rv⟩ := r.two
  cases ru
  cases hcv _ rv
  obtain ⟨⟨oe, vs, g, hz, hv⟩, _, _⟩ := I.hok a _ ha
  have J : PySem.W.InstAt s.heap a oe D none := by
    obtain ⟨oc, od, dt, sl⟩ := oe
    obtain ⟨h1, h2⟩ := hz
    simp only at h1 h2 hv
    subst h1 h2 hv
    exact ⟨g, rfl, rfl, trivial⟩
  have kit := PySem.W.handS_kitx_exc (x := a) (ox := oe) C.hg C.hk C.hs C.hd C.ha C.hn C.ht C.hm
  apply PySem.W.kia_one kit I.kIn J e (fun z => nomatch z)
  intro tk
  exact ⟨.bl b, H, I.kept (t' := tk) fun _ _ z => z, rfl, q⟩
/-- xs.count(y), flat things -/
def rCntV (K : PySem.W.Frag) : V → List V → Hp → VK → Prop := fun x xs H Q =>
  ∃ (p : Addr) (ys : List V) (y : V), x = .ref p ∧ xs = [y] ∧ SqL K H p ys ∧ flatV y = true ∧ ys.all flatV = true ∧ Q (.int (ys.countP fun z => eqV z y : Nat)) H
theorem cnt_eqU {y : V} : ∀ {xs : List V} {us : List Value}, Vals xs us → xs.all flatV = true → us.countP (eqU y) = xs.countP fun z => eqV z y
  | _, _, .nil, _ => rfl
  | x :: xs, u :: us, .cons r t, f => by
    obtain ⟨f1, f2⟩ := Bool.and_eq_true_iff.mp (show (flatV x && xs.all flatV) = true from f)
    rw [List.countP_cons, List.countP_cons, cnt_eqU t f2, eqU_of r f1]
theorem my_count : MtR X "list.count" (rCntV X.K) := by
  intro pins s σ H x xs v us Q I rx rxs h
  obtain ⟨p, ys, y, rfl, rfl, hs, fy, fys, q⟩ := h
  cases rx
  obtain ⟨u, rfl, ry⟩ := rxs.one
  obtain ⟨its, rv, ⟨ob, n, ho, hc, hdn, hd⟩, hlen⟩ := I.list hs
  obtain ⟨cls, dd, data, sl⟩ := ob
  simp only at hc hd
  subst hc hd
  refine call_meets PySem.F.slot_list_count ⟨_, ho, rfl⟩ PySem.F.entry_list_count (PySem.F.args_list_count_2 _ _) (SeqAt.list_countAt p its.toArray n dd sl u (eqU y)) ⟨ho, ?_, ?_⟩
  · intro z hz
    exact mem_eqAt ry fy rv fys z (by simpa using hz)
  · have e : its.toArray.toList.countP (eqU y) = ys.countP fun z => eqV z y := by
      simpa using cnt_eqU (y := y) rv fys
    refine ⟨.int _, H, I.tok _, ⟨s.toks, ?_⟩, q⟩
    show Value.int (its.toArray.toList.countP (eqU y) : Nat) s.toks = _
    rw [e]
end
end TR
namespace TR
open PySem PySem.Spec PyProof.Rows L2
/-! ### calls in a try's body: what is raised is wished for at the slots -/
section
variable {X : Cx} {CX : CXT} {k : Nat} {f C : Addr} {fd : FuncData} {ps : List Str} {sp : Sp} {W : WX} {x m : Str} {p pos apos : Pos} {e o : Expr} {es : List Expr} {ta : TE} {t : TA}
def uCallS (sp : Sp) (W : WX) (t : TA) : TE := fun σ H Q => t σ H fun vs H1 => xCall sp vs H1 Q (WE W σ)
def uMethS (C : Addr) (m : Str) (sp : Sp) (W : WX) (ta : TE) (t : TA) : TE := fun σ H Q => ta σ H fun x H1 => ∃ a dx fs, x = .ref a ∧ H1 a = some (.ins C dx fs) ∧ fs.lookup m = none ∧ t σ H1 fun vs H2 => xCall sp (x :: vs) H2 Q (WE W σ)
def uMakeS (C : Addr) (sp : Sp) (W : WX) (t : TA) : TE := fun σ H Q => t σ H fun vs H1 => xMake C sp (WE W σ) vs H1 Q
theorem my_callS (F : FnOk X.prog X.w X.K X.mg X.base (L2.CX X.prog X.w) k f fd ps sp) (hr : Room k X.A) (hg : Gl X x) (hm : X.mg x = some (.ref f))
    (hk : PySem.W.keepIn X.K (.ref f) = true) (hb : Binds X.K fd ps []) (tk : Takes X W) (ha : PA X (e :: es) t)
    (hdb : (x == ("__debug__" : Str)) = false := by decide) (he : starEach (e :: es) X.env = (false, eval e X.env) :: starEach es X.env := by rfl)
    (hpl : (backTo pos (starEach es X.env)).any (·.1) = false := by rfl) : PE X (.Call (.Name x p) (e :: es) [] pos) (uCallS sp W t) := by
  refine PE.le (pe_callS (E := WE W) F hr hg hm hk hb (fun σ => passAt tk σ) ha hdb he hpl) ?_
  intro σ H Q q
  unfold uCallS xCall at q
  exact q
theorem my_methS {pl : Sem Bool} (he : PE X o ta) (c : Cls X.K C) (hm : Meth X.K C m f) (F : FnOk X.prog X.w X.K X.mg X.base (L2.CX X.prog X.w) k f fd ps sp)
    (hr : Room k X.A) (hb : Binds X.K fd ps []) (tk : Takes X W) (ha : PA X (e :: es) t)
    (hst : starEach (e :: es) X.env = (false, eval e X.env) :: starEach es X.env := by rfl) (hpl : (backTo pos (starEach es X.env)).any (·.1) = false := by rfl)
    (ht : eval (.Call (.Attribute o m apos) (e :: es) [] pos) X.env = (do
      let ov ← eval o X.env
      standAt apos.atName
      let (f, first) ← holding [ov] (getMethod ov m pl)
      callWith pos f first (backTo pos (starEach (e :: es) X.env)) (backToKw pos (keywordEach [] X.env))) := by rfl) :
    PE X (.Call (.Attribute o m apos) (e :: es) [] pos) (uMethS C m sp W ta t) := by
  constructor
  intro pins s σ H Q I h
  apply PySem.W.methodCall_KW (pl := pl) _ ht
  apply thn (he.run pins s σ H _ I h)
  rintro u s1 ⟨y, H1, I1, ry, a, dx, fs, rfl, ea, lk, q⟩
  cases ry
  apply getmeth_ok I1 ea c hm lk
  apply PySem.W.callWith_K (first := [.ref a]) (h₀ := X.base) I.ok.mod.kin hm.kp _ hst hpl
  apply thn (ha.run pos pins s1 σ H1 _ I1 q)
  rintro us s2 ⟨vs, H2, I2, r, q2⟩
  refine ⟨I2.kIn, ?_⟩
  unfold xCall at q2
  exact run_fnS (E := WE W) (us := .ref a :: us) (vs := .ref a :: vs) F hr hb (passAt tk σ) I2 (.cons rfl r) q2
theorem my_meth0S {pl : Sem Bool} (he : PE X o ta) (c : Cls X.K C) (hm : Meth X.K C m f) (F : FnOk X.prog X.w X.K X.mg X.base (L2.CX X.prog X.w) k f fd ps sp)
    (hr : Room k X.A) (hb : Binds X.K fd ps []) (tk : Takes X W)
    (ht : eval (.Call (.Attribute o m apos) [] [] pos) X.env = (do
      let ov ← eval o X.env
      standAt apos.atName
      let (f, first) ← holding [ov] (getMethod ov m pl)
      callWith pos f first (backTo pos (starEach [] X.env)) (backToKw pos (keywordEach [] X.env))) := by rfl) :
    PE X (.Call (.Attribute o m apos) [] [] pos) (uMethS C m sp W ta tNil) := by
  constructor
  intro pins s σ H Q I h
  apply PySem.W.methodCall_KW (pl := pl) _ ht
  apply thn (he.run pins s σ H _ I h)
  rintro u s1 ⟨y, H1, I1, ry, a, dx, fs, rfl, ea, lk, q⟩
  cases ry
  apply getmeth_ok I1 ea c hm lk
  have q2 : xCall sp [.ref a] H1 Q (WE W σ) := q
  unfold xCall at q2
  exact PySem.W.callWith_K0 (first := [.ref a]) I1.kIn hm.kp (run_fnS (E := WE W) (us := [.ref a]) (vs := [.ref a]) F hr hb (passAt tk σ) I1 (.cons rfl .nil) q2)
theorem my_makeS (M : Mk X.K C f) (F : FnOk X.prog X.w X.K X.mg X.base (L2.CX X.prog X.w) k f fd ps sp) (hr : Room (k + 1) X.A) (hg : Gl X x) (hm : X.mg x = some (.ref C))
    (hb : Binds X.K fd ps []) (tk : Takes X W) (ha : PA X (e :: es) t)
    (hdb : (x == ("__debug__" : Str)) = false := by decide) (he : starEach (e :: es) X.env = (false, eval e X.env) :: starEach es X.env := by rfl)
    (hpl : (backTo pos (starEach es X.env)).any (·.1) = false := by rfl) : PE X (.Call (.Name x p) (e :: es) [] pos) (uMakeS C sp W t) := by
  constructor
  intro pins s σ H Q I h
  apply wpAny_Call_Name_kw
  apply ld_glob I hg hm _ hdb
  apply PySem.W.callWith_K (h₀ := X.base) I.ok.mod.kin M.kp _ he hpl
  apply thn (ha.run pos pins s σ H _ I h)
  rintro us s1 ⟨vs, H1, I1, r, q⟩
  refine ⟨I1.kIn, ?_⟩
  unfold xMake at q
  have fr := I1.hok.fresh (Nat.le_refl s1.heap.objs.size)
  have fr1 := I1.hok.fresh (Nat.le_succ s1.heap.objs.size)
  have J := Inv.made (C := C) I1
  have q1 := q (s1.heap.objs.size + 1) s1.heap.objs.size fr1 fr (Nat.ne_of_lt (Nat.lt_succ_self _))
  have rs : Vals (V.ref (s1.heap.objs.size + 1) :: vs) (Value.ref (s1.heap.objs.size + 1) :: us) := .cons rfl r
  have ln : (Value.ref (s1.heap.objs.size + 1) :: us).length = ps.length := rs.length.symm.trans (F.len _ _ _ _ q1)
  have bd := hb _ (Value.ref (s1.heap.objs.size + 1) :: us) J.kIn (by rw [List.append_nil]; exact ln)
  rw [List.append_nil] at bd
  have go := F.run _ X.stack _ _ ⟨Value.ref (s1.heap.objs.size + 1) :: us, []⟩ _ _ _ _ (hr.make C us []) (J.env0.make C us []) bd rs q1
  apply wpAny_call
  apply make_map (f := f) I1.kIn M.makes M.init (beq_iff_eq.mp M.fn)
  apply codeAny_mono go
  intro rt s' hq
  cases rt with
  | error e => exact passAt tk σ pins _ _ e s' J hq
  | ok fl =>
    cases fl with
    | ret u =>
      obtain ⟨v, H2, I2, rv, rfl, q2⟩ := J.after hq
      exact ⟨rv, ⟨V.ref (s1.heap.objs.size + 1), H2, I2, rfl, q2⟩⟩
    | next => exact hq.elim
    | brk => exact hq.elim
    | cont => exact hq.elim
end
/-! ### index -/
@[irreducible] def xIndex (K : PySem.W.Frag) : MRd := rIndex K
theorem my_index {X : Cx} : MtR X "list.index" (xIndex X.K) := by unfold xIndex; exact mt_index
theorem st_idx {K : PySem.W.Frag} {H : Hp} {a : Addr} {ys : List V} {y : V} {Q : VK} (j : Nat) (z : V) (hs : SqL K H a ys) (fy : flatV y = true) (fs : ys.all flatV = true) (hz : ys[j]? = some z) (he : eqV z y = true)
    (hno : ∀ m u, m < j → ys[m]? = some u → eqV u y = false) (k : Q (.int j) H) : xIndex K (.ref a) [y] H Q := by
  unfold xIndex; exact ⟨a, ys, y, j, z, rfl, rfl, hs, fy, fs, hz, he, hno, k⟩
theorem flat_ints (ns : List Int) : (ns.map V.int).all flatV = true := by
  rw [List.all_map]; exact List.all_eq_true.mpr fun _ _ => rfl
theorem st_idxI {K : PySem.W.Frag} {H : Hp} {a : Addr} {ns : List Int} {n : Int} {Q : VK} (hs : SqL K H a (ns.map V.int)) (hm : n ∈ ns) (k : Q (.int (ns.idxOf n)) H) : xIndex K (.ref a) [.int n] H Q := by
  have hl := List.idxOf_lt_length_iff.mpr hm
  refine st_idx (ns.idxOf n) (.int n) hs rfl (flat_ints ns) ?_ (by show (n == n) = true; exact beq_self_eq_true n) ?_ k
  · rw [List.getElem?_map, List.getElem?_eq_getElem hl, List.getElem_idxOf hl]; rfl
  · intro m u hm' hu
    rw [List.getElem?_map] at hu
    cases e : ns[m]? with
    | none => rw [e] at hu; cases hu
    | some x =>
      rw [e] at hu
      cases hu
      show (x == n) = false
      obtain ⟨hml, ex⟩ := List.getElem?_eq_some_iff.mp e
      rw [← ex]
      exact List.not_of_lt_findIdx hm'
theorem st_idxV {K : PySem.W.Frag} {H : Hp} {a : Addr} {ns : List Int} {n : Int} {y : V} {Q : VK} (hs : SqL K H a (ns.map V.int)) (hv : y = .int n) (hm : n ∈ ns) (k : Q (.int (ns.idxOf n)) H) : xIndex K (.ref a) [y] H Q := by subst hv; exact st_idxI hs hm k
theorem inV_ints (ns : List Int) (n : Int) : inV (.int n) (ns.map V.int) = decide (n ∈ ns) := by
  unfold inV
  rw [List.any_map]
  by_cases h : n ∈ ns
  · rw [decide_eq_true h]
    exact List.any_eq_true.mpr ⟨n, h, by show (n == n) = true; exact beq_self_eq_true n⟩
  · rw [decide_eq_false h]
    refine Bool.eq_false_iff.mpr fun z => h ?_
    obtain ⟨x, hx, e⟩ := List.any_eq_true.mp z
    have e2 : (x == n) = true := e
    rw [← eq_of_beq e2]
    exact hx
theorem inV_non (ns : List Int) : inV .non (ns.map V.int) = false := by
  unfold inV
  rw [List.any_map]
  exact Bool.eq_false_iff.mpr fun z => by
    obtain ⟨x, _, e⟩ := List.any_eq_true.mp z
    cases e
end TR
namespace TR
open PySem L2
/-! ### data at any depth -/
structure Sh (k : Nat) (d : PyData) : Prop where
  lay : d.canLay0 = true
  dep : d.depth ≤ k
theorem Sh.shaped {k : Nat} {d : PyData} (h : Sh k d) (hk : k ≤ 64) : SeqAt.shaped d = true := by
  unfold SeqAt.shaped
  rw [h.lay, decide_eq_true (Nat.le_trans h.dep hk)]
  rfl
theorem Sh.mono {j k : Nat} {d : PyData} (h : Sh j d) (hk : j ≤ k) : Sh k d := ⟨h.lay, Nat.le_trans h.dep hk⟩
theorem sh_non {k : Nat} : Sh k .none := ⟨by simp only [PyData.canLay0], by simp only [PyData.depth]; exact Nat.zero_le _⟩
theorem sh_bl {k : Nat} (b : Bool) : Sh k (.bool b) := ⟨by simp only [PyData.canLay0], by simp only [PyData.depth]; exact Nat.zero_le _⟩
theorem sh_int {k : Nat} (i : Int) : Sh k (.int i) := ⟨by simp only [PyData.canLay0], by simp only [PyData.depth]; exact Nat.zero_le _⟩
theorem sh_str {k : Nat} {x : Str} (h : PyData.strOk x = true) : Sh k (.str x) := ⟨by simp only [PyData.canLay0]; exact h, by simp only [PyData.depth]; exact Nat.zero_le _⟩
theorem sh_all {k : Nat} : ∀ {ds : List PyData}, (∀ d ∈ ds, Sh k d) → PyData.canLayAll0 ds = true ∧ PyData.depthAll ds ≤ k
  | [], _ => ⟨by simp only [PyData.canLayAll0], by simp only [PyData.depthAll]; exact Nat.zero_le _⟩
  | d :: ds, h => by
    have h1 := h d List.mem_cons_self
    have h2 := sh_all fun e he => h e (List.mem_cons_of_mem _ he)
    refine ⟨?_, ?_⟩
    · simp only [PyData.canLayAll0]
      rw [h1.lay, h2.1]
      rfl
    · simp only [PyData.depthAll]
      exact Nat.max_le.mpr ⟨h1.dep, h2.2⟩
theorem sh_list {k : Nat} {ds : List PyData} (h : ∀ d ∈ ds, Sh k d) : Sh (k + 1) (.list ds) := by
  obtain ⟨h1, h2⟩ := sh_all h
  exact ⟨by simp only [PyData.canLay0]; exact h1, by simp only [PyData.depth]; omega⟩
theorem sh_tup {k : Nat} {ds : List PyData} (h : ∀ d ∈ ds, Sh k d) : Sh (k + 1) (.tuple ds) := by
  obtain ⟨h1, h2⟩ := sh_all h
  exact ⟨by simp only [PyData.canLay0]; exact h1, by simp only [PyData.depth]; omega⟩
theorem sh_nil {k : Nat} : ∀ d ∈ ([] : List PyData), Sh k d := fun _ h => nomatch h
theorem sh_cons {k : Nat} {d : PyData} {ds : List PyData} (h : Sh k d) (h2 : ∀ d ∈ ds, Sh k d) : ∀ e ∈ d :: ds, Sh k e := fun e he => by
  rcases List.mem_cons.mp he with rfl | he
  · exact h
  · exact h2 e he
theorem sh_ints {k : Nat} (ns : List Int) : ∀ d ∈ ns.map PyData.int, Sh k d := fun d hd => by
  obtain ⟨i, _, rfl⟩ := List.mem_map.mp hd
  exact sh_int i
theorem dpAll_ints {K : PySem.W.Frag} {H : Hp} : ∀ ns : List Int, DpAll K H (ns.map V.int) (ns.map PyData.int)
  | [] => .nil
  | n :: ns => .cons (.int n) (dpAll_ints ns)
theorem dp_ints {K : PySem.W.Frag} {H : Hp} {a : Addr} {ns : List Int} (h : SqL K H a (ns.map V.int)) : Dp K H (.ref a) (.list (ns.map PyData.int)) := .lst h (dpAll_ints ns)
@[irreducible] def xEqD (K : PySem.W.Frag) : R2 := rEqD K
@[irreducible] def xNeD (K : PySem.W.Frag) : R2 := rNeD K
section
variable {X : Cx}
theorem my_eqD (hu : X.A.units + 64 < cLine) : OpR X (compareOp .Eq) (xEqD X.K) := by unfold xEqD; exact op_eqD hu
theorem my_neD (hu : X.A.units + 64 < cLine) : OpR X (compareOp .NotEq) (xNeD X.K) := by unfold xNeD; exact op_neD hu
end
section
variable {K : PySem.W.Frag} {H : Hp} {x y : V} {d e : PyData} {Q : VK} {k : Nat}
theorem st_eqD (hx : Dp K H x d) (hy : Dp K H y e) (s : Sh 64 d) (s2 : Sh 64 e) (h : Q (.bl (PyData.eqv d e)) H) : xEqD K x y H Q := by
  unfold xEqD; exact ⟨d, e, hx, hy, s.shaped (Nat.le_refl _), s2.shaped (Nat.le_refl _), h⟩
theorem st_neD (hx : Dp K H x d) (hy : Dp K H y e) (s : Sh 64 d) (s2 : Sh 64 e) (h : Q (.bl (!PyData.eqv d e)) H) : xNeD K x y H Q := by
  unfold xNeD; exact ⟨d, e, hx, hy, s.shaped (Nat.le_refl _), s2.shaped (Nat.le_refl _), h⟩
theorem st_eqS (hx : Dp K H x d) (hy : Dp K H y d) (s : Sh 64 d) (h : Q (.bl true) H) : xEqD K x y H Q := st_eqD hx hy s s (by rw [SeqAt.eqv_refl d s.lay]; exact h)
theorem st_neS (hx : Dp K H x d) (hy : Dp K H y d) (s : Sh 64 d) (h : Q (.bl false) H) : xNeD K x y H Q := st_neD hx hy s s (by rw [SeqAt.eqv_refl d s.lay]; exact h)
end
theorem sorted_same {a b : List Int} (hp : a.Perm b) (ha : a.Pairwise (· ≤ ·)) (hb : b.Pairwise (· ≤ ·)) : a = b :=
  hp.eq_of_pairwise (fun _ _ _ _ h1 h2 => Int.le_antisymm h1 h2) ha hb
/-- the ints a .. b - 1 -/
def rgI (a b : Int) : List Int := (List.range (b - a).toNat).map fun (i : Nat) => a + (i : Int)
theorem rgV_eq (a b : Int) : rgV a b = (rgI a b).map V.int := by unfold rgV rgI; rw [List.map_map]; rfl
theorem rgI_len (a b : Int) : (rgI a b).length = (b - a).toNat := by unfold rgI; rw [List.length_map, List.length_range]
theorem rgI_sorted (a b : Int) : (rgI a b).Pairwise (· ≤ ·) := by
  unfold rgI
  rw [List.pairwise_map]
  exact List.pairwise_lt_range.imp fun h => by omega
/-! ### sorted, repeated lists, comprehensions -/
@[irreducible] def xSorted (K : PySem.W.Frag) : List V → Hp → VK → Prop := rSorted K
@[irreducible] def xRep : R2 := rRep
section
variable {X : Cx}
theorem my_sorted : CallR X (.builtin "sorted") (xSorted X.K) := by unfold xSorted; exact cr_sorted
theorem my_rep : OpR X (binaryOp .Mult) xRep := by unfold xRep; exact op_rep
theorem my_lc {elt tg iter : Expr} {ifs : List Expr} {scope : Scope} {own : List (Str × Nat)} {pos : Pos} {wi : TI} {g : TG} {tt : TT} {te : TE} (hc : X.calm = true) (hN : X.N.Nodup) (hi : PI X tg iter wi) (ok : BlkOk X.N X.env.scope scope own)
    (hg : ∀ (s : Shared) (H : Hp) (C : Addr) (cl : List (Str × Addr)) (fp : List Addr), PG (X.blk s H scope (compEnvC scope cl C X.env) fp) tg g)
    (ht : ∀ (s : Shared) (H : Hp) (C : Addr) (cl : List (Str × Addr)) (fp : List Addr), PTs (X.blk s H scope (compEnvC scope cl C X.env) fp) ifs tt)
    (he : ∀ (s : Shared) (H : Hp) (C : Addr) (cl : List (Str × Addr)) (fp : List Addr), PE (X.blk s H scope (compEnvC scope cl C X.env) fp) elt te) (hs : ∀ x, foldedSetIterable iter X.env x = pure x := by intro _; rfl) :
    PE X (.ListComp elt [⟨tg, iter, ifs, 0⟩] scope pos) (uLc wi g tt te (own.map (·.2))) := by rw [uLc_eq]; exact pe_lc hc hN hi ok hg ht he hs
theorem my_setLc {i : Nat} {y : Str} {py : Pos} {elt tg iter : Expr} {ifs : List Expr} {scope : Scope} {own : List (Str × Nat)} {pos spos : Pos} {wi : TI} {g : TG} {tt : TT} {te : TE} (hc : X.calm = true) (hN : X.N.Nodup) (hy : X.N[i]? = some y) (hyl : X.env.scope.names.lookup y = some .local)
    (hsw : swapsWith (.ListComp elt [⟨tg, iter, ifs, 0⟩] scope pos) (some (.Name y py)) spos.line X.env = pure true) (hi : PI X tg iter wi) (ok : BlkOk X.N X.env.scope scope own)
    (hg : ∀ (s : Shared) (H : Hp) (C : Addr) (cl : List (Str × Addr)) (fp : List Addr), PG (X.blk s H scope (compEnvC scope cl C X.env) fp) tg g)
    (ht : ∀ (s : Shared) (H : Hp) (C : Addr) (cl : List (Str × Addr)) (fp : List Addr), PTs (X.blk s H scope (compEnvC scope cl C X.env) fp) ifs tt)
    (he : ∀ (s : Shared) (H : Hp) (C : Addr) (cl : List (Str × Addr)) (fp : List Addr), PE (X.blk s H scope (compEnvC scope cl C X.env) fp) elt te) (hs : ∀ x, foldedSetIterable iter X.env x = pure x := by intro _; rfl) :
    PS X (.Assign [.Name y py] (.ListComp elt [⟨tg, iter, ifs, 0⟩] scope pos) spos) (tAsg (uLc wi g tt te (own.map (·.2))) (gName i)) := by rw [uLc_eq]; exact ps_setLc hc hN hy hyl hsw hi ok hg ht he hs
end
section
variable {X : Cx} {sB : Shared} {HB : Hp} {scB : Scope} {envB : Env} {fpB : List Addr}
theorem ix_listB : IxR (X.blk sB HB scB envB fpB) (rIxL X.K) := ix_list
theorem op_in_seqB : OpR (X.blk sB HB scB envB fpB) (compareOp .In) (rIn X.K false) := op_in_seq
theorem op_notIn_seqB : OpR (X.blk sB HB scB envB fpB) (compareOp .NotIn) (rIn X.K true) := op_notIn_seq
theorem my_lenQB : CallR (X.blk sB HB scB envB fpB) (.builtin "len") (rLenQ X.K) := my_lenQ
end
section
variable {K : PySem.W.Frag} {H0 H : Hp} {L : List Ent} {a : Addr} {xs : List V} {g : TG} {tt : TT} {te : TE} {vs : List Nat} {σ : L2.St} {Q : VK}
theorem st_sorted {ns : List Int} (w : W H0 H L) (hs : SqL K H a (ns.map V.int)) (hl : ns.length < 64) (k : ∀ (ns' : List Int) p H', ns'.Perm ns → ns'.Pairwise (· ≤ ·) → W H0 H' ((p, .lst (ns'.map V.int)) :: L) → Q (.ref p) H') : xSorted K [.ref a] H Q := by
  unfold xSorted; exact ⟨a, ns, rfl, hs, hl, fun ns' p h1 h2 hp => k ns' p _ h1 h2 (w.new _ hp)⟩
theorem st_rep {n : Int} (w : W H0 H L) (i : Nat) (h : L[i]? = some (a, .lst xs)) (h0 : 0 ≤ n) (h1 : n ≤ 1000) (hz : xs.length * n.toNat ≤ 10000) (k : ∀ p H', W H0 H' ((p, .lst (List.replicate n.toNat xs).flatten) :: L) → Q (.ref p) H') : xRep (.ref a) (.int n) H Q := by
  unfold xRep; exact ⟨a, n, xs, rfl, rfl, w.get i h, by omega, by omega, szE (by omega), fun p hp => k p _ (w.new _ hp)⟩
/-- a comprehension's turn has an item -/
@[irreducible] def xAcc (D : Addr) (P : Hp → Prop) (y : V) (H : Hp) : Prop := ∃ acc, H D = some (.lst acc) ∧ acc.length < sizeLine ∧ P (upd H D (.lst (acc ++ [y])))
theorem st_acc {D : Addr} {acc : List V} {y : V} {P : Hp → Prop} (w : W H0 H L) (i : Nat) (h : L[i]? = some (D, .lst acc)) (hz : acc.length < sizeLine) (k : ∀ H', W H0 H' (L.set i (D, .lst (acc ++ [y]))) → P H') : xAcc D P y H := by
  unfold xAcc; exact ⟨acc, w.get i h, hz, k _ (w.set i _ h rfl)⟩
/-- one turn -/
abbrev LcTurn (g : TG) (tt : TT) (te : TE) (vs : List Nat) (σ : L2.St) (D : Addr) (P : Hp → Prop) (x : V) (H : Hp) : Prop :=
  g x (wipe σ vs) H fun σ2 H2 => wipe σ2 vs = wipe σ vs ∧ tt σ2 H2 fun b H3 => xIf b (te σ2 H3 fun y H4 => xAcc D P y H4) (P H3)
theorem st_lcL (Pv : Addr → Nat → Hp → Prop) (w : W H0 H L) (h0 : ∀ D H', W H0 H' ((D, .lst []) :: L) → Pv D 0 H') (hl : ∀ D i H, i ≤ xs.length → Pv D i H → SqL K H a xs)
    (hs : ∀ D i x H, xs[i]? = some x → Pv D i H → LcTurn g tt te vs σ D (Pv D (i + 1)) x H) (hd : ∀ D H, Pv D xs.length H → Q (.ref D) H) : xLc (Itl K a) g tt te vs σ H Q := by
  unfold LcTurn xIf xAcc at hs
  unfold xLc; exact fun D hD => lc_list (Pv D) (h0 D _ (w.new _ hD)) (hl D) (hs D) (hd D)
theorem st_lcR {lo : Int} {n : Nat} (Pv : Addr → Nat → Hp → Prop) (w : W H0 H L) (h0 : ∀ D H', W H0 H' ((D, .lst []) :: L) → Pv D 0 H')
    (hs : ∀ D i H, i < n → Pv D i H → LcTurn g tt te vs σ D (Pv D (i + 1)) (.int (lo + (i : Int))) H) (hd : ∀ D H, Pv D n H → Q (.ref D) H) : xLc (Itr lo n) g tt te vs σ H Q := by
  unfold LcTurn xIf xAcc at hs
  unfold xLc; exact fun D hD => lc_range (Pv D) (h0 D _ (w.new _ hD)) (hs D) (hd D)
theorem st_lcT (Pv : Addr → Nat → Hp → Prop) (w : W H0 H L) (h0 : ∀ D H', W H0 H' ((D, .lst []) :: L) → Pv D 0 H') (hl : ∀ D i H, i ≤ xs.length → Pv D i H → SqT K H a xs)
    (hs : ∀ D i x H, xs[i]? = some x → Pv D i H → LcTurn g tt te vs σ D (Pv D (i + 1)) x H) (hd : ∀ D H, Pv D xs.length H → Q (.ref D) H) : xLc (Itt K a) g tt te vs σ H Q := by
  unfold LcTurn xIf xAcc at hs
  unfold xLc; exact fun D hD => lc_tup (Pv D) (h0 D _ (w.new _ hD)) (hl D) (hs D) (hd D)
end
end TR
namespace TR
open PySem PySem.Spec PyProof.Rows L2
/-! ### texts: sorted keys, joined signs, comprehensions over a text -/
@[irreducible] def xSortD : V → Hp → VK → Prop := fun x H Q => ∃ (a : Addr) (kvs : List (Key × V)) (ks : List Str), x = .ref a ∧ H a = some (.dK kvs) ∧ kvs.map (·.1) = ks.map Sum.inr ∧ ks.length < 64 ∧
  ∀ ys p, ys.Perm ks → sortedS ys = true → H p = none → Q (.ref p) (upd H p (.lst (ys.map V.str)))
def uSortD (td : TE) : TE := fun σ H Q => td σ H fun x H1 => xSortD x H1 Q
@[irreducible] def xJoin (K : PySem.W.Frag) : V → List V → Hp → VK → Prop := fun x xs H Q => ∃ a p, ∃ ys : List Str, x = .str a ∧ xs = [.ref p] ∧ (SqL K H p (ys.map V.str) ∨ SqT K H p (ys.map V.str)) ∧
  (ys.map (·.length)).sum + ys.length * a.length ≤ 16777216 ∧ Q (.str (Txt.join a ys)) H
@[irreducible] def xIxS : R2 := rIxS
section
variable {X : Cx}
theorem my_ixS : IxR X xIxS := by unfold xIxS; exact ix_str
theorem my_join {o e : Expr} {to te : TE} {apos pos : Pos} (ho : PE X o to) (he : PE X e te) (hs : starEach [e] X.env = [(false, eval e X.env)] := by rfl) (hbase : attributeBase o "join" X.env (eval o X.env) = eval o X.env := by rfl) (hline : (apos.endLine == pos.line) = true := by rfl) :
    PE X (.Call (.Attribute o "join" apos) [e] [] pos) (tM1 (xJoin X.K) to te) := by
  unfold xJoin; exact pe_join ho he hs hbase hline
theorem my_dget2 {o e f : Expr} {td ty tx : TE} {apos cpos : Pos} (hu : X.A.units + 1 < cLine) (ho : PE X o td) (he : PE X e ty) (hf : PE X f tx)
    (base : attributeBase o "get" X.env (eval o X.env) = eval o X.env := by rfl)
    (few : ((backTo cpos (starEach [e, f] X.env)).all (fun x => !x.1) && (backToKw cpos (keywordEach [] X.env)).all (fun x => x.1.isSome)
      && decide (([e, f] : List Expr).length + ([] : List Keyword).length + (if ([] : List Keyword).isEmpty then 0 else 1) < 30)) = true := by rfl)
    (line : (apos.endLine == cpos.line) = true := by rfl)
    (trees : backTo cpos (starEach [e, f] X.env) = [(false, eval e X.env), (false, eval f X.env)] := by rfl) : PE X (.Call (.Attribute o "get" apos) [e, f] [] cpos) (tDGet2 td ty tx) :=
  pe_dget2 hu ho he hf ⟨base, few, line, trees⟩
theorem my_sortedKeys {o : Expr} {td : TE} {p pos apos cpos : Pos} (hcalm : X.calm = true) (hg : Gl X "sorted") (hm : X.mg "sorted" = none) (ho : PE X o td)
    (hbase : attributeBase o "keys" X.env (eval o X.env) = eval o X.env := by rfl) (hline : (apos.endLine == cpos.line) = true := by rfl)
    (he : starEach [.Call (.Attribute o "keys" apos) [] [] cpos] X.env = (false, eval (.Call (.Attribute o "keys" apos) [] [] cpos) X.env) :: starEach [] X.env := by rfl) :
    PE X (.Call (.Name "sorted" p) [.Call (.Attribute o "keys" apos) [] [] cpos] [] pos) (uSortD td) := by
  refine ⟨fun pins s σ H Q I h => ?_⟩
  refine wpAny_Call_Name_kw (ld_blt I hg hm (u := .builtin "sorted") (by decide +kernel) ?_ (by decide) (by decide))
  refine PyProof.Rows.callWith_builtin1 ?_ he rfl
  rw [he]
  refine Calls.spliced_cons ?_
  refine wpAny_Call_method (T := "dict") (id := "dict.keys") hbase rfl hline F.plainAttrs_dict F.slot_dict_keys F.type_dict_keys (thn (ho.run pins s σ H _ I h) fun u s1 ⟨x, H1, I1, rx, q⟩ => ?_)
  unfold xSortD at q
  obtain ⟨a, kvs, ks, ex, hd, hks, h64, q⟩ := q
  subst ex
  obtain rfl : u = Value.ref a := rx
  obtain ⟨z, lo, vs, rel, dd⟩ := dk_of I1.hok hd
  refine ⟨dd.typeIs, dd.mapOf.noDict, ?_⟩
  obtain ⟨ep, hat⟩ := dd.dictAt
  have I2 : Inv X pins σ H1 { s1 with heap := s1.heap.push { cls := .type "dict_keys", data := .fields #[.ref a] } } := I1.kept (t' := s1.toks) fun b ob q => Heap.get?_push_of_some _ q
  refine method_meetsIn F.slot_dict_keys F.entry_dict_keys rfl (PySem.evalArgs_none ⟨rfl, dd.typeIs, F.args_dict_keys_1 _, _, PySem.W.kdl_meets_keys (mixKind X.prog X.w) a lo, ⟨vs, dd⟩, ?_⟩)
  refine Calls.spliced_nil ?_
  have hkeys : vs.map (·.1) = ks.map Sum.inr := rel.keys.symm.trans hks
  have hl : vs.length = ks.length := by
    have e := congrArg List.length hkeys
    rw [List.length_map, List.length_map] at e
    exact e
  have h16 : vs.length ≤ sizeLine := by rw [hl, sizeLine_eq]; omega
  have hat2 := hat.push { cls := .type "dict_keys", data := .fields #[.ref a] }
  refine Calls.call_function_entry PyProof.Rows.kind_sorted PyProof.Rows.plain_sorted PyProof.Rows.entry_sorted (PyProof.Rows.args_sorted1 _) ?_
  unfold Builtin.«sorted»
  refine wpAny_bind (m := checkCount "sorted" 1 1 _) (wpAny_pure ?_)
  refine wpAny_bind (PySem.W.kdu_collect (A := X.A.in1) (PySem.W.kdl_keys (knd := mixKind X.prog X.w) (kvs := vs) (ep := ep)) (I2.ok.hd hcalm) ⟨⟨_, Heap.get?_push_size _ rfl, rfl, rfl⟩, hat2⟩ h16 fun h' tk acc hk hacc => ?_)
  have hal : acc.toList.length = ks.length := by rw [Array.length_toList, hacc.1, hl]
  have hS : StrsAre acc.toList ks := strs_at hal fun j v e => by
    obtain ⟨k, x, e1, e2⟩ := hacc.2 j v (by rw [← Array.getElem?_toList]; exact e)
    have e3 : (vs.map (·.1))[j]? = some k := by rw [List.getElem?_map, e1]; all_goals rfl
    rw [hkeys, List.getElem?_map] at e3
    cases e4 : ks[j]? with
    | none => rw [e4] at e3; cases e3
    | some y =>
      rw [e4] at e3
      have e5 : Sum.inr y = k := Option.some.inj e3
      subst e5
      obtain ⟨t, ev⟩ := Value.isStrOf_shape (x := y) (v := v) e2
      exact ⟨y, t, rfl, ev⟩
  have I3 : Inv X pins σ H1 { s1 with heap := h', toks := tk } := I2.kept (t' := tk) hk
  refine wpAny_bind (wpAny_newList ?_ (by rw [hal, sizeLine_eq]; omega))
  have hoL : (h'.push (seqObj "list" acc.toList.toArray 0)).get? h'.objs.size = some (seqObj "list" acc.toList.toArray 0) := Heap.get?_push_size _ rfl
  show wpAny _ _ _ _ _ { s1 with heap := h'.push (seqObj "list" acc.toList.toArray 0), toks := tk }
  refine wpAny_bind (wpAny_holding (wpAny_call_entry PyProof.Rows.slot_list_sort ⟨_, hoL, rfl⟩ PyProof.Rows.entry_list_sort
    (list_sort_treeK strKind_oneLt (s := { s1 with heap := h'.push (seqObj "list" acc.toList.toArray 0), toks := tk }) hoL hS.keysOf (fun v₁ v₂ rest e => keyKind_strs (by rw [← e]; exact hS)) (by rw [hal]; exact h64) fun st' hp hs => ⟨_, rfl, ?_⟩)
    (PyProof.Rows.args_list_sort _)))
  obtain ⟨ys, g1, g2, g3⟩ := sorted_out_str hS hp hs
  obtain ⟨e', he'⟩ := PyProof.Rows.sortedHeap_at (vs := acc.toList) (out := (arrOf st').map (·.2)) hoL
  have hlen : (ys.map V.str).length ≤ sizeLine := by
    rw [List.length_map, g2.length_eq]
    exact Nat.le_trans (Nat.le_of_lt h64) (by decide)
  refine wpAny_pure ⟨_, rfl, .ref h'.objs.size, upd H1 h'.objs.size (.lst (ys.map V.str)), I3.laid (t' := tk) (fun b u e => ?_) (Nat.le_refl _)
    (show ObjOk X.prog X.w _ _ _ (.lst (ys.map V.str)) from ⟨hlen, ((arrOf st').map (·.2)).toList, e', vals_of_strs g1, by rw [Array.toArray_toList]; exact he'⟩), rfl, q ys _ g2 g3 (I3.hok.fresh (Nat.le_refl _))⟩
  have hb : b < h'.objs.size := Heap.lt_size e
  rw [PyProof.Rows.sortedHeap_old (Nat.ne_of_lt hb) (by rw [size_push']; exact Nat.lt_succ_of_lt hb)]
  exact Heap.get?_push_of_some _ e
end
section
variable {K : PySem.W.Frag} {H0 H : Hp} {L : List Ent} {a : Addr} {g : TG} {tt : TT} {te : TE} {vs : List Nat} {σ : L2.St} {Q : VK}
theorem st_sortD {kvs : List (Key × V)} {ks : List Str} (w : W H0 H L) (i : Nat) (h : L[i]? = some (a, .dK kvs)) (hk : kvs.map (·.1) = ks.map Sum.inr) (hl : ks.length < 64)
    (k : ∀ ys p H', ys.Perm ks → sortedS ys = true → W H0 H' ((p, .lst (ys.map V.str)) :: L) → Q (.ref p) H') : xSortD (.ref a) H Q := by
  unfold xSortD; exact ⟨a, kvs, ks, rfl, w.get i h, hk, hl, fun ys p h1 h2 hp => k ys p _ h1 h2 (w.new _ hp)⟩
theorem st_join {x : Str} {ys : List Str} (hs : SqL K H a (ys.map V.str)) (hl : (ys.map (·.length)).sum + ys.length * x.length ≤ 16777216) (k : Q (.str (Txt.join x ys)) H) : xJoin K (.str x) [.ref a] H Q := by
  unfold xJoin; exact ⟨x, a, ys, rfl, rfl, .inl hs, hl, k⟩
theorem st_ixS {z : Str} {i : Int} {j c : Nat} (hz : z.length ≤ sizeLine) (e : i = (j : Int)) (h : z.cps.toList[j]? = some c) (k : Q (.str ⟨#[c]⟩) H) : xIxS (.str z) (.int i) H Q := by
  unfold xIxS
  refine ⟨z, i, c, rfl, rfl, hz, ?_, k⟩
  unfold atI
  rw [ix_of e (List.getElem?_eq_some_iff.mp h).1]
  exact h
theorem st_lcS {x : Str} (Pv : Addr → Nat → Hp → Prop) (w : W H0 H L) (h0 : ∀ D H', W H0 H' ((D, .lst []) :: L) → Pv D 0 H')
    (hs : ∀ D i c H, x.cps.toList[i]? = some c → Pv D i H → LcTurn g tt te vs σ D (Pv D (i + 1)) (.str ⟨#[c]⟩) H) (hd : ∀ D H, Pv D x.cps.toList.length H → Q (.ref D) H) : xLc (Its x) g tt te vs σ H Q := by
  unfold LcTurn xIf xAcc at hs
  unfold xLc
  refine fun D hD => ⟨fun i m H => m = x.cps.toList.length - i ∧ i ≤ x.cps.toList.length ∧ Pv D i H, ⟨x.cps.toList.length, by simp, Nat.zero_le _, h0 D _ (w.new _ hD)⟩, ?_⟩
  rintro i m H ⟨rfl, hi, p⟩
  have es : x.cps.size = x.cps.toList.length := by simp
  by_cases hlt : i < x.cps.toList.length
  · refine .inr ⟨(by show i < x.cps.size; omega), Pv D (i + 1), fun H' p' => ⟨x.cps.toList.length - (i + 1), by omega, rfl, hlt, p'⟩, fun y H' yy => ?_⟩
    obtain ⟨e, c, hc, rfl⟩ := yy
    subst e
    exact hs D i c _ (by rw [Array.getElem?_toList]; exact hc) p
  · have e : i = x.cps.toList.length := by omega
    subst e
    exact .inl ⟨(by show x.cps.size ≤ _; omega), hd D H p⟩
end
/-- two rows in the order that hold the same texts are the same -/
theorem risingS_iff : ∀ (p : Str) (l : List Str), risingS p l = true → (p :: l).Pairwise (fun a b => ltCps b.cps.toList a.cps.toList = false)
  | p, [], _ => List.pairwise_singleton _ _
  | p, x :: r, h => by
    unfold risingS at h
    obtain ⟨h1, h2⟩ := Bool.and_eq_true_iff.mp h
    have h3 := risingS_iff x r h2
    refine List.pairwise_cons.mpr ⟨fun y hy => ?_, h3⟩
    have h1' : ltCps x.cps.toList p.cps.toList = false := by simpa using h1
    rcases List.mem_cons.mp hy with rfl | hy
    · exact h1'
    · have h4 := List.rel_of_pairwise_cons h3 hy
      rw [ltCps_eq] at h1' h4 ⊢
      have a1 := of_decide_eq_false h1'
      have a2 := of_decide_eq_false h4
      exact decide_eq_false (List.not_lt.mpr (List.le_trans (List.not_lt.mp a1) (List.not_lt.mp a2)))
theorem sortedS_iff : ∀ {l : List Str}, sortedS l = true → l.Pairwise (fun a b => ltCps b.cps.toList a.cps.toList = false)
  | [], _ => .nil
  | x :: r, h => risingS_iff x r h
theorem sortedS_same {a b : List Str} (hp : a.Perm b) (ha : sortedS a = true) (hb : sortedS b = true) : a = b :=
  hp.eq_of_pairwise (fun x y _ _ h1 h2 => by
    rw [ltCps_eq] at h1 h2
    have a1 := of_decide_eq_false h1
    have a2 := of_decide_eq_false h2
    have e := List.le_antisymm (List.not_lt.mp a2) (List.not_lt.mp a1)
    cases x with | mk cx => cases y with | mk cy => exact congrArg Str.mk (Array.toList_inj.mp e.symm)) (sortedS_iff ha) (sortedS_iff hb)
theorem dpAll_strs {K : PySem.W.Frag} {H : Hp} : ∀ ns : List Str, DpAll K H (ns.map V.str) (ns.map PyData.str)
  | [] => .nil
  | n :: ns => .cons (.str n) (dpAll_strs ns)
theorem dp_strs {K : PySem.W.Frag} {H : Hp} {a : Addr} {ns : List Str} (h : SqL K H a (ns.map V.str)) : Dp K H (.ref a) (.list (ns.map PyData.str)) := .lst h (dpAll_strs ns)
theorem sh_strs {k : Nat} {ns : List Str} (h : ∀ x ∈ ns, PyData.strOk x = true) : ∀ d ∈ ns.map PyData.str, Sh k d := fun d hd => by
  obtain ⟨i, hi, rfl⟩ := List.mem_map.mp hd
  exact sh_str (h i hi)
theorem inV_strs (ns : List Str) (n : Str) : inV (.str n) (ns.map V.str) = decide (n ∈ ns) := by
  unfold inV
  rw [List.any_map]
  by_cases h : n ∈ ns
  · rw [decide_eq_true h]
    exact List.any_eq_true.mpr ⟨n, h, by show (n == n) = true; exact beq_self_eq_true n⟩
  · rw [decide_eq_false h]
    refine Bool.eq_false_iff.mpr fun z => h ?_
    obtain ⟨x, hx, e⟩ := List.any_eq_true.mp z
    have e2 : (x == n) = true := e
    rw [← eq_of_beq e2]
    exact hx
end TR
namespace TR
open PySem L2
/-! ### dicts displayed -/
@[irreducible] def xDisp (p : Addr) (ps : List (V × V)) (H : Hp) (Q : VK) : Prop := H p = some (.dK []) ∧ ∃ kvs : List (Key × V), ps = kvs.map (fun kv => (kV kv.1, kv.2)) ∧ kvs.length ≤ 15 ∧ Q (.ref p) (upd H p (.dK (mergeK [] kvs)))
def uDisp (trs : List (TE × TE)) : TE := fun σ H Q => xNew (.dK []) H fun v H1 => ∃ p, v = .ref p ∧ tPairs trs σ H1 fun ps H2 => xDisp p ps H2 Q
theorem tPairs_imp : ∀ {trs : List (TE × TE)} {σ : L2.St} {H : Hp} {Q Q' : List (V × V) → Hp → Prop}, Q = Q' → tPairs trs σ H Q → tPairs trs σ H Q' := fun e h => e ▸ h
theorem my_disp {X : Cx} {pos : Pos} {keys : List (Option Expr)} {values : List Expr} {trs : List (TE × TE)} (h : PPs X pos keys values trs) (hall : keys.all (·.isSome) = true) (hl : keys.length = values.length) (h0 : keys ≠ [])
    (h15 : keys.length ≤ 15) : PE X (.Dict keys values pos) (uDisp trs) := by
  refine PE.le (pe_disp h hall hl h0 h15) fun σ H Q q => ?_
  unfold uDisp xNew at q
  intro p hp
  obtain ⟨p', e, q2⟩ := q p hp
  cases e
  unfold xDisp at q2
  exact q2
theorem st_disp {H0 H : Hp} {L : List Ent} {p : Addr} {ps : List (V × V)} {Q : VK} (w : W H0 H L) (i : Nat) (h : L[i]? = some (p, .dK [])) (kvs : List (Key × V)) (e : ps = kvs.map (fun kv => (kV kv.1, kv.2))) (hl : kvs.length ≤ 15)
    (k : ∀ H', W H0 H' (L.set i (p, .dK (mergeK [] kvs))) → Q (.ref p) H') : xDisp p ps H Q := by
  unfold xDisp
  exact ⟨w.get i h, kvs, e, hl, k _ (w.set i _ h rfl)⟩
section
variable {K : PySem.W.Frag} {H : Hp} {a b : Addr} {ns : List Int} {Q : VK}
theorem st_eqN (hx : SqL K H a (ns.map V.int)) (hy : SqL K H b []) (k : Q (.bl (decide (ns = []))) H) : xEqD K (.ref a) (.ref b) H Q :=
  st_eqD (dp_ints hx) (dp_ints (ns := []) hy) (sh_list (sh_ints _)) (sh_list (sh_ints [])) (by rw [show PyData.eqv (.list (ns.map PyData.int)) (.list (List.map PyData.int [])) = decide (ns = []) from by cases ns <;> rfl]; exact k)
theorem st_neN (hx : SqL K H a (ns.map V.int)) (hy : SqL K H b []) (k : Q (.bl (!decide (ns = []))) H) : xNeD K (.ref a) (.ref b) H Q :=
  st_neD (dp_ints hx) (dp_ints (ns := []) hy) (sh_list (sh_ints _)) (sh_list (sh_ints [])) (by rw [show PyData.eqv (.list (ns.map PyData.int)) (.list (List.map PyData.int [])) = decide (ns = []) from by cases ns <;> rfl]; exact k)
end
end TR
namespace TR
open PySem PySem.Spec PyProof.Rows L2
/-! ### the head's facts: what the module's names reach, level by level -/
def grow1 (g : Addr → Option Obj) (as : List Addr) : List Addr := as.flatMap fun a => match g a with
  | some o => He.refsD o
  | none => []
/-- forced, so that it is reckoned once -/
def frL {α : Type} (l : List Addr) (k : List Addr → α) : α := match l with
  | [] => k []
  | a :: r => HandSHeadRun.frNat a fun a => frL r fun r => k (a :: r)
theorem frL_eq {α : Type} : ∀ (l : List Addr) (k : List Addr → α), frL l k = k l
  | [], _ => rfl
  | a :: r, k => by
    show HandSHeadRun.frNat a (fun a => frL r fun r => k (a :: r)) = k (a :: r)
    rw [HandSHeadRun.frNat_eq, frL_eq r]
def asM (g : Addr → Option Obj) : List Addr := frL (grow1 g [mainGlobals]) fun l1 => frL (grow1 g l1).eraseDups fun l2 => frL (grow1 g l2).eraseDups fun l3 => frL (grow1 g l3).eraseDups fun l4 => mainGlobals :: (l1 ++ (l2 ++ (l3 ++ l4)))
abbrev AlM : Type := He.AlD × Bool
def obsK (fa : List He.Fa) (fn : List He.DefD) (ex : PySem.W.Frag → Bool) (K : PySem.W.Frag) : AlM := (He.obsD fa fn K, ex K)
def obsM (fa : List He.Fa) (fn : List He.DefD) (ex : PySem.W.Frag → Bool) (g : Addr → Option Obj) : AlM := frL (asM g) fun as => obsK fa fn ex (He.frG g as)
structure SaysM (fa : List He.Fa) (fn : List He.DefD) (ex : PySem.W.Frag → Bool) (K : PySem.W.Frag) : Prop where
  d : He.SaysD fa fn K
  more : ex K = true
theorem saysM_of {fa : List He.Fa} {fn : List He.DefD} {ex : PySem.W.Frag → Bool} {h : Heap} (e : obsM fa fn ex h.get? = (He.valD fn, true)) : ∃ K : PySem.W.Frag, K.In h ∧ SaysM fa fn ex K := by
  unfold obsM at e
  rw [frL_eq] at e
  exact ⟨_, He.frG_in, congrArg (fun z : AlM => z.1) e, congrArg (fun z : AlM => z.2) e⟩
def hookM (fa : List He.Fa) (fn : List He.DefD) (ex : PySem.W.Frag → Bool) : PySem.W.Hook where
  α := AlM
  obs := fun s => obsM fa fn ex s.heap.get?
  val := fun _ => (He.valD fn, true)
  says := fun _ h => ∃ K : PySem.W.Frag, K.In h ∧ SaysM fa fn ex K
  of := fun _ _ e => saysM_of e
  keeps := fun _ _ _ ⟨K, hK, c⟩ k => ⟨K, PySem.W.Frag.In.keeps hK k, c⟩
theorem obsM_eq {fa : List He.Fa} {fn : List He.DefD} {ex : PySem.W.Frag → Bool} {g : Addr → Option Obj} {s : Shared} (h : ∀ a, g a = s.heap.get? a) : obsM fa fn ex g = (hookM fa fn ex).obs s := by
  have e : g = s.heap.get? := funext h
  rw [e] <;> rfl
/-- two looks at one run -/
theorem map2 {α β γ : Type} {o : Option α} {f : α → β} {g : α → γ} {b : β} {c : γ} (h1 : o.map f = some b) (h2 : o.map g = some c) : o.map (fun s => (f s, g s)) = some (b, c) := by
  cases o with
  | none => cases h1
  | some s =>
    cases h1
    cases h2
    rfl
theorem run_split {r : PySem.W.OpenRow} {q : Program} {H : PySem.W.Hook} {ob : PySem.W.SharedT → H.α} {M : Nat} {loose : List PySem.Str} {w : World}
    (h1 : ∀ os : OsState, (HandSHeadRun.endF (HandSHeadRun.stepQ (HandSHeadRun.denQ HandSHeadRun.tabQ) r.prog w) M r.prog w os).map (fun s => (HandSHeadRun.looksF r.prog (PySem.W.boot_heap w.params) s.abs, HandSHeadRun.seenQ q loose (PySem.importedModules r.prog.main.body) (fun s => PySem.W.xlAt q [] s && PySem.W.recOk r.toRowW.records s) s.abs)) = some (true, PySem.W.openGood q loose))
    (h2 : ∀ os : OsState, (HandSHeadRun.endF (HandSHeadRun.stepQ (HandSHeadRun.denQ HandSHeadRun.tabQ) r.prog w) M r.prog w os).map ob = some (H.val w)) : HandSHeadRun.RunEq r q H ob M loose w := by
  intro os
  have e := map2 (h1 os) (h2 os)
  cases o : HandSHeadRun.endF (HandSHeadRun.stepQ (HandSHeadRun.denQ HandSHeadRun.tabQ) r.prog w) M r.prog w os with
  | none => rw [o] at e; cases e
  | some s =>
    rw [o] at e
    have e1 := Option.some.inj e
    obtain ⟨e2, e3⟩ := Prod.mk.inj e1
    obtain ⟨e4, e5⟩ := Prod.mk.inj e2
    exact congrArg some (Prod.ext e4 (Prod.ext e5 e3))
end TR
namespace TR
open PySem L2
def top (i : Nat) : Stmt := PySem.Challenge.pw_tuneroad_k21_whole_rounds.main.body.getD i (.Pass ⟨0, 0, 0, 0⟩)
abbrev s_wall : Stmt := top 0
abbrev N_wall : List Str := ["k"]
abbrev P_wall : List Str := ["k"]
theorem sc_wall : FnScope N_wall P_wall (defScope s_wall) := ⟨rfl, rfl, rfl, by decide +kernel, rfl, by decide +kernel, by decide +kernel⟩
abbrev s_Dice_init__ : Stmt := inClass (top 11) 0
abbrev N_Dice_init__ : List Str := ["self", "seed"]
abbrev P_Dice_init__ : List Str := ["self", "seed"]
theorem sc_Dice_init__ : FnScope N_Dice_init__ P_Dice_init__ (defScope s_Dice_init__) := ⟨rfl, rfl, rfl, by decide +kernel, rfl, by decide +kernel, by decide +kernel⟩
abbrev s_Dice_below : Stmt := inClass (top 11) 1
abbrev N_Dice_below : List Str := ["self", "many"]
abbrev P_Dice_below : List Str := ["self", "many"]
theorem sc_Dice_below : FnScope N_Dice_below P_Dice_below (defScope s_Dice_below) := ⟨rfl, rfl, rfl, by decide +kernel, rfl, by decide +kernel, by decide +kernel⟩
abbrev s_Dice_twin : Stmt := inClass (top 11) 2
abbrev N_Dice_twin : List Str := ["self"]
abbrev P_Dice_twin : List Str := ["self"]
theorem sc_Dice_twin : FnScope N_Dice_twin P_Dice_twin (defScope s_Dice_twin) := ⟨rfl, rfl, rfl, by decide +kernel, rfl, by decide +kernel, by decide +kernel⟩
abbrev s_mixed : Stmt := top 12
abbrev N_mixed : List Str := ["dice", "some", "found", "k", "other"]
abbrev P_mixed : List Str := ["dice", "some"]
theorem sc_mixed : FnScope N_mixed P_mixed (defScope s_mixed) := ⟨rfl, rfl, rfl, by decide +kernel, rfl, by decide +kernel, by decide +kernel⟩
abbrev s_Queue_init__ : Stmt := inClass (top 15) 0
abbrev N_Queue_init__ : List Str := ["self"]
abbrev P_Queue_init__ : List Str := ["self"]
theorem sc_Queue_init__ : FnScope N_Queue_init__ P_Queue_init__ (defScope s_Queue_init__) := ⟨rfl, rfl, rfl, by decide +kernel, rfl, by decide +kernel, by decide +kernel⟩
abbrev s_Queue_entries : Stmt := inClass (top 15) 1
abbrev N_Queue_entries : List Str := ["self"]
abbrev P_Queue_entries : List Str := ["self"]
theorem sc_Queue_entries : FnScope N_Queue_entries P_Queue_entries (defScope s_Queue_entries) := ⟨rfl, rfl, rfl, by decide +kernel, rfl, by decide +kernel, by decide +kernel⟩
abbrev s_Queue_need : Stmt := inClass (top 15) 2
abbrev N_Queue_need : List Str := ["self", "entry"]
abbrev P_Queue_need : List Str := ["self", "entry"]
theorem sc_Queue_need : FnScope N_Queue_need P_Queue_need (defScope s_Queue_need) := ⟨rfl, rfl, rfl, by decide +kernel, rfl, by decide +kernel, by decide +kernel⟩
abbrev s_Queue_tune : Stmt := inClass (top 15) 3
abbrev N_Queue_tune : List Str := ["self", "entry"]
abbrev P_Queue_tune : List Str := ["self", "entry"]
theorem sc_Queue_tune : FnScope N_Queue_tune P_Queue_tune (defScope s_Queue_tune) := ⟨rfl, rfl, rfl, by decide +kernel, rfl, by decide +kernel, by decide +kernel⟩
abbrev s_Queue_put : Stmt := inClass (top 15) 4
abbrev N_Queue_put : List Str := ["self", "name", "place"]
abbrev P_Queue_put : List Str := ["self", "name", "place"]
theorem sc_Queue_put : FnScope N_Queue_put P_Queue_put (defScope s_Queue_put) := ⟨rfl, rfl, rfl, by decide +kernel, rfl, by decide +kernel, by decide +kernel⟩
abbrev s_Queue_remove : Stmt := inClass (top 15) 5
abbrev N_Queue_remove : List Str := ["self", "entry"]
abbrev P_Queue_remove : List Str := ["self", "entry"]
theorem sc_Queue_remove : FnScope N_Queue_remove P_Queue_remove (defScope s_Queue_remove) := ⟨rfl, rfl, rfl, by decide +kernel, rfl, by decide +kernel, by decide +kernel⟩
abbrev s_Queue_move : Stmt := inClass (top 15) 6
abbrev N_Queue_move : List Str := ["self", "entry", "place"]
abbrev P_Queue_move : List Str := ["self", "entry", "place"]
theorem sc_Queue_move : FnScope N_Queue_move P_Queue_move (defScope s_Queue_move) := ⟨rfl, rfl, rfl, by decide +kernel, rfl, by decide +kernel, by decide +kernel⟩
abbrev s_Queue_place : Stmt := inClass (top 15) 7
abbrev N_Queue_place : List Str := ["self", "entry"]
abbrev P_Queue_place : List Str := ["self", "entry"]
theorem sc_Queue_place : FnScope N_Queue_place P_Queue_place (defScope s_Queue_place) := ⟨rfl, rfl, rfl, by decide +kernel, rfl, by decide +kernel, by decide +kernel⟩
abbrev s_Queue_twin : Stmt := inClass (top 15) 8
abbrev N_Queue_twin : List Str := ["self"]
abbrev P_Queue_twin : List Str := ["self"]
theorem sc_Queue_twin : FnScope N_Queue_twin P_Queue_twin (defScope s_Queue_twin) := ⟨rfl, rfl, rfl, by decide +kernel, rfl, by decide +kernel, by decide +kernel⟩
abbrev s_Order_init__ : Stmt := inClass (top 18) 0
abbrev N_Order_init__ : List Str := ["self", "seed"]
abbrev P_Order_init__ : List Str := ["self", "seed"]
theorem sc_Order_init__ : FnScope N_Order_init__ P_Order_init__ (defScope s_Order_init__) := ⟨rfl, rfl, rfl, by decide +kernel, rfl, by decide +kernel, by decide +kernel⟩
abbrev s_Order_set_again : Stmt := inClass (top 18) 1
abbrev N_Order_set_again : List Str := ["self", "word"]
abbrev P_Order_set_again : List Str := ["self", "word"]
theorem sc_Order_set_again : FnScope N_Order_set_again P_Order_set_again (defScope s_Order_set_again) := ⟨rfl, rfl, rfl, by decide +kernel, rfl, by decide +kernel, by decide +kernel⟩
abbrev s_Order_set_mixed : Stmt := inClass (top 18) 2
abbrev N_Order_set_mixed : List Str := ["self", "is_mixed", "entry", "one"]
abbrev P_Order_set_mixed : List Str := ["self", "is_mixed", "entry"]
theorem sc_Order_set_mixed : FnScope N_Order_set_mixed P_Order_set_mixed (defScope s_Order_set_mixed) := ⟨rfl, rfl, rfl, by decide +kernel, rfl, by decide +kernel, by decide +kernel⟩
abbrev s_Order_put : Stmt := inClass (top 18) 3
abbrev N_Order_put : List Str := ["self", "name", "place", "found"]
abbrev P_Order_put : List Str := ["self", "name", "place"]
theorem sc_Order_put : FnScope N_Order_put P_Order_put (defScope s_Order_put) := ⟨rfl, rfl, rfl, by decide +kernel, rfl, by decide +kernel, by decide +kernel⟩
abbrev s_Order_remove : Stmt := inClass (top 18) 4
abbrev N_Order_remove : List Str := ["self", "entry", "now", "later"]
abbrev P_Order_remove : List Str := ["self", "entry", "now"]
theorem sc_Order_remove : FnScope N_Order_remove P_Order_remove (defScope s_Order_remove) := ⟨rfl, rfl, rfl, by decide +kernel, rfl, by decide +kernel, by decide +kernel⟩
abbrev s_Order_next_plain : Stmt := inClass (top 18) 5
abbrev N_Order_next_plain : List Str := ["self", "entry", "every", "place"]
abbrev P_Order_next_plain : List Str := ["self", "entry"]
theorem sc_Order_next_plain : FnScope N_Order_next_plain P_Order_next_plain (defScope s_Order_next_plain) := ⟨rfl, rfl, rfl, by decide +kernel, rfl, by decide +kernel, by decide +kernel⟩
abbrev s_Order_next_mixed : Stmt := inClass (top 18) 6
abbrev N_Order_next_mixed : List Str := ["self", "entry"]
abbrev P_Order_next_mixed : List Str := ["self", "entry"]
theorem sc_Order_next_mixed : FnScope N_Order_next_mixed P_Order_next_mixed (defScope s_Order_next_mixed) := ⟨rfl, rfl, rfl, by decide +kernel, rfl, by decide +kernel, by decide +kernel⟩
abbrev s_Order_after : Stmt := inClass (top 18) 7
abbrev N_Order_after : List Str := ["self", "entry"]
abbrev P_Order_after : List Str := ["self", "entry"]
theorem sc_Order_after : FnScope N_Order_after P_Order_after (defScope s_Order_after) := ⟨rfl, rfl, rfl, by decide +kernel, rfl, by decide +kernel, by decide +kernel⟩
abbrev s_Order_skip : Stmt := inClass (top 18) 8
abbrev N_Order_skip : List Str := ["self", "entry"]
abbrev P_Order_skip : List Str := ["self", "entry"]
theorem sc_Order_skip : FnScope N_Order_skip P_Order_skip (defScope s_Order_skip) := ⟨rfl, rfl, rfl, by decide +kernel, rfl, by decide +kernel, by decide +kernel⟩
abbrev s_Order_first : Stmt := inClass (top 18) 9
abbrev N_Order_first : List Str := ["self"]
abbrev P_Order_first : List Str := ["self"]
theorem sc_Order_first : FnScope N_Order_first P_Order_first (defScope s_Order_first) := ⟨rfl, rfl, rfl, by decide +kernel, rfl, by decide +kernel, by decide +kernel⟩
abbrev s_Order_began : Stmt := inClass (top 18) 10
abbrev N_Order_began : List Str := ["self", "entry"]
abbrev P_Order_began : List Str := ["self", "entry"]
theorem sc_Order_began : FnScope N_Order_began P_Order_began (defScope s_Order_began) := ⟨rfl, rfl, rfl, by decide +kernel, rfl, by decide +kernel, by decide +kernel⟩
abbrev s_Order_twin : Stmt := inClass (top 18) 11
abbrev N_Order_twin : List Str := ["self"]
abbrev P_Order_twin : List Str := ["self"]
theorem sc_Order_twin : FnScope N_Order_twin P_Order_twin (defScope s_Order_twin) := ⟨rfl, rfl, rfl, by decide +kernel, rfl, by decide +kernel, by decide +kernel⟩
abbrev s_law_cell : Stmt := top 20
abbrev N_law_cell : List Str := ["script", "k"]
abbrev P_law_cell : List Str := ["script", "k"]
theorem sc_law_cell : FnScope N_law_cell P_law_cell (defScope s_law_cell) := ⟨rfl, rfl, rfl, by decide +kernel, rfl, by decide +kernel, by decide +kernel⟩
abbrev s_law_mix : Stmt := top 21
abbrev N_law_mix : List Str := ["script", "k", "number"]
abbrev P_law_mix : List Str := ["script", "k"]
theorem sc_law_mix : FnScope N_law_mix P_law_mix (defScope s_law_mix) := ⟨rfl, rfl, rfl, by decide +kernel, rfl, by decide +kernel, by decide +kernel⟩
abbrev s_law_draw : Stmt := top 22
abbrev N_law_draw : List Str := ["script", "town", "many"]
abbrev P_law_draw : List Str := ["script", "town", "many"]
theorem sc_law_draw : FnScope N_law_draw P_law_draw (defScope s_law_draw) := ⟨rfl, rfl, rfl, by decide +kernel, rfl, by decide +kernel, by decide +kernel⟩
abbrev s_law_round : Stmt := top 23
abbrev N_law_round : List Str := ["order", "now", "found", "k"]
abbrev P_law_round : List Str := ["order", "now"]
theorem sc_law_round : FnScope N_law_round P_law_round (defScope s_law_round) := ⟨rfl, rfl, rfl, by decide +kernel, rfl, by decide +kernel, by decide +kernel⟩
abbrev s_law : Stmt := top 24
abbrev N_law : List Str := ["script", "town", "order", "many", "k", "first", "second", "both", "now", "third", "way", "left", "rest", "entry"]
abbrev P_law : List Str := ["script"]
theorem sc_law : FnScope N_law P_law (defScope s_law) := ⟨rfl, rfl, rfl, by decide +kernel, rfl, by decide +kernel, by decide +kernel⟩
end TR
namespace TR
open PySem L2
structure Ads where
  c_RoadError : Addr
  c_BadNumber : Addr
  c_BadEntry : Addr
  c_BadWord : Addr
  c_Dice : Addr
  c_Queue : Addr
  c_Order : Addr
  f_wall : Addr
  f_Dice_init__ : Addr
  f_Dice_below : Addr
  f_Dice_twin : Addr
  f_mixed : Addr
  f_Queue_init__ : Addr
  f_Queue_entries : Addr
  f_Queue_need : Addr
  f_Queue_tune : Addr
  f_Queue_put : Addr
  f_Queue_remove : Addr
  f_Queue_move : Addr
  f_Queue_place : Addr
  f_Queue_twin : Addr
  f_Order_init__ : Addr
  f_Order_set_again : Addr
  f_Order_set_mixed : Addr
  f_Order_put : Addr
  f_Order_remove : Addr
  f_Order_next_plain : Addr
  f_Order_next_mixed : Addr
  f_Order_after : Addr
  f_Order_skip : Addr
  f_Order_first : Addr
  f_Order_began : Addr
  f_Order_twin : Addr
  f_law_cell : Addr
  f_law_mix : Addr
  f_law_draw : Addr
  f_law_round : Addr
  f_law : Addr
  o_REPEATS : Addr
  d_wall : FuncData
  d_Dice_init__ : FuncData
  d_Dice_below : FuncData
  d_Dice_twin : FuncData
  d_mixed : FuncData
  d_Queue_init__ : FuncData
  d_Queue_entries : FuncData
  d_Queue_need : FuncData
  d_Queue_tune : FuncData
  d_Queue_put : FuncData
  d_Queue_remove : FuncData
  d_Queue_move : FuncData
  d_Queue_place : FuncData
  d_Queue_twin : FuncData
  d_Order_init__ : FuncData
  d_Order_set_again : FuncData
  d_Order_set_mixed : FuncData
  d_Order_put : FuncData
  d_Order_remove : FuncData
  d_Order_next_plain : FuncData
  d_Order_next_mixed : FuncData
  d_Order_after : FuncData
  d_Order_skip : FuncData
  d_Order_first : FuncData
  d_Order_began : FuncData
  d_Order_twin : FuncData
  d_law_cell : FuncData
  d_law_mix : FuncData
  d_law_draw : FuncData
  d_law_round : FuncData
  d_law : FuncData
structure Txt (K : PySem.W.Frag) (mg : Str → Option Value) (A : Ads) : Prop where
  z_len : mg "len" = none
  z_list : mg "list" = none
  z_range : mg "range" = none
  z_sorted : mg "sorted" = none
  gi_WHEEL : ∃ t, mg "WHEEL" = some (.int 6075 t)
  gi_TIMES : ∃ t, mg "TIMES" = some (.int 106 t)
  gi_MORE : ∃ t, mg "MORE" = some (.int 1283 t)
  gi_MOST : ∃ t, mg "MOST" = some (.int 60 t)
  gi_MOST_ENTRIES : ∃ t, mg "MOST_ENTRIES" = some (.int 12 t)
  gi_REPEATS : mg "REPEATS" = some (.ref A.o_REPEATS)
  tu_REPEATS : ∀ H : Hp, SqT K H A.o_REPEATS [.str "none", .str "all", .str "one"]
  g_RoadError : mg "RoadError" = some (.ref A.c_RoadError)
  g_BadNumber : mg "BadNumber" = some (.ref A.c_BadNumber)
  g_BadEntry : mg "BadEntry" = some (.ref A.c_BadEntry)
  g_BadWord : mg "BadWord" = some (.ref A.c_BadWord)
  g_Dice : mg "Dice" = some (.ref A.c_Dice)
  g_Queue : mg "Queue" = some (.ref A.c_Queue)
  g_Order : mg "Order" = some (.ref A.c_Order)
  c_Dice : Cls K A.c_Dice
  M_Dice : Mk K A.c_Dice A.f_Dice_init__
  n_Dice_number : NoAttr K A.c_Dice "number"
  c_Queue : Cls K A.c_Queue
  M_Queue : Mk K A.c_Queue A.f_Queue_init__
  n_Queue_tunes : NoAttr K A.c_Queue "tunes"
  n_Queue_turn : NoAttr K A.c_Queue "turn"
  n_Queue_last : NoAttr K A.c_Queue "last"
  c_Order : Cls K A.c_Order
  M_Order : Mk K A.c_Order A.f_Order_init__
  n_Order_queue : NoAttr K A.c_Order "queue"
  n_Order_dice : NoAttr K A.c_Order "dice"
  n_Order_is_mixed : NoAttr K A.c_Order "is_mixed"
  n_Order_again : NoAttr K A.c_Order "again"
  n_Order_deck : NoAttr K A.c_Order "deck"
  n_Order_is_gone : NoAttr K A.c_Order "is_gone"
  n_Order_behind : NoAttr K A.c_Order "behind"
  x_RoadError : PySem.W.excIn K A.c_RoadError He.veBase "ValueError.__new__" = true
  k_RoadError : PySem.W.keepIn K (.ref A.c_RoadError) = true
  r_RoadError : PySem.W.subIn K (.ref A.c_RoadError) (.type "BaseException") = some true
  t_RoadError : PySem.W.typeIn K (.ref A.c_RoadError) = some (.type "type")
  e_RoadError : ExcC K A.c_RoadError
  m_RoadError : PySem.W.exmOne K (.ref A.c_RoadError) (.ref A.c_RoadError) = some true
  i_RoadError_RoadError : PySem.W.kitOne K (.ref A.c_RoadError) (.ref A.c_RoadError) = some true
  i_RoadError_BadNumber : PySem.W.kitOne K (.ref A.c_RoadError) (.ref A.c_BadNumber) = some false
  i_RoadError_BadEntry : PySem.W.kitOne K (.ref A.c_RoadError) (.ref A.c_BadEntry) = some false
  i_RoadError_BadWord : PySem.W.kitOne K (.ref A.c_RoadError) (.ref A.c_BadWord) = some false
  i_RoadError_ValueError : PySem.W.kitOne K (.ref A.c_RoadError) (.type "ValueError") = some true
  x_BadNumber : PySem.W.excIn K A.c_BadNumber He.veBase "ValueError.__new__" = true
  k_BadNumber : PySem.W.keepIn K (.ref A.c_BadNumber) = true
  r_BadNumber : PySem.W.subIn K (.ref A.c_BadNumber) (.type "BaseException") = some true
  t_BadNumber : PySem.W.typeIn K (.ref A.c_BadNumber) = some (.type "type")
  e_BadNumber : ExcC K A.c_BadNumber
  m_BadNumber : PySem.W.exmOne K (.ref A.c_BadNumber) (.ref A.c_RoadError) = some true
  i_BadNumber_RoadError : PySem.W.kitOne K (.ref A.c_BadNumber) (.ref A.c_RoadError) = some true
  i_BadNumber_BadNumber : PySem.W.kitOne K (.ref A.c_BadNumber) (.ref A.c_BadNumber) = some true
  i_BadNumber_BadEntry : PySem.W.kitOne K (.ref A.c_BadNumber) (.ref A.c_BadEntry) = some false
  i_BadNumber_BadWord : PySem.W.kitOne K (.ref A.c_BadNumber) (.ref A.c_BadWord) = some false
  i_BadNumber_ValueError : PySem.W.kitOne K (.ref A.c_BadNumber) (.type "ValueError") = some true
  x_BadEntry : PySem.W.excIn K A.c_BadEntry He.veBase "ValueError.__new__" = true
  k_BadEntry : PySem.W.keepIn K (.ref A.c_BadEntry) = true
  r_BadEntry : PySem.W.subIn K (.ref A.c_BadEntry) (.type "BaseException") = some true
  t_BadEntry : PySem.W.typeIn K (.ref A.c_BadEntry) = some (.type "type")
  e_BadEntry : ExcC K A.c_BadEntry
  m_BadEntry : PySem.W.exmOne K (.ref A.c_BadEntry) (.ref A.c_RoadError) = some true
  i_BadEntry_RoadError : PySem.W.kitOne K (.ref A.c_BadEntry) (.ref A.c_RoadError) = some true
  i_BadEntry_BadNumber : PySem.W.kitOne K (.ref A.c_BadEntry) (.ref A.c_BadNumber) = some false
  i_BadEntry_BadEntry : PySem.W.kitOne K (.ref A.c_BadEntry) (.ref A.c_BadEntry) = some true
  i_BadEntry_BadWord : PySem.W.kitOne K (.ref A.c_BadEntry) (.ref A.c_BadWord) = some false
  i_BadEntry_ValueError : PySem.W.kitOne K (.ref A.c_BadEntry) (.type "ValueError") = some true
  x_BadWord : PySem.W.excIn K A.c_BadWord He.veBase "ValueError.__new__" = true
  k_BadWord : PySem.W.keepIn K (.ref A.c_BadWord) = true
  r_BadWord : PySem.W.subIn K (.ref A.c_BadWord) (.type "BaseException") = some true
  t_BadWord : PySem.W.typeIn K (.ref A.c_BadWord) = some (.type "type")
  e_BadWord : ExcC K A.c_BadWord
  m_BadWord : PySem.W.exmOne K (.ref A.c_BadWord) (.ref A.c_RoadError) = some true
  i_BadWord_RoadError : PySem.W.kitOne K (.ref A.c_BadWord) (.ref A.c_RoadError) = some true
  i_BadWord_BadNumber : PySem.W.kitOne K (.ref A.c_BadWord) (.ref A.c_BadNumber) = some false
  i_BadWord_BadEntry : PySem.W.kitOne K (.ref A.c_BadWord) (.ref A.c_BadEntry) = some false
  i_BadWord_BadWord : PySem.W.kitOne K (.ref A.c_BadWord) (.ref A.c_BadWord) = some true
  i_BadWord_ValueError : PySem.W.kitOne K (.ref A.c_BadWord) (.type "ValueError") = some true
  F_wall : Fun K "_wall" "_wall" s_wall A.f_wall A.d_wall
  b_wall : Binds K A.d_wall P_wall []
  g_wall : mg "_wall" = some (.ref A.f_wall)
  k_wall : PySem.W.keepIn K (.ref A.f_wall) = true
  F_Dice_init__ : Fun K "__init__" "Dice.__init__" s_Dice_init__ A.f_Dice_init__ A.d_Dice_init__
  b_Dice_init__ : Binds K A.d_Dice_init__ P_Dice_init__ []
  m_Dice_init__ : Meth K A.c_Dice "__init__" A.f_Dice_init__
  F_Dice_below : Fun K "below" "Dice.below" s_Dice_below A.f_Dice_below A.d_Dice_below
  b_Dice_below : Binds K A.d_Dice_below P_Dice_below []
  m_Dice_below : Meth K A.c_Dice "below" A.f_Dice_below
  F_Dice_twin : Fun K "twin" "Dice.twin" s_Dice_twin A.f_Dice_twin A.d_Dice_twin
  b_Dice_twin : Binds K A.d_Dice_twin P_Dice_twin []
  m_Dice_twin : Meth K A.c_Dice "twin" A.f_Dice_twin
  F_mixed : Fun K "mixed" "mixed" s_mixed A.f_mixed A.d_mixed
  b_mixed : Binds K A.d_mixed P_mixed []
  g_mixed : mg "mixed" = some (.ref A.f_mixed)
  k_mixed : PySem.W.keepIn K (.ref A.f_mixed) = true
  F_Queue_init__ : Fun K "__init__" "Queue.__init__" s_Queue_init__ A.f_Queue_init__ A.d_Queue_init__
  b_Queue_init__ : Binds K A.d_Queue_init__ P_Queue_init__ []
  m_Queue_init__ : Meth K A.c_Queue "__init__" A.f_Queue_init__
  F_Queue_entries : Fun K "entries" "Queue.entries" s_Queue_entries A.f_Queue_entries A.d_Queue_entries
  b_Queue_entries : Binds K A.d_Queue_entries P_Queue_entries []
  m_Queue_entries : Meth K A.c_Queue "entries" A.f_Queue_entries
  F_Queue_need : Fun K "need" "Queue.need" s_Queue_need A.f_Queue_need A.d_Queue_need
  b_Queue_need : Binds K A.d_Queue_need P_Queue_need []
  m_Queue_need : Meth K A.c_Queue "need" A.f_Queue_need
  F_Queue_tune : Fun K "tune" "Queue.tune" s_Queue_tune A.f_Queue_tune A.d_Queue_tune
  b_Queue_tune : Binds K A.d_Queue_tune P_Queue_tune []
  m_Queue_tune : Meth K A.c_Queue "tune" A.f_Queue_tune
  F_Queue_put : Fun K "put" "Queue.put" s_Queue_put A.f_Queue_put A.d_Queue_put
  b_Queue_put : Binds K A.d_Queue_put P_Queue_put []
  m_Queue_put : Meth K A.c_Queue "put" A.f_Queue_put
  F_Queue_remove : Fun K "remove" "Queue.remove" s_Queue_remove A.f_Queue_remove A.d_Queue_remove
  b_Queue_remove : Binds K A.d_Queue_remove P_Queue_remove []
  m_Queue_remove : Meth K A.c_Queue "remove" A.f_Queue_remove
  F_Queue_move : Fun K "move" "Queue.move" s_Queue_move A.f_Queue_move A.d_Queue_move
  b_Queue_move : Binds K A.d_Queue_move P_Queue_move []
  m_Queue_move : Meth K A.c_Queue "move" A.f_Queue_move
  F_Queue_place : Fun K "place" "Queue.place" s_Queue_place A.f_Queue_place A.d_Queue_place
  b_Queue_place : Binds K A.d_Queue_place P_Queue_place []
  m_Queue_place : Meth K A.c_Queue "place" A.f_Queue_place
  F_Queue_twin : Fun K "twin" "Queue.twin" s_Queue_twin A.f_Queue_twin A.d_Queue_twin
  b_Queue_twin : Binds K A.d_Queue_twin P_Queue_twin []
  m_Queue_twin : Meth K A.c_Queue "twin" A.f_Queue_twin
  F_Order_init__ : Fun K "__init__" "Order.__init__" s_Order_init__ A.f_Order_init__ A.d_Order_init__
  b_Order_init__ : Binds K A.d_Order_init__ P_Order_init__ []
  m_Order_init__ : Meth K A.c_Order "__init__" A.f_Order_init__
  F_Order_set_again : Fun K "set_again" "Order.set_again" s_Order_set_again A.f_Order_set_again A.d_Order_set_again
  b_Order_set_again : Binds K A.d_Order_set_again P_Order_set_again []
  m_Order_set_again : Meth K A.c_Order "set_again" A.f_Order_set_again
  F_Order_set_mixed : Fun K "set_mixed" "Order.set_mixed" s_Order_set_mixed A.f_Order_set_mixed A.d_Order_set_mixed
  b_Order_set_mixed : Binds K A.d_Order_set_mixed P_Order_set_mixed []
  m_Order_set_mixed : Meth K A.c_Order "set_mixed" A.f_Order_set_mixed
  F_Order_put : Fun K "put" "Order.put" s_Order_put A.f_Order_put A.d_Order_put
  b_Order_put : Binds K A.d_Order_put P_Order_put []
  m_Order_put : Meth K A.c_Order "put" A.f_Order_put
  F_Order_remove : Fun K "remove" "Order.remove" s_Order_remove A.f_Order_remove A.d_Order_remove
  b_Order_remove : Binds K A.d_Order_remove P_Order_remove []
  m_Order_remove : Meth K A.c_Order "remove" A.f_Order_remove
  F_Order_next_plain : Fun K "next_plain" "Order.next_plain" s_Order_next_plain A.f_Order_next_plain A.d_Order_next_plain
  b_Order_next_plain : Binds K A.d_Order_next_plain P_Order_next_plain []
  m_Order_next_plain : Meth K A.c_Order "next_plain" A.f_Order_next_plain
  F_Order_next_mixed : Fun K "next_mixed" "Order.next_mixed" s_Order_next_mixed A.f_Order_next_mixed A.d_Order_next_mixed
  b_Order_next_mixed : Binds K A.d_Order_next_mixed P_Order_next_mixed []
  m_Order_next_mixed : Meth K A.c_Order "next_mixed" A.f_Order_next_mixed
  F_Order_after : Fun K "after" "Order.after" s_Order_after A.f_Order_after A.d_Order_after
  b_Order_after : Binds K A.d_Order_after P_Order_after []
  m_Order_after : Meth K A.c_Order "after" A.f_Order_after
  F_Order_skip : Fun K "skip" "Order.skip" s_Order_skip A.f_Order_skip A.d_Order_skip
  b_Order_skip : Binds K A.d_Order_skip P_Order_skip []
  m_Order_skip : Meth K A.c_Order "skip" A.f_Order_skip
  F_Order_first : Fun K "first" "Order.first" s_Order_first A.f_Order_first A.d_Order_first
  b_Order_first : Binds K A.d_Order_first P_Order_first []
  m_Order_first : Meth K A.c_Order "first" A.f_Order_first
  F_Order_began : Fun K "began" "Order.began" s_Order_began A.f_Order_began A.d_Order_began
  b_Order_began : Binds K A.d_Order_began P_Order_began []
  m_Order_began : Meth K A.c_Order "began" A.f_Order_began
  F_Order_twin : Fun K "twin" "Order.twin" s_Order_twin A.f_Order_twin A.d_Order_twin
  b_Order_twin : Binds K A.d_Order_twin P_Order_twin []
  m_Order_twin : Meth K A.c_Order "twin" A.f_Order_twin
  F_law_cell : Fun K "_law_cell" "_law_cell" s_law_cell A.f_law_cell A.d_law_cell
  b_law_cell : Binds K A.d_law_cell P_law_cell []
  g_law_cell : mg "_law_cell" = some (.ref A.f_law_cell)
  k_law_cell : PySem.W.keepIn K (.ref A.f_law_cell) = true
  F_law_mix : Fun K "_law_mix" "_law_mix" s_law_mix A.f_law_mix A.d_law_mix
  b_law_mix : Binds K A.d_law_mix P_law_mix []
  g_law_mix : mg "_law_mix" = some (.ref A.f_law_mix)
  k_law_mix : PySem.W.keepIn K (.ref A.f_law_mix) = true
  F_law_draw : Fun K "_law_draw" "_law_draw" s_law_draw A.f_law_draw A.d_law_draw
  b_law_draw : Binds K A.d_law_draw P_law_draw []
  g_law_draw : mg "_law_draw" = some (.ref A.f_law_draw)
  k_law_draw : PySem.W.keepIn K (.ref A.f_law_draw) = true
  F_law_round : Fun K "_law_round" "_law_round" s_law_round A.f_law_round A.d_law_round
  b_law_round : Binds K A.d_law_round P_law_round []
  g_law_round : mg "_law_round" = some (.ref A.f_law_round)
  k_law_round : PySem.W.keepIn K (.ref A.f_law_round) = true
  F_law : Fun K "law" "law" s_law A.f_law A.d_law
  b_law : Binds K A.d_law P_law []
  g_law : mg "law" = some (.ref A.f_law)
  k_law : PySem.W.keepIn K (.ref A.f_law) = true
end TR
namespace TR
open PySem L2
def fl_Dice (a0 : V) : List (Str × V) := [("number", a0)]
theorem fl_Dice_number (a0 : V) : (fl_Dice a0).lookup ("number" : Str) = some a0 := by kernel_rfl
theorem st_Dice_number (a0 b : V) : putF "number" b (fl_Dice a0) = fl_Dice b := by kernel_rfl
theorem no_Dice_init__ (a0 : V) : (fl_Dice a0).lookup ("__init__" : Str) = none := by kernel_rfl
theorem no_Dice_below (a0 : V) : (fl_Dice a0).lookup ("below" : Str) = none := by kernel_rfl
theorem no_Dice_twin (a0 : V) : (fl_Dice a0).lookup ("twin" : Str) = none := by kernel_rfl
theorem sf_Dice_number {K : PySem.W.Frag} {mg : Str → Option Value} {A : Ads} {H0 H : Hp} {L : List Ent} {l dx : Addr} {a0 y : V} {QH : Hp → Prop} (T : Txt K mg A) (w : W H0 H L) (i : Nat) (h : L[i]? = some (l, .ins A.c_Dice dx (fl_Dice a0))) (k : ∀ H', W H0 H' (L.set i (l, .ins A.c_Dice dx (fl_Dice y))) → QH H') : xFldSt K "number" (.ref l) y H QH := st_fld w i h T.c_Dice T.n_Dice_number (by show 1 < 1000; decide) (by rw [st_Dice_number]; exact k)
theorem ln_Dice (a0 : V) : (fl_Dice a0).length < 1000 := by show 1 < 1000; decide
def fl_Queue (a0 a1 a2 : V) : List (Str × V) := [("tunes", a0), ("turn", a1), ("last", a2)]
theorem fl_Queue_tunes (a0 a1 a2 : V) : (fl_Queue a0 a1 a2).lookup ("tunes" : Str) = some a0 := by kernel_rfl
theorem st_Queue_tunes (a0 a1 a2 b : V) : putF "tunes" b (fl_Queue a0 a1 a2) = fl_Queue b a1 a2 := by kernel_rfl
theorem fl_Queue_turn (a0 a1 a2 : V) : (fl_Queue a0 a1 a2).lookup ("turn" : Str) = some a1 := by kernel_rfl
theorem st_Queue_turn (a0 a1 a2 b : V) : putF "turn" b (fl_Queue a0 a1 a2) = fl_Queue a0 b a2 := by kernel_rfl
theorem fl_Queue_last (a0 a1 a2 : V) : (fl_Queue a0 a1 a2).lookup ("last" : Str) = some a2 := by kernel_rfl
theorem st_Queue_last (a0 a1 a2 b : V) : putF "last" b (fl_Queue a0 a1 a2) = fl_Queue a0 a1 b := by kernel_rfl
theorem no_Queue_init__ (a0 a1 a2 : V) : (fl_Queue a0 a1 a2).lookup ("__init__" : Str) = none := by kernel_rfl
theorem no_Queue_entries (a0 a1 a2 : V) : (fl_Queue a0 a1 a2).lookup ("entries" : Str) = none := by kernel_rfl
theorem no_Queue_need (a0 a1 a2 : V) : (fl_Queue a0 a1 a2).lookup ("need" : Str) = none := by kernel_rfl
theorem no_Queue_tune (a0 a1 a2 : V) : (fl_Queue a0 a1 a2).lookup ("tune" : Str) = none := by kernel_rfl
theorem no_Queue_put (a0 a1 a2 : V) : (fl_Queue a0 a1 a2).lookup ("put" : Str) = none := by kernel_rfl
theorem no_Queue_remove (a0 a1 a2 : V) : (fl_Queue a0 a1 a2).lookup ("remove" : Str) = none := by kernel_rfl
theorem no_Queue_move (a0 a1 a2 : V) : (fl_Queue a0 a1 a2).lookup ("move" : Str) = none := by kernel_rfl
theorem no_Queue_place (a0 a1 a2 : V) : (fl_Queue a0 a1 a2).lookup ("place" : Str) = none := by kernel_rfl
theorem no_Queue_twin (a0 a1 a2 : V) : (fl_Queue a0 a1 a2).lookup ("twin" : Str) = none := by kernel_rfl
theorem sf_Queue_tunes {K : PySem.W.Frag} {mg : Str → Option Value} {A : Ads} {H0 H : Hp} {L : List Ent} {l dx : Addr} {a0 a1 a2 y : V} {QH : Hp → Prop} (T : Txt K mg A) (w : W H0 H L) (i : Nat) (h : L[i]? = some (l, .ins A.c_Queue dx (fl_Queue a0 a1 a2))) (k : ∀ H', W H0 H' (L.set i (l, .ins A.c_Queue dx (fl_Queue y a1 a2))) → QH H') : xFldSt K "tunes" (.ref l) y H QH := st_fld w i h T.c_Queue T.n_Queue_tunes (by show 3 < 1000; decide) (by rw [st_Queue_tunes]; exact k)
theorem sf_Queue_turn {K : PySem.W.Frag} {mg : Str → Option Value} {A : Ads} {H0 H : Hp} {L : List Ent} {l dx : Addr} {a0 a1 a2 y : V} {QH : Hp → Prop} (T : Txt K mg A) (w : W H0 H L) (i : Nat) (h : L[i]? = some (l, .ins A.c_Queue dx (fl_Queue a0 a1 a2))) (k : ∀ H', W H0 H' (L.set i (l, .ins A.c_Queue dx (fl_Queue a0 y a2))) → QH H') : xFldSt K "turn" (.ref l) y H QH := st_fld w i h T.c_Queue T.n_Queue_turn (by show 3 < 1000; decide) (by rw [st_Queue_turn]; exact k)
theorem sf_Queue_last {K : PySem.W.Frag} {mg : Str → Option Value} {A : Ads} {H0 H : Hp} {L : List Ent} {l dx : Addr} {a0 a1 a2 y : V} {QH : Hp → Prop} (T : Txt K mg A) (w : W H0 H L) (i : Nat) (h : L[i]? = some (l, .ins A.c_Queue dx (fl_Queue a0 a1 a2))) (k : ∀ H', W H0 H' (L.set i (l, .ins A.c_Queue dx (fl_Queue a0 a1 y))) → QH H') : xFldSt K "last" (.ref l) y H QH := st_fld w i h T.c_Queue T.n_Queue_last (by show 3 < 1000; decide) (by rw [st_Queue_last]; exact k)
theorem ln_Queue (a0 a1 a2 : V) : (fl_Queue a0 a1 a2).length < 1000 := by show 3 < 1000; decide
def fl_Order (a0 a1 a2 a3 a4 a5 a6 : V) : List (Str × V) := [("queue", a0), ("dice", a1), ("is_mixed", a2), ("again", a3), ("deck", a4), ("is_gone", a5), ("behind", a6)]
theorem fl_Order_queue (a0 a1 a2 a3 a4 a5 a6 : V) : (fl_Order a0 a1 a2 a3 a4 a5 a6).lookup ("queue" : Str) = some a0 := by kernel_rfl
theorem st_Order_queue (a0 a1 a2 a3 a4 a5 a6 b : V) : putF "queue" b (fl_Order a0 a1 a2 a3 a4 a5 a6) = fl_Order b a1 a2 a3 a4 a5 a6 := by kernel_rfl
theorem fl_Order_dice (a0 a1 a2 a3 a4 a5 a6 : V) : (fl_Order a0 a1 a2 a3 a4 a5 a6).lookup ("dice" : Str) = some a1 := by kernel_rfl
theorem st_Order_dice (a0 a1 a2 a3 a4 a5 a6 b : V) : putF "dice" b (fl_Order a0 a1 a2 a3 a4 a5 a6) = fl_Order a0 b a2 a3 a4 a5 a6 := by kernel_rfl
theorem fl_Order_is_mixed (a0 a1 a2 a3 a4 a5 a6 : V) : (fl_Order a0 a1 a2 a3 a4 a5 a6).lookup ("is_mixed" : Str) = some a2 := by kernel_rfl
theorem st_Order_is_mixed (a0 a1 a2 a3 a4 a5 a6 b : V) : putF "is_mixed" b (fl_Order a0 a1 a2 a3 a4 a5 a6) = fl_Order a0 a1 b a3 a4 a5 a6 := by kernel_rfl
theorem fl_Order_again (a0 a1 a2 a3 a4 a5 a6 : V) : (fl_Order a0 a1 a2 a3 a4 a5 a6).lookup ("again" : Str) = some a3 := by kernel_rfl
theorem st_Order_again (a0 a1 a2 a3 a4 a5 a6 b : V) : putF "again" b (fl_Order a0 a1 a2 a3 a4 a5 a6) = fl_Order a0 a1 a2 b a4 a5 a6 := by kernel_rfl
theorem fl_Order_deck (a0 a1 a2 a3 a4 a5 a6 : V) : (fl_Order a0 a1 a2 a3 a4 a5 a6).lookup ("deck" : Str) = some a4 := by kernel_rfl
theorem st_Order_deck (a0 a1 a2 a3 a4 a5 a6 b : V) : putF "deck" b (fl_Order a0 a1 a2 a3 a4 a5 a6) = fl_Order a0 a1 a2 a3 b a5 a6 := by kernel_rfl
theorem fl_Order_is_gone (a0 a1 a2 a3 a4 a5 a6 : V) : (fl_Order a0 a1 a2 a3 a4 a5 a6).lookup ("is_gone" : Str) = some a5 := by kernel_rfl
theorem st_Order_is_gone (a0 a1 a2 a3 a4 a5 a6 b : V) : putF "is_gone" b (fl_Order a0 a1 a2 a3 a4 a5 a6) = fl_Order a0 a1 a2 a3 a4 b a6 := by kernel_rfl
theorem fl_Order_behind (a0 a1 a2 a3 a4 a5 a6 : V) : (fl_Order a0 a1 a2 a3 a4 a5 a6).lookup ("behind" : Str) = some a6 := by kernel_rfl
theorem st_Order_behind (a0 a1 a2 a3 a4 a5 a6 b : V) : putF "behind" b (fl_Order a0 a1 a2 a3 a4 a5 a6) = fl_Order a0 a1 a2 a3 a4 a5 b := by kernel_rfl
theorem no_Order_init__ (a0 a1 a2 a3 a4 a5 a6 : V) : (fl_Order a0 a1 a2 a3 a4 a5 a6).lookup ("__init__" : Str) = none := by kernel_rfl
theorem no_Order_set_again (a0 a1 a2 a3 a4 a5 a6 : V) : (fl_Order a0 a1 a2 a3 a4 a5 a6).lookup ("set_again" : Str) = none := by kernel_rfl
theorem no_Order_set_mixed (a0 a1 a2 a3 a4 a5 a6 : V) : (fl_Order a0 a1 a2 a3 a4 a5 a6).lookup ("set_mixed" : Str) = none := by kernel_rfl
theorem no_Order_put (a0 a1 a2 a3 a4 a5 a6 : V) : (fl_Order a0 a1 a2 a3 a4 a5 a6).lookup ("put" : Str) = none := by kernel_rfl
theorem no_Order_remove (a0 a1 a2 a3 a4 a5 a6 : V) : (fl_Order a0 a1 a2 a3 a4 a5 a6).lookup ("remove" : Str) = none := by kernel_rfl
theorem no_Order_next_plain (a0 a1 a2 a3 a4 a5 a6 : V) : (fl_Order a0 a1 a2 a3 a4 a5 a6).lookup ("next_plain" : Str) = none := by kernel_rfl
theorem no_Order_next_mixed (a0 a1 a2 a3 a4 a5 a6 : V) : (fl_Order a0 a1 a2 a3 a4 a5 a6).lookup ("next_mixed" : Str) = none := by kernel_rfl
theorem no_Order_after (a0 a1 a2 a3 a4 a5 a6 : V) : (fl_Order a0 a1 a2 a3 a4 a5 a6).lookup ("after" : Str) = none := by kernel_rfl
theorem no_Order_skip (a0 a1 a2 a3 a4 a5 a6 : V) : (fl_Order a0 a1 a2 a3 a4 a5 a6).lookup ("skip" : Str) = none := by kernel_rfl
theorem no_Order_first (a0 a1 a2 a3 a4 a5 a6 : V) : (fl_Order a0 a1 a2 a3 a4 a5 a6).lookup ("first" : Str) = none := by kernel_rfl
theorem no_Order_began (a0 a1 a2 a3 a4 a5 a6 : V) : (fl_Order a0 a1 a2 a3 a4 a5 a6).lookup ("began" : Str) = none := by kernel_rfl
theorem no_Order_twin (a0 a1 a2 a3 a4 a5 a6 : V) : (fl_Order a0 a1 a2 a3 a4 a5 a6).lookup ("twin" : Str) = none := by kernel_rfl
theorem sf_Order_queue {K : PySem.W.Frag} {mg : Str → Option Value} {A : Ads} {H0 H : Hp} {L : List Ent} {l dx : Addr} {a0 a1 a2 a3 a4 a5 a6 y : V} {QH : Hp → Prop} (T : Txt K mg A) (w : W H0 H L) (i : Nat) (h : L[i]? = some (l, .ins A.c_Order dx (fl_Order a0 a1 a2 a3 a4 a5 a6))) (k : ∀ H', W H0 H' (L.set i (l, .ins A.c_Order dx (fl_Order y a1 a2 a3 a4 a5 a6))) → QH H') : xFldSt K "queue" (.ref l) y H QH := st_fld w i h T.c_Order T.n_Order_queue (by show 7 < 1000; decide) (by rw [st_Order_queue]; exact k)
theorem sf_Order_dice {K : PySem.W.Frag} {mg : Str → Option Value} {A : Ads} {H0 H : Hp} {L : List Ent} {l dx : Addr} {a0 a1 a2 a3 a4 a5 a6 y : V} {QH : Hp → Prop} (T : Txt K mg A) (w : W H0 H L) (i : Nat) (h : L[i]? = some (l, .ins A.c_Order dx (fl_Order a0 a1 a2 a3 a4 a5 a6))) (k : ∀ H', W H0 H' (L.set i (l, .ins A.c_Order dx (fl_Order a0 y a2 a3 a4 a5 a6))) → QH H') : xFldSt K "dice" (.ref l) y H QH := st_fld w i h T.c_Order T.n_Order_dice (by show 7 < 1000; decide) (by rw [st_Order_dice]; exact k)
theorem sf_Order_is_mixed {K : PySem.W.Frag} {mg : Str → Option Value} {A : Ads} {H0 H : Hp} {L : List Ent} {l dx : Addr} {a0 a1 a2 a3 a4 a5 a6 y : V} {QH : Hp → Prop} (T : Txt K mg A) (w : W H0 H L) (i : Nat) (h : L[i]? = some (l, .ins A.c_Order dx (fl_Order a0 a1 a2 a3 a4 a5 a6))) (k : ∀ H', W H0 H' (L.set i (l, .ins A.c_Order dx (fl_Order a0 a1 y a3 a4 a5 a6))) → QH H') : xFldSt K "is_mixed" (.ref l) y H QH := st_fld w i h T.c_Order T.n_Order_is_mixed (by show 7 < 1000; decide) (by rw [st_Order_is_mixed]; exact k)
theorem sf_Order_again {K : PySem.W.Frag} {mg : Str → Option Value} {A : Ads} {H0 H : Hp} {L : List Ent} {l dx : Addr} {a0 a1 a2 a3 a4 a5 a6 y : V} {QH : Hp → Prop} (T : Txt K mg A) (w : W H0 H L) (i : Nat) (h : L[i]? = some (l, .ins A.c_Order dx (fl_Order a0 a1 a2 a3 a4 a5 a6))) (k : ∀ H', W H0 H' (L.set i (l, .ins A.c_Order dx (fl_Order a0 a1 a2 y a4 a5 a6))) → QH H') : xFldSt K "again" (.ref l) y H QH := st_fld w i h T.c_Order T.n_Order_again (by show 7 < 1000; decide) (by rw [st_Order_again]; exact k)
theorem sf_Order_deck {K : PySem.W.Frag} {mg : Str → Option Value} {A : Ads} {H0 H : Hp} {L : List Ent} {l dx : Addr} {a0 a1 a2 a3 a4 a5 a6 y : V} {QH : Hp → Prop} (T : Txt K mg A) (w : W H0 H L) (i : Nat) (h : L[i]? = some (l, .ins A.c_Order dx (fl_Order a0 a1 a2 a3 a4 a5 a6))) (k : ∀ H', W H0 H' (L.set i (l, .ins A.c_Order dx (fl_Order a0 a1 a2 a3 y a5 a6))) → QH H') : xFldSt K "deck" (.ref l) y H QH := st_fld w i h T.c_Order T.n_Order_deck (by show 7 < 1000; decide) (by rw [st_Order_deck]; exact k)
theorem sf_Order_is_gone {K : PySem.W.Frag} {mg : Str → Option Value} {A : Ads} {H0 H : Hp} {L : List Ent} {l dx : Addr} {a0 a1 a2 a3 a4 a5 a6 y : V} {QH : Hp → Prop} (T : Txt K mg A) (w : W H0 H L) (i : Nat) (h : L[i]? = some (l, .ins A.c_Order dx (fl_Order a0 a1 a2 a3 a4 a5 a6))) (k : ∀ H', W H0 H' (L.set i (l, .ins A.c_Order dx (fl_Order a0 a1 a2 a3 a4 y a6))) → QH H') : xFldSt K "is_gone" (.ref l) y H QH := st_fld w i h T.c_Order T.n_Order_is_gone (by show 7 < 1000; decide) (by rw [st_Order_is_gone]; exact k)
theorem sf_Order_behind {K : PySem.W.Frag} {mg : Str → Option Value} {A : Ads} {H0 H : Hp} {L : List Ent} {l dx : Addr} {a0 a1 a2 a3 a4 a5 a6 y : V} {QH : Hp → Prop} (T : Txt K mg A) (w : W H0 H L) (i : Nat) (h : L[i]? = some (l, .ins A.c_Order dx (fl_Order a0 a1 a2 a3 a4 a5 a6))) (k : ∀ H', W H0 H' (L.set i (l, .ins A.c_Order dx (fl_Order a0 a1 a2 a3 a4 a5 y))) → QH H') : xFldSt K "behind" (.ref l) y H QH := st_fld w i h T.c_Order T.n_Order_behind (by show 7 < 1000; decide) (by rw [st_Order_behind]; exact k)
theorem ln_Order (a0 a1 a2 a3 a4 a5 a6 : V) : (fl_Order a0 a1 a2 a3 a4 a5 a6).length < 1000 := by show 7 < 1000; decide
end TR
namespace TR
open PySem L2
end TR

local macro_rules | `(tactic| walk_at "cls") => `(tactic| first
  | exact TR.Txt.c_Dice ‹TR.Txt _ _ _›
  | exact TR.Txt.c_Queue ‹TR.Txt _ _ _›
  | exact TR.Txt.c_Order ‹TR.Txt _ _ _›)
local macro_rules | `(tactic| walk_at "noat") => `(tactic| first
  | exact TR.Txt.n_Dice_number ‹TR.Txt _ _ _›
  | exact TR.Txt.n_Queue_tunes ‹TR.Txt _ _ _›
  | exact TR.Txt.n_Queue_turn ‹TR.Txt _ _ _›
  | exact TR.Txt.n_Queue_last ‹TR.Txt _ _ _›
  | exact TR.Txt.n_Order_queue ‹TR.Txt _ _ _›
  | exact TR.Txt.n_Order_dice ‹TR.Txt _ _ _›
  | exact TR.Txt.n_Order_is_mixed ‹TR.Txt _ _ _›
  | exact TR.Txt.n_Order_again ‹TR.Txt _ _ _›
  | exact TR.Txt.n_Order_deck ‹TR.Txt _ _ _›
  | exact TR.Txt.n_Order_is_gone ‹TR.Txt _ _ _›
  | exact TR.Txt.n_Order_behind ‹TR.Txt _ _ _›)
local macro_rules | `(tactic| walk_at "excc") => `(tactic| first
  | exact TR.Txt.e_RoadError ‹TR.Txt _ _ _›
  | exact TR.Txt.e_BadNumber ‹TR.Txt _ _ _›
  | exact TR.Txt.e_BadEntry ‹TR.Txt _ _ _›
  | exact TR.Txt.e_BadWord ‹TR.Txt _ _ _›)
local macro_rules | `(tactic| walk_at "kit") => `(tactic| first
  | exact TR.Txt.i_RoadError_RoadError ‹TR.Txt _ _ _›
  | exact TR.Txt.i_RoadError_BadNumber ‹TR.Txt _ _ _›
  | exact TR.Txt.i_RoadError_BadEntry ‹TR.Txt _ _ _›
  | exact TR.Txt.i_RoadError_BadWord ‹TR.Txt _ _ _›
  | exact TR.Txt.i_RoadError_ValueError ‹TR.Txt _ _ _›
  | exact TR.Txt.i_BadNumber_RoadError ‹TR.Txt _ _ _›
  | exact TR.Txt.i_BadNumber_BadNumber ‹TR.Txt _ _ _›
  | exact TR.Txt.i_BadNumber_BadEntry ‹TR.Txt _ _ _›
  | exact TR.Txt.i_BadNumber_BadWord ‹TR.Txt _ _ _›
  | exact TR.Txt.i_BadNumber_ValueError ‹TR.Txt _ _ _›
  | exact TR.Txt.i_BadEntry_RoadError ‹TR.Txt _ _ _›
  | exact TR.Txt.i_BadEntry_BadNumber ‹TR.Txt _ _ _›
  | exact TR.Txt.i_BadEntry_BadEntry ‹TR.Txt _ _ _›
  | exact TR.Txt.i_BadEntry_BadWord ‹TR.Txt _ _ _›
  | exact TR.Txt.i_BadEntry_ValueError ‹TR.Txt _ _ _›
  | exact TR.Txt.i_BadWord_RoadError ‹TR.Txt _ _ _›
  | exact TR.Txt.i_BadWord_BadNumber ‹TR.Txt _ _ _›
  | exact TR.Txt.i_BadWord_BadEntry ‹TR.Txt _ _ _›
  | exact TR.Txt.i_BadWord_BadWord ‹TR.Txt _ _ _›
  | exact TR.Txt.i_BadWord_ValueError ‹TR.Txt _ _ _›)
local macro_rules | `(tactic| walk_at "kt") => `(tactic| first
  | exact TR.Txt.tu_REPEATS ‹TR.Txt _ _ _› _)
local macro_rules | `(tactic| walk_at "dgk") => `(tactic| first
  | fail)
local macro_rules | `(tactic| walk_at "hg") => `(tactic| first
  | exact TR.W.get ‹TR.W _ _ _› 0 rfl | exact TR.W.get ‹TR.W _ _ _› 1 rfl | exact TR.W.get ‹TR.W _ _ _› 2 rfl | exact TR.W.get ‹TR.W _ _ _› 3 rfl
  | exact TR.W.get ‹TR.W _ _ _› 4 rfl | exact TR.W.get ‹TR.W _ _ _› 5 rfl | exact TR.W.get ‹TR.W _ _ _› 6 rfl | exact TR.W.get ‹TR.W _ _ _› 7 rfl
  | exact TR.W.get ‹TR.W _ _ _› 8 rfl | exact TR.W.get ‹TR.W _ _ _› 9 rfl | exact TR.W.get ‹TR.W _ _ _› 10 rfl | exact TR.W.get ‹TR.W _ _ _› 11 rfl
  | exact TR.W.get ‹TR.W _ _ _› 12 rfl | exact TR.W.get ‹TR.W _ _ _› 13 rfl | exact TR.W.get ‹TR.W _ _ _› 14 rfl | exact TR.W.get ‹TR.W _ _ _› 15 rfl
  | exact TR.W.get ‹TR.W _ _ _› 16 rfl | exact TR.W.get ‹TR.W _ _ _› 17 rfl | exact TR.W.get ‹TR.W _ _ _› 18 rfl | exact TR.W.get ‹TR.W _ _ _› 19 rfl)
local macro_rules | `(tactic| walk_at "sz") => `(tactic| (simp only [List.length_map, List.length_append, List.length_cons, List.length_nil, List.length_set, List.length_take, List.length_drop, List.length_replicate, List.length_reverse]; first | exact TR.szL (by omega) | exact TR.szE (by omega)))
local macro_rules | `(tactic| walk_at "dg") => `(tactic| first | walk_at "dgk" | exact L2.DGet.k (k := Sum.inr _) (by walk_at "hg") | exact L2.DGet.k (k := Sum.inl _) (by walk_at "hg"))
local macro_rules | `(tactic| walk_at "sd") => `(tactic| first
  | ((with_reducible show (_ : Option L2.HO) = _); first | assumption | walk_at "hg")
  | ((with_reducible show PySem.W.kitOne _ _ _ = _); walk_at "kit")
  | ((with_reducible show _ = _); first | rfl | assumption | exact TR.flat_ints _ | decide)
  | ((with_reducible show L2.Cls _ _); walk_at "cls")
  | ((with_reducible show L2.NoAttr _ _ _); walk_at "noat")
  | ((with_reducible show L2.ExcC _ _); walk_at "excc")
  | ((with_reducible show L2.SqL _ _ _ _); first | assumption | exact L2.SqL.of (by walk_at "hg"))
  | ((with_reducible show L2.SqT _ _ _ _); first | assumption | exact L2.SqT.of (by first | assumption | walk_at "hg") | walk_at "kt")
  | ((with_reducible show L2.SqL _ _ _ _ ∨ L2.SqT _ _ _ _); first | exact Or.inl (L2.SqL.of (by walk_at "hg")) | exact Or.inr (L2.SqT.of (by first | assumption | walk_at "hg")) | exact Or.inr (by walk_at "kt") | exact Or.inl (by assumption))
  | ((with_reducible show L2.RgC _ _ _ _); exact L2.RgC.neg (by omega) (by omega) (by omega) (by omega))
  | ((with_reducible show L2.RgOk _ _); exact L2.RgOk.of_le (by omega) (by omega) (by omega) (by omega))
  | ((with_reducible show L2.tyV _ _ _ _); exact Or.inl ⟨rfl, _, L2.SqL.of (by walk_at "hg")⟩)
  | ((with_reducible show L2.TruV _ _ _ _); first | exact Or.inl ⟨_, L2.SqL.of (by walk_at "hg"), rfl⟩ | rfl)
  | ((with_reducible show L2.DGet _ _ _ _); walk_at "dg")
  | ((with_reducible show _ ≤ _); first | omega | (simp only [List.length_map, List.length_append, List.length_cons, List.length_nil, List.length_set]; omega) | walk_at "sz")
  | ((with_reducible show _ < _); first | omega | (simp only [List.length_map, List.length_append, List.length_cons, List.length_nil, List.length_set]; omega) | walk_at "sz")
  | assumption
  | exact fun _ z => z
  | exact ⟨_, rfl⟩
  | exact ⟨_, L2.SqL.of (by walk_at "hg")⟩
  | ((with_reducible show L2.CDiv _ _); exact ⟨by first | decide | omega, by first | decide | omega⟩)
  | ((with_reducible show L2.CPow _ _); exact ⟨by first | decide | omega, by first | decide | omega, by first | decide | omega⟩)
  | ((with_reducible show L2.CMul _ _); first | exact Or.inl ⟨by first | decide | omega, by first | decide | omega⟩ | exact Or.inr ⟨by first | decide | omega, by first | decide | omega⟩))
local macro_rules | `(tactic| walk_at "rd") => `(tactic| repeat (first | apply Exists.intro | (refine And.intro ?_ ?_; · walk_at "sd")))
local macro_rules | `(tactic| walk_at "scr") => `(tactic| first | assumption | (apply TR.Scr.cons; walk_at "scr") | (apply TR.Scr.app; walk_at "scr"))

namespace TR
open PySem L2
/-! ### the law's draws -/
def cellP (ns : List Int) (k : Int) : Int := if ns = [] then 0 else ns.getD (k % (ns.length : Int)).toNat 0
def mixP (ns : List Int) (k : Int) : Int :=
  let n1 := (cellP ns k + 104729 * (k + 1)) % 4294967291
  let n2 := n1 ^ 5 % 4294967279
  (n2 / 64 * 69621 + n2) % 4294967231
def drawP (ns : List Int) (n : Nat) (m : Int) : Int := mixP ns ((n : Int) + 1) / 8 % m
theorem drawP_nn (ns : List Int) (n : Nat) {m : Int} (h : 0 < m) : 0 ≤ drawP ns n m := Int.emod_nonneg _ (by omega)
theorem drawP_lt (ns : List Int) (n : Nat) {m : Int} (h : 0 < m) : drawP ns n m < m := Int.emod_lt_of_pos _ h
def zeros (n : Nat) : List V := List.replicate n (V.int 0)
theorem zeros_succ (n : Nat) : zeros n ++ [V.int 0] = zeros (n + 1) := by unfold zeros; rw [List.replicate_succ']
theorem zeros_len (n : Nat) : (zeros n).length = n := by unfold zeros; exact List.length_replicate
@[irreducible] def sp_cell (K : PySem.W.Frag) : Sp := fun vs H Q _ => ∃ (a : Addr) (ns : List Int) (k : Int), vs = [.ref a, .int k] ∧ SqL K H a (ns.map V.int) ∧ Q (.int (cellP ns k)) H
theorem of_cell {K : PySem.W.Frag} {vs : List V} {H : Hp} {Q : VK} {E : XK} (h :  ∃ (a : Addr) (ns : List Int) (k : Int), vs = [.ref a, .int k] ∧ SqL K H a (ns.map V.int) ∧ Q (.int (cellP ns k)) H) : sp_cell K vs H Q E := by unfold sp_cell; exact h
@[irreducible] def sp_mix (K : PySem.W.Frag) : Sp := fun vs H Q _ => ∃ (a : Addr) (ns : List Int) (k : Int), vs = [.ref a, .int k] ∧ SqL K H a (ns.map V.int) ∧ 0 ≤ k ∧ k < 1000000 ∧ Q (.int (mixP ns k)) H
theorem of_mix {K : PySem.W.Frag} {vs : List V} {H : Hp} {Q : VK} {E : XK} (h :  ∃ (a : Addr) (ns : List Int) (k : Int), vs = [.ref a, .int k] ∧ SqL K H a (ns.map V.int) ∧ 0 ≤ k ∧ k < 1000000 ∧ Q (.int (mixP ns k)) H) : sp_mix K vs H Q E := by unfold sp_mix; exact h
/-- town holds n noughts; R the rest, the script among it -/
@[irreducible] def sp_draw (K : PySem.W.Frag) : Sp := fun vs H Q _ => ∃ (a t : Addr) (ns : List Int) (n : Nat) (m : Int) (R : List Ent), vs = [.ref a, .ref t, .int m] ∧ Scr K a ns R ∧ W H H ((t, .lst (zeros n)) :: R) ∧ n ≤ 10000 ∧ 0 < m ∧
  ∀ H', W H H' ((t, .lst (zeros (n + 1))) :: R) → Q (.int (drawP ns n m)) H'
theorem of_draw {K : PySem.W.Frag} {vs : List V} {H : Hp} {Q : VK} {E : XK} (h :  ∃ (a t : Addr) (ns : List Int) (n : Nat) (m : Int) (R : List Ent), vs = [.ref a, .ref t, .int m] ∧ Scr K a ns R ∧ W H H ((t, .lst (zeros n)) :: R) ∧ n ≤ 10000 ∧ 0 < m ∧
  ∀ H', W H H' ((t, .lst (zeros (n + 1))) :: R) → Q (.int (drawP ns n m)) H') : sp_draw K vs H Q E := by unfold sp_draw; exact h
@[irreducible] def sp_pick (K : PySem.W.Frag) : Sp := fun vs H Q _ => ∃ (a t b : Addr) (ns : List Int) (n : Nat) (xs : List V) (R : List Ent), vs = [.ref a, .ref t, .ref b] ∧ Scr K a ns R ∧ W H H ((t, .lst (zeros n)) :: R) ∧ (∀ H0 H', W H0 H' R → SqL K H' b xs) ∧ n ≤ 10000 ∧ xs ≠ [] ∧
  ∀ H' v, W H H' ((t, .lst (zeros (n + 1))) :: R) → xs[(drawP ns n xs.length).toNat]? = some v → Q v H'
theorem of_pick {K : PySem.W.Frag} {vs : List V} {H : Hp} {Q : VK} {E : XK} (h :  ∃ (a t b : Addr) (ns : List Int) (n : Nat) (xs : List V) (R : List Ent), vs = [.ref a, .ref t, .ref b] ∧ Scr K a ns R ∧ W H H ((t, .lst (zeros n)) :: R) ∧ (∀ H0 H', W H0 H' R → SqL K H' b xs) ∧ n ≤ 10000 ∧ xs ≠ [] ∧
  ∀ H' v, W H H' ((t, .lst (zeros (n + 1))) :: R) → xs[(drawP ns n xs.length).toNat]? = some v → Q v H') : sp_pick K vs H Q E := by unfold sp_pick; exact h
theorem toNat_mod_lt {k : Int} {n : Nat} (h : 0 < n) : (k % (n : Int)).toNat < n := by
  have h1 : 0 ≤ k % (n : Int) := Int.emod_nonneg _ (by omega)
  have h2 : k % (n : Int) < n := Int.emod_lt_of_pos _ (by omega)
  omega
section
variable {P : Program} {w : World} {K : PySem.W.Frag} {mg : Str → Option Value} {base : Heap} {A : Ads}
theorem ok_law_cell (T : Txt K mg A) : FnOk P w K mg base (L2.CX P w) 1 A.f_law_cell A.d_law_cell P_law_cell (sp_cell K) := by
  refine T.F_law_cell.okX sc_law_cell (fun vs H Q E h => ?_) (fun cdv Ar outer s H vs Q E hr h => ?_)
  · unfold sp_cell at h; obtain ⟨a, ns, k, rfl, _⟩ := h; rfl
  · unfold sp_cell at h; obtain ⟨a, ns, k, rfl, hs, q⟩ := h
    refine ⟨_, (pss_cons (my_if (pt_truth (pv 0) (by intro _; rfl))
        (pss_one (ps_ret (pe_ix ix_list (pv 0) (pe_op op_mod (pv 1) (pe_callB my_lenQ (by rfl) T.z_len PySem.boot_len (pa_cons (pv 0) pa_nil))) (fun _ _ => rfl))))
        pss_nil)
      (pss_one (ps_ret pe_int))), ?_⟩
    refine ⟨_, rfl, _, .inl ⟨_, hs, rfl⟩, ?_⟩
    refine xIf_2 (fun h => ?_) (fun h => ?_)
    · have hn : ns ≠ [] := fun z => by subst z; cases h
      have hl : 0 < ns.length := List.length_pos_iff.mpr hn
      have e : (ns.map V.int)[(k % (ns.length : Int)).toNat]? = some (V.int (cellP ns k)) := by
        rw [List.getElem?_map, List.getElem?_eq_getElem (toNat_mod_lt hl)]
        unfold cellP
        rw [if_neg hn, List.getD_eq_getElem?_getD, List.getElem?_eq_getElem (toNat_mod_lt hl)]
        rfl
      refine ⟨_, rfl, _, rfl, _, rfl, _, _, rfl, .inl hs, _, _, rfl, rfl, ?_, _, _, _, _, rfl, rfl, hs, ?_, q⟩
      · rw [List.length_map]; omega
      · rw [List.length_map]
        exact at_of (Int.toNat_of_nonneg (Int.emod_nonneg _ (by omega))).symm e
    · have hn : ns = [] := by
        cases ns with
        | nil => rfl
        | cons a r => cases h
      unfold cellP at q
      rw [if_pos hn] at q
      exact q
theorem n1_bd (a : Int) : 0 ≤ a % 4294967291 ∧ a % 4294967291 < 4294967291 := ⟨Int.emod_nonneg _ (by decide), Int.emod_lt_of_pos _ (by decide)⟩
theorem n2_bd (a : Int) : 0 ≤ a % 4294967279 ∧ a % 4294967279 < 4294967279 := ⟨Int.emod_nonneg _ (by decide), Int.emod_lt_of_pos _ (by decide)⟩
theorem ok_law_mix (T : Txt K mg A) : FnOk P w K mg base (L2.CX P w) 2 A.f_law_mix A.d_law_mix P_law_mix (sp_mix K) := by
  refine T.F_law_mix.okX sc_law_mix (fun vs H Q E h => ?_) (fun cdv Ar outer s H vs Q E hr h => ?_)
  · unfold sp_mix at h; obtain ⟨a, ns, k, rfl, _⟩ := h; rfl
  · unfold sp_mix at h; obtain ⟨a, ns, k, rfl, hs, h0, h1, q⟩ := h
    refine ⟨_, (pss_cons (ps_set (i := 2) sc_law_mix.nd rfl (by first | exact Or.inl rfl | exact Or.inr rfl) (pe_op op_mod (pe_op op_add (my_call (ok_law_cell T) (hr.mono (by decide)) (by rfl) T.g_law_cell T.k_law_cell T.b_law_cell passE (pa_cons (pv 0) (pa_cons (pv 1) pa_nil))) (pe_op op_mul pe_int (pe_op op_add (pv 1) pe_int))) pe_int))
      (pss_cons (ps_set (i := 2) sc_law_mix.nd rfl (by first | exact Or.inl rfl | exact Or.inr rfl) (pe_op op_mod (pe_op op_pow (pv 2) pe_int) pe_int))
      (pss_one (ps_ret (pe_op op_mod (pe_op op_add (pe_op op_mul (pe_op op_fdiv (pv 2) pe_int) pe_int) (pv 2)) pe_int))))), ?_⟩
    refine ⟨_, rfl, _, rfl, st_call ?_⟩
    unfold sp_cell
    refine ⟨_, _, _, rfl, hs, ?_⟩
    have b1 := n1_bd (cellP ns k + 104729 * (k + 1))
    have b2 := n2_bd (((cellP ns k + 104729 * (k + 1)) % 4294967291) ^ 5)
    refine ⟨_, rfl, _, _, rfl, rfl, _, _, rfl, rfl, .inl ⟨by decide, by decide⟩, _, _, rfl, rfl, _, _, rfl, rfl, (by show (0 : Int) < _; decide), ?_⟩
    refine ⟨_, rfl, _, _, rfl, rfl, ⟨by decide, by decide, by omega⟩, _, _, rfl, rfl, (by show (0 : Int) < _; decide), ?_⟩
    refine ⟨_, rfl, _, _, rfl, rfl, ⟨by decide, by decide⟩, _, _, rfl, rfl, .inr ⟨by decide, by decide⟩, _, rfl, _, _, rfl, rfl, _, _, rfl, rfl, (by show (0 : Int) < _; decide), ?_⟩
    exact q
theorem ok_law_draw (T : Txt K mg A) : FnOk P w K mg base (L2.CX P w) 3 A.f_law_draw A.d_law_draw P_law_draw (sp_draw K) := by
  refine T.F_law_draw.okX sc_law_draw (fun vs H Q E h => ?_) (fun cdv Ar outer s H vs Q E hr h => ?_)
  · unfold sp_draw at h; obtain ⟨a, t, ns, n, m, R, rfl, _⟩ := h; rfl
  · unfold sp_draw at h; obtain ⟨a, t, ns, n, m, R, rfl, sc, w, hn, hm, q⟩ := h
    refine ⟨_, (pss_cons (ps_expr (pe_bm PySem.F.plainAttrs_list PySem.F.slot_list_append PySem.F.type_list_append my_append (pv 1) (pa_cons pe_int pa_nil)))
      (pss_one (ps_ret (pe_op op_mod (pe_op op_fdiv (my_call (ok_law_mix T) (hr.mono (by decide)) (by rfl) T.g_law_mix T.k_law_mix T.b_law_mix passE (pa_cons (pv 0) (pa_cons (pe_callB my_lenQ (by rfl) T.z_len PySem.boot_len (pa_cons (pv 1) pa_nil)) pa_nil))) pe_int) (pv 2))))), ?_⟩
    walk_at "rd"
    refine st_app w 0 rfl (by rw [zeros_len]; exact szL (by omega)) fun H1 w1 => ?_
    rw [zeros_succ] at w1
    replace w1 : W H H1 ((t, .lst (zeros (n + 1))) :: R) := w1
    walk_at "rd"
    refine st_call ?_
    unfold sp_mix
    refine ⟨a, ns, _, rfl, sc _ _ w1.drop1, by omega, by rw [zeros_len]; omega, ?_⟩
    refine ⟨_, _, rfl, rfl, ⟨by decide, by decide⟩, _, rfl, _, _, rfl, rfl, hm, ?_⟩
    have e := q H1 w1
    unfold drawP at e
    rw [zeros_len]
    exact e
/-! a draw, a pick, with town the i-th entry -/
section
variable {H0 : Hp} {L : List Ent} {a t b : Addr} {ns : List Int} {n : Nat} {m : Int} {xs : List V} {Q : VK} {E : XK} {H : Hp}
theorem draw_at (w : W H0 H L) (i : Nat) (h : L[i]? = some (t, .lst (zeros n))) (sc : Scr K a ns (L.eraseIdx i)) (hn : n ≤ 10000) (hm : 0 < m)
    (k : ∀ H', W H0 H' (L.set i (t, .lst (zeros (n + 1)))) → 0 ≤ drawP ns n m → drawP ns n m < m → Q (.int (drawP ns n m)) H') : xCall (sp_draw K) [.ref a, .ref t, .int m] H Q E := by
  refine st_call ?_
  unfold sp_draw
  exact ⟨a, t, ns, n, m, _, rfl, sc, (w.front i h).now, hn, hm, fun H' v => k H' (w.back i h v) (drawP_nn ns n hm) (drawP_lt ns n hm)⟩
theorem pick_at (w : W H0 H L) (i j : Nat) (h : L[i]? = some (t, .lst (zeros n))) (hb : (L.eraseIdx i)[j]? = some (b, .lst xs)) (sc : Scr K a ns (L.eraseIdx i)) (hn : n ≤ 10000) (hx : xs ≠ [])
    (k : ∀ H' v, W H0 H' (L.set i (t, .lst (zeros (n + 1)))) → xs[(drawP ns n xs.length).toNat]? = some v → v ∈ xs → Q v H') : xCall (sp_pick K) [.ref a, .ref t, .ref b] H Q E := by
  refine st_call ?_
  unfold sp_pick
  exact ⟨a, t, b, ns, n, xs, _, rfl, sc, (w.front i h).now, fun _ _ v => SqL.of (v.get j hb), hn, hx, fun H' v w' e => k H' v (w.back i h w') e (List.mem_of_getElem? e)⟩
end
end
end TR

namespace TR
open PySem L2
/-! ### queues: the tunes by number, the turn -/
structure Qu where
  tunes : List Str
  turn : List Int
structure QA where
  q : Addr
  dx : Addr
  d : Addr
  t : Addr
def insP {α : Type} (xs : List α) (i : Nat) (y : α) : List α := xs.take i ++ [y] ++ xs.drop i
theorem insP_map {α β : Type} (f : α → β) (xs : List α) (i : Nat) (y : α) : (insP xs i y).map f = insP (xs.map f) i (f y) := by
  unfold insP; simp [List.map_take, List.map_drop]
theorem insP_len {α : Type} (xs : List α) (i : Nat) (y : α) : (insP xs i y).length = xs.length + 1 := by
  unfold insP
  simp only [List.length_append, List.length_take, List.length_drop, List.length_cons, List.length_nil]
  omega
theorem insP_perm {α : Type} (xs : List α) (i : Nat) (y : α) : (insP xs i y).Perm (y :: xs) := by
  unfold insP
  have h : (xs.take i ++ [y] ++ xs.drop i).Perm ([y] ++ xs.take i ++ xs.drop i) := List.Perm.append_right _ List.perm_append_comm
  refine h.trans ?_
  rw [List.append_assoc, List.take_append_drop]
  exact List.Perm.refl _
theorem mem_insP {α : Type} {xs : List α} {i : Nat} {y x : α} : x ∈ insP xs i y ↔ x = y ∨ x ∈ xs := by
  rw [(insP_perm xs i y).mem_iff, List.mem_cons]
def Qu.put (s : Qu) (x : Str) (p : Int) : Qu := ⟨s.tunes ++ [x], insP s.turn p.toNat ((s.tunes.length : Int) + 1)⟩
def Qu.rem (s : Qu) (e : Int) : Qu := ⟨s.tunes, s.turn.erase e⟩
def Qu.mov (s : Qu) (e p : Int) : Qu := ⟨s.tunes, insP (s.turn.erase e) p.toNat e⟩
def Qu.tune (s : Qu) (e : Int) : Str := s.tunes.getD (e - 1).toNat ""
/-- how the tunes stand in their dict -/
def tunesF : Nat → List Str → List (Key × V)
  | _, [] => []
  | k, x :: r => (Sum.inl ((k : Int) + 1), .str x) :: tunesF (k + 1) r
abbrev tunesK (ts : List Str) : List (Key × V) := tunesF 0 ts
theorem tunesF_len : ∀ (k : Nat) (ts : List Str), (tunesF k ts).length = ts.length
  | _, [] => rfl
  | k, x :: r => by
    show (tunesF (k + 1) r).length + 1 = r.length + 1
    rw [tunesF_len (k + 1) r]
theorem tunesF_none : ∀ (k : Nat) (ts : List Str) (e : Int), (e ≤ k ∨ (k : Int) + ts.length < e) → valV (tunesF k ts) (Sum.inl e) = none
  | _, [], _, _ => rfl
  | k, x :: r, e, h => by
    have ne : ¬ (Sum.inl ((k : Int) + 1) : Key) = Sum.inl e := fun z => by
      have z' := Sum.inl.inj z
      simp only [List.length_cons] at h
      omega
    rw [show tunesF k (x :: r) = (Sum.inl ((k : Int) + 1), .str x) :: tunesF (k + 1) r from rfl, valV_neg ne]
    refine tunesF_none (k + 1) r e ?_
    simp only [List.length_cons] at h
    omega
theorem tunesF_some : ∀ (k : Nat) (ts : List Str) (e : Int), (k : Int) < e → e ≤ (k : Int) + ts.length → valV (tunesF k ts) (Sum.inl e) = some (.str (ts.getD (e - 1 - k).toNat ""))
  | k, [], e, h1, h2 => by simp only [List.length_nil] at h2; omega
  | k, x :: r, e, h1, h2 => by
    by_cases z : (k : Int) + 1 = e
    · rw [show tunesF k (x :: r) = (Sum.inl ((k : Int) + 1), .str x) :: tunesF (k + 1) r from rfl, valV_pos (by rw [z])]
      rw [show (e - 1 - (k : Int)).toNat = 0 by omega]
      rfl
    · have ne : ¬ (Sum.inl ((k : Int) + 1) : Key) = Sum.inl e := fun q => z (Sum.inl.inj q)
      simp only [List.length_cons] at h2
      rw [show tunesF k (x :: r) = (Sum.inl ((k : Int) + 1), .str x) :: tunesF (k + 1) r from rfl, valV_neg ne, tunesF_some (k + 1) r e (by omega) (by omega)]
      rw [show (e - 1 - (k : Int)).toNat = (e - 1 - ((k + 1 : Nat) : Int)).toNat + 1 by omega]
      rfl
theorem tunesF_snoc : ∀ (k : Nat) (ts : List Str) (x : Str), tunesF k (ts ++ [x]) = tunesF k ts ++ [(Sum.inl ((k : Int) + ts.length + 1), .str x)]
  | k, [], x => by simp [tunesF]
  | k, y :: r, x => by
    show (Sum.inl ((k : Int) + 1), V.str y) :: tunesF (k + 1) (r ++ [x]) = _
    have e : ((k + 1 : Nat) : Int) + (r.length : Int) + 1 = (k : Int) + ((y :: r).length : Int) + 1 := by
      rw [List.length_cons]; push_cast; omega
    rw [tunesF_snoc (k + 1) r x, e]
    rfl
theorem tunesK_put (ts : List Str) (x : Str) : putK (tunesK ts) (Sum.inl ((ts.length : Int) + 1)) (.str x) = tunesK (ts ++ [x]) := by
  rw [putK_new _ (tunesF_none 0 ts _ (by omega))]
  show _ = tunesF 0 (ts ++ [x])
  rw [tunesF_snoc]
  simp
theorem Qu.val_some (s : Qu) {e : Int} (h : 1 ≤ e ∧ e ≤ s.tunes.length) : valV (tunesK s.tunes) (Sum.inl e) = some (.str (s.tune e)) := by
  rw [tunesF_some 0 s.tunes e (by omega) (by omega)]
  unfold Qu.tune
  simp
theorem Qu.val_none (s : Qu) {e : Int} (h : ¬ (1 ≤ e ∧ e ≤ s.tunes.length)) : valV (tunesK s.tunes) (Sum.inl e) = none := tunesF_none 0 s.tunes e (by omega)
/-- what holds of a queue -/
structure Qu.Ok (s : Qu) : Prop where
  nd : s.turn.Nodup
  bd : ∀ e ∈ s.turn, 1 ≤ e ∧ e ≤ s.tunes.length
  sz : s.turn.length ≤ 12
  tz : s.tunes.length ≤ 1000
def qL (A : Ads) (a : QA) (s : Qu) : List Ent := [(a.q, .ins A.c_Queue a.dx (fl_Queue (.ref a.d) (.ref a.t) (.int s.tunes.length))), (a.d, .dK (tunesK s.tunes)), (a.t, .lst (s.turn.map V.int))]
theorem Qu.Ok.put {s : Qu} (h : s.Ok) (x : Str) {p : Int} (h2 : s.turn.length ≠ 12) (h3 : s.tunes.length < 1000) : (s.put x p).Ok := by
  have hs := h.sz
  refine ⟨?_, ?_, ?_, ?_⟩
  · show (insP s.turn p.toNat _).Nodup
    rw [(insP_perm _ _ _).nodup_iff]
    exact List.nodup_cons.mpr ⟨fun m => by have := h.bd _ m; omega, h.nd⟩
  · intro e he
    show 1 ≤ e ∧ e ≤ ((s.tunes ++ [x]).length : Int)
    rw [List.length_append, List.length_singleton]
    rcases mem_insP.mp he with rfl | he
    · exact ⟨by omega, by push_cast; omega⟩
    · have := h.bd e he
      exact ⟨this.1, by push_cast; omega⟩
  · show (insP s.turn p.toNat _).length ≤ 12
    rw [insP_len]
    omega
  · show (s.tunes ++ [x]).length ≤ 1000
    rw [List.length_append, List.length_singleton]
    omega
theorem Qu.Ok.rem {s : Qu} (h : s.Ok) (e : Int) : (s.rem e).Ok :=
  ⟨h.nd.erase e, fun x hx => h.bd x (List.mem_of_mem_erase hx), Nat.le_trans (List.length_erase_le) h.sz, h.tz⟩
theorem Qu.Ok.mov {s : Qu} (h : s.Ok) {e p : Int} (he : e ∈ s.turn) : (s.mov e p).Ok := by
  refine ⟨?_, ?_, ?_, h.tz⟩
  · show (insP _ _ _).Nodup
    rw [(insP_perm _ _ _).nodup_iff]
    exact List.nodup_cons.mpr ⟨fun m => ((List.Nodup.mem_erase_iff h.nd).mp m).1 rfl, h.nd.erase e⟩
  · intro x hx
    rcases mem_insP.mp hx with rfl | hx
    · exact h.bd _ he
    · exact h.bd x (List.mem_of_mem_erase hx)
  · show (insP _ _ _).length ≤ 12
    rw [insP_len, List.length_erase_of_mem he]
    have := h.sz
    have := List.length_pos_of_mem he
    omega
@[irreducible] def sp_Queue_init (A : Ads) : Sp := fun vs H Q _ => ∃ (q dx : Addr) (R : List Ent), vs = [.ref q] ∧ W H H ((q, .ins A.c_Queue dx []) :: R) ∧ ∀ H' d t, W H H' (qL A ⟨q, dx, d, t⟩ ⟨[], []⟩ ++ R) → Q .non H'
theorem of_Queue_init {A : Ads} {vs : List V} {H : Hp} {Q : VK} {E : XK} (h :  ∃ (q dx : Addr) (R : List Ent), vs = [.ref q] ∧ W H H ((q, .ins A.c_Queue dx []) :: R) ∧ ∀ H' d t, W H H' (qL A ⟨q, dx, d, t⟩ ⟨[], []⟩ ++ R) → Q .non H') : sp_Queue_init A vs H Q E := by unfold sp_Queue_init; exact h
@[irreducible] def sp_Queue_entries (A : Ads) : Sp := fun vs H Q _ => ∃ (a : QA) (s : Qu) (R : List Ent), vs = [.ref a.q] ∧ W H H (qL A a s ++ R) ∧ ∀ H' l, W H H' ((l, .lst (s.turn.map V.int)) :: (qL A a s ++ R)) → Q (.ref l) H'
theorem of_Queue_entries {A : Ads} {vs : List V} {H : Hp} {Q : VK} {E : XK} (h :  ∃ (a : QA) (s : Qu) (R : List Ent), vs = [.ref a.q] ∧ W H H (qL A a s ++ R) ∧ ∀ H' l, W H H' ((l, .lst (s.turn.map V.int)) :: (qL A a s ++ R)) → Q (.ref l) H') : sp_Queue_entries A vs H Q E := by unfold sp_Queue_entries; exact h
@[irreducible] def sp_Queue_need (A : Ads) : Sp := fun vs H Q E => ∃ (a : QA) (s : Qu) (e : Int) (R : List Ent), vs = [.ref a.q, .int e] ∧ W H H (qL A a s ++ R) ∧ (e ∈ s.turn → Q .non H) ∧ (e ∉ s.turn → E (.ref A.c_BadEntry) none H)
theorem of_Queue_need {A : Ads} {vs : List V} {H : Hp} {Q : VK} {E : XK} (h :  ∃ (a : QA) (s : Qu) (e : Int) (R : List Ent), vs = [.ref a.q, .int e] ∧ W H H (qL A a s ++ R) ∧ (e ∈ s.turn → Q .non H) ∧ (e ∉ s.turn → E (.ref A.c_BadEntry) none H)) : sp_Queue_need A vs H Q E := by unfold sp_Queue_need; exact h
@[irreducible] def sp_Queue_tune (A : Ads) : Sp := fun vs H Q E => ∃ (a : QA) (s : Qu) (e : Int) (R : List Ent), vs = [.ref a.q, .int e] ∧ W H H (qL A a s ++ R) ∧ (1 ≤ e ∧ e ≤ s.tunes.length → Q (.str (s.tune e)) H) ∧ (¬ (1 ≤ e ∧ e ≤ s.tunes.length) → E (.ref A.c_BadEntry) none H)
theorem of_Queue_tune {A : Ads} {vs : List V} {H : Hp} {Q : VK} {E : XK} (h :  ∃ (a : QA) (s : Qu) (e : Int) (R : List Ent), vs = [.ref a.q, .int e] ∧ W H H (qL A a s ++ R) ∧ (1 ≤ e ∧ e ≤ s.tunes.length → Q (.str (s.tune e)) H) ∧ (¬ (1 ≤ e ∧ e ≤ s.tunes.length) → E (.ref A.c_BadEntry) none H)) : sp_Queue_tune A vs H Q E := by unfold sp_Queue_tune; exact h
@[irreducible] def sp_Queue_put (A : Ads) : Sp := fun vs H Q E => ∃ (a : QA) (s : Qu) (x : Str) (p : Int) (R : List Ent), vs = [.ref a.q, .str x, .int p] ∧ W H H (qL A a s ++ R) ∧ s.Ok ∧ s.tunes.length < 1000 ∧
  (0 ≤ p ∧ p ≤ s.turn.length ∧ s.turn.length ≠ 12 → ∀ H', W H H' (qL A a (s.put x p) ++ R) → Q (.int ((s.tunes.length : Int) + 1)) H') ∧ (¬ (0 ≤ p ∧ p ≤ s.turn.length ∧ s.turn.length ≠ 12) → E (.ref A.c_BadNumber) none H)
theorem of_Queue_put {A : Ads} {vs : List V} {H : Hp} {Q : VK} {E : XK} (h :  ∃ (a : QA) (s : Qu) (x : Str) (p : Int) (R : List Ent), vs = [.ref a.q, .str x, .int p] ∧ W H H (qL A a s ++ R) ∧ s.Ok ∧ s.tunes.length < 1000 ∧
  (0 ≤ p ∧ p ≤ s.turn.length ∧ s.turn.length ≠ 12 → ∀ H', W H H' (qL A a (s.put x p) ++ R) → Q (.int ((s.tunes.length : Int) + 1)) H') ∧ (¬ (0 ≤ p ∧ p ≤ s.turn.length ∧ s.turn.length ≠ 12) → E (.ref A.c_BadNumber) none H)) : sp_Queue_put A vs H Q E := by unfold sp_Queue_put; exact h
@[irreducible] def sp_Queue_remove (A : Ads) : Sp := fun vs H Q E => ∃ (a : QA) (s : Qu) (e : Int) (R : List Ent), vs = [.ref a.q, .int e] ∧ W H H (qL A a s ++ R) ∧ (e ∈ s.turn → ∀ H', W H H' (qL A a (s.rem e) ++ R) → Q .non H') ∧ (e ∉ s.turn → E (.ref A.c_BadEntry) none H)
theorem of_Queue_remove {A : Ads} {vs : List V} {H : Hp} {Q : VK} {E : XK} (h :  ∃ (a : QA) (s : Qu) (e : Int) (R : List Ent), vs = [.ref a.q, .int e] ∧ W H H (qL A a s ++ R) ∧ (e ∈ s.turn → ∀ H', W H H' (qL A a (s.rem e) ++ R) → Q .non H') ∧ (e ∉ s.turn → E (.ref A.c_BadEntry) none H)) : sp_Queue_remove A vs H Q E := by unfold sp_Queue_remove; exact h
@[irreducible] def sp_Queue_move (A : Ads) : Sp := fun vs H Q E => ∃ (a : QA) (s : Qu) (e p : Int) (R : List Ent), vs = [.ref a.q, .int e, .int p] ∧ W H H (qL A a s ++ R) ∧ s.Ok ∧
  (e ∈ s.turn → 0 ≤ p ∧ p < s.turn.length → ∀ H', W H H' (qL A a (s.mov e p) ++ R) → Q .non H') ∧ (e ∉ s.turn → E (.ref A.c_BadEntry) none H) ∧ (e ∈ s.turn → ¬ (0 ≤ p ∧ p < s.turn.length) → E (.ref A.c_BadNumber) none H)
theorem of_Queue_move {A : Ads} {vs : List V} {H : Hp} {Q : VK} {E : XK} (h :  ∃ (a : QA) (s : Qu) (e p : Int) (R : List Ent), vs = [.ref a.q, .int e, .int p] ∧ W H H (qL A a s ++ R) ∧ s.Ok ∧
  (e ∈ s.turn → 0 ≤ p ∧ p < s.turn.length → ∀ H', W H H' (qL A a (s.mov e p) ++ R) → Q .non H') ∧ (e ∉ s.turn → E (.ref A.c_BadEntry) none H) ∧ (e ∈ s.turn → ¬ (0 ≤ p ∧ p < s.turn.length) → E (.ref A.c_BadNumber) none H)) : sp_Queue_move A vs H Q E := by unfold sp_Queue_move; exact h
@[irreducible] def sp_Queue_place (A : Ads) : Sp := fun vs H Q E => ∃ (a : QA) (s : Qu) (e : Int) (R : List Ent), vs = [.ref a.q, .int e] ∧ W H H (qL A a s ++ R) ∧ (e ∈ s.turn → Q (.int (s.turn.idxOf e)) H) ∧ (e ∉ s.turn → E (.ref A.c_BadEntry) none H)
theorem of_Queue_place {A : Ads} {vs : List V} {H : Hp} {Q : VK} {E : XK} (h :  ∃ (a : QA) (s : Qu) (e : Int) (R : List Ent), vs = [.ref a.q, .int e] ∧ W H H (qL A a s ++ R) ∧ (e ∈ s.turn → Q (.int (s.turn.idxOf e)) H) ∧ (e ∉ s.turn → E (.ref A.c_BadEntry) none H)) : sp_Queue_place A vs H Q E := by unfold sp_Queue_place; exact h
theorem len_ints (ns : List Int) : ((ns.map V.int).length : Int) = (ns.length : Int) := by rw [List.length_map]
section
variable {P : Program} {w : World} {K : PySem.W.Frag} {mg : Str → Option Value} {base : Heap} {A : Ads}
theorem ok_Queue_init__ (T : Txt K mg A) : FnOk P w K mg base (L2.CX P w) 1 A.f_Queue_init__ A.d_Queue_init__ P_Queue_init__ (sp_Queue_init A) := by
  refine T.F_Queue_init__.okX sc_Queue_init__ (fun vs H Q E h => ?_) (fun cdv Ar outer s H vs Q E hr h => ?_)
  · unfold sp_Queue_init at h; obtain ⟨q, dx, R, rfl, _⟩ := h; rfl
  · unfold sp_Queue_init at h; obtain ⟨q, dx, R, rfl, w, k⟩ := h
    refine ⟨_, (pss_cons (my_fld (pv 0) my_dnew)
      (pss_cons (my_fld (pv 0) (my_lst pa_nil))
      (pss_one (my_fld (pv 0) pe_int)))), ?_⟩
    refine st_new w fun d H1 w1 => ?_
    walk_at "rd"
    refine st_fld w1 1 rfl T.c_Queue T.n_Queue_tunes (by decide) fun H2 w2 => ?_
    walk_at "rd"
    refine st_new w2 fun t H3 w3 => ?_
    walk_at "rd"
    refine st_fld w3 2 rfl T.c_Queue T.n_Queue_turn (by show 1 < 1000; decide) fun H4 w4 => ?_
    walk_at "rd"
    refine st_fld w4 2 rfl T.c_Queue T.n_Queue_last (by show 2 < 1000; decide) fun H5 w5 => ?_
    exact k H5 d t ((w5.rot 1 2).rot 1 1)
theorem ok_Queue_entries (T : Txt K mg A) : FnOk P w K mg base (L2.CX P w) 1 A.f_Queue_entries A.d_Queue_entries P_Queue_entries (sp_Queue_entries A) := by
  refine T.F_Queue_entries.okX sc_Queue_entries (fun vs H Q E h => ?_) (fun cdv Ar outer s H vs Q E hr h => ?_)
  · unfold sp_Queue_entries at h; obtain ⟨a, s, R, rfl, _⟩ := h; rfl
  · unfold sp_Queue_entries at h; obtain ⟨a, s, R, rfl, w, k⟩ := h
    refine ⟨_, (pss_one (ps_ret (pe_callTy my_listOf (by rfl) T.z_list (by decide +kernel) (pa_cons (pe_fld (pv 0) rfl) pa_nil)))), ?_⟩
    walk_at "rd"
    exact st_new w fun l H1 w1 => k H1 l w1
theorem ok_Queue_need (T : Txt K mg A) : FnOk P w K mg base (L2.CX P w) 1 A.f_Queue_need A.d_Queue_need P_Queue_need (sp_Queue_need A) := by
  refine T.F_Queue_need.okX sc_Queue_need (fun vs H Q E h => ?_) (fun cdv Ar outer s H vs Q E hr h => ?_)
  · unfold sp_Queue_need at h; obtain ⟨a, s, e, R, rfl, _⟩ := h; rfl
  · unfold sp_Queue_need at h; obtain ⟨a, s, e, R, rfl, w, k1, k2⟩ := h
    refine ⟨_, (pss_one (my_if (pt_cmpR op_notIn_seq (pv 1) (pe_fld (pv 0) rfl) (by rfl))
        (pss_one (ps_raise rfl takesE (pmk_own PySem.F.excBase_ValueError T.x_BadEntry T.g_BadEntry T.k_BadEntry (raises_own T.r_BadEntry T.t_BadEntry) (by rfl))))
        pss_nil)), ?_⟩
    walk_at "rd"
    refine xIf_2 (fun h => k2 ?_) (fun h => k1 ?_)
    · simpa [inV_ints] using h
    · simpa [inV_ints] using h
theorem ok_Queue_tune (T : Txt K mg A) : FnOk P w K mg base (L2.CX P w) 1 A.f_Queue_tune A.d_Queue_tune P_Queue_tune (sp_Queue_tune A) := by
  refine T.F_Queue_tune.okX sc_Queue_tune (fun vs H Q E h => ?_) (fun cdv Ar outer s H vs Q E hr h => ?_)
  · unfold sp_Queue_tune at h; obtain ⟨a, s, e, R, rfl, _⟩ := h; rfl
  · unfold sp_Queue_tune at h; obtain ⟨a, s, e, R, rfl, w, k1, k2⟩ := h
    refine ⟨_, (pss_cons (my_if (pt_cmp (pc_dnotin (hu_of hr) (pv 1) (pe_fld (pv 0) rfl)) (by rfl))
        (pss_one (ps_raise rfl takesE (pmk_own PySem.F.excBase_ValueError T.x_BadEntry T.g_BadEntry T.k_BadEntry (raises_own T.r_BadEntry T.t_BadEntry) (by rfl))))
        pss_nil)
      (pss_one (ps_ret (pe_dget (hu_of hr) (pe_fld (pv 0) rfl) (pv 1) (fun _ _ => rfl))))), ?_⟩
    walk_at "rd"
    by_cases he : 1 ≤ e ∧ e ≤ s.tunes.length
    · have hv := s.val_some he
      refine xIf_F (by rw [hv]; rfl) ?_
      walk_at "rd"
      refine ⟨by rw [← hv]; exact DGet.k (k := Sum.inl e) (w.get 1 rfl), k1 he⟩
    · have hv := s.val_none he
      exact xIf_T (by rw [hv]; rfl) (k2 he)
theorem ok_Queue_put (T : Txt K mg A) : FnOk P w K mg base (L2.CX P w) 1 A.f_Queue_put A.d_Queue_put P_Queue_put (sp_Queue_put A) := by
  refine T.F_Queue_put.okX sc_Queue_put (fun vs H Q E h => ?_) (fun cdv Ar outer s H vs Q E hr h => ?_)
  · unfold sp_Queue_put at h; obtain ⟨a, s, x, p, R, rfl, _⟩ := h; rfl
  · unfold sp_Queue_put at h; obtain ⟨a, s, x, p, R, rfl, w, ok, hz, k1, k2⟩ := h
    refine ⟨_, (pss_cons (my_if (PW.pt (my_or (pt_not (my_chIT op_le op_le pe_int (pv 2) (pe_callB my_lenQ (by rfl) T.z_len PySem.boot_len (pa_cons (pe_fld (pv 0) rfl) pa_nil)) still_c still_v (still_len (still_fld still_v)))) (pw_or1 (pt_cmpR op_eq (pe_callB my_lenQ (by rfl) T.z_len PySem.boot_len (pa_cons (pe_fld (pv 0) rfl) pa_nil)) (my_globI T.gi_MOST_ENTRIES (by rfl)) (nomark _)))))
        (pss_one (ps_raise rfl takesE (pmk_own PySem.F.excBase_ValueError T.x_BadNumber T.g_BadNumber T.k_BadNumber (raises_own T.r_BadNumber T.t_BadNumber) (by rfl))))
        pss_nil)
      (pss_cons (my_fld (pv 0) (pe_op op_add (pe_fld (pv 0) rfl) pe_int))
      (pss_cons (my_dput (hu_of hr) (pe_fld (pv 0) rfl) (pe_fld (pv 0) rfl) (pv 1))
      (pss_cons (ps_expr (pe_bm PySem.F.plainAttrs_list PySem.F.slot_list_insert PySem.F.type_list_insert my_insert (pe_fld (pv 0) rfl) (pa_cons (pv 2) (pa_cons (pe_fld (pv 0) rfl) pa_nil))))
      (pss_one (ps_ret (pe_fld (pv 0) rfl))))))), ?_⟩
    have hsz := ok.sz
    walk_at "rd"
    refine xIf_2 (fun h => ?_) (fun h => ?_)
    · refine xIf_T rfl (k2 fun z => ?_)
      simp [z] at h
    · have h1 : 0 ≤ p ∧ p ≤ s.turn.length := by simpa using h
      walk_at "rd"
      refine xIf_2 (fun h => ?_) (fun h => ?_)
      · refine k2 fun z => ?_
        have : (s.turn.length : Int) = 12 := by simpa using h
        omega
      · have h2 : s.turn.length ≠ 12 := fun z => by simp [z] at h
        walk_at "rd"
        refine sf_Queue_last T w 0 rfl fun H1 w1 => ?_
        walk_at "rd"
        refine st_dput w1 1 (key := Sum.inl _) rfl rfl (by rw [tunesF_len]; exact szL (by omega)) fun H2 w2 => ?_
        walk_at "rd"
        refine st_ins w2 2 rfl (by walk_at "sz") h1.1 (by omega) fun H3 w3 => ?_
        walk_at "rd"
        rw [tunesK_put] at w3
        refine k1 ⟨h1.1, h1.2, h2⟩ H3 ?_
        have e : (insP s.turn p.toNat ((s.tunes.length : Int) + 1)).map V.int = (s.turn.map V.int).take p.toNat ++ [V.int ((s.tunes.length : Int) + 1)] ++ (s.turn.map V.int).drop p.toNat := insP_map _ _ _ _
        rw [← e] at w3
        have e2 : (((s.tunes ++ [x]).length : Nat) : Int) = (s.tunes.length : Int) + 1 := by rw [List.length_append, List.length_singleton]; push_cast; rfl
        unfold qL Qu.put
        rw [e2]
        exact w3
theorem ok_Queue_remove (T : Txt K mg A) : FnOk P w K mg base (L2.CX P w) 2 A.f_Queue_remove A.d_Queue_remove P_Queue_remove (sp_Queue_remove A) := by
  refine T.F_Queue_remove.okX sc_Queue_remove (fun vs H Q E h => ?_) (fun cdv Ar outer s H vs Q E hr h => ?_)
  · unfold sp_Queue_remove at h; obtain ⟨a, s, e, R, rfl, _⟩ := h; rfl
  · unfold sp_Queue_remove at h; obtain ⟨a, s, e, R, rfl, w, k1, k2⟩ := h
    refine ⟨_, (pss_cons (ps_expr (my_meth (pv 0) T.c_Queue T.m_Queue_need (ok_Queue_need T) (hr.mono (by decide)) T.b_Queue_need passE (pa_cons (pv 1) pa_nil)))
      (pss_one (ps_expr (pe_bm PySem.F.plainAttrs_list PySem.F.slot_list_remove PySem.F.type_list_remove my_remove (pe_fld (pv 0) rfl) (pa_cons (pv 1) pa_nil))))), ?_⟩
    walk_at "rd"
    refine st_call ?_
    unfold sp_Queue_need
    refine ⟨a, s, e, R, rfl, w, fun he => ?_, k2⟩
    walk_at "rd"
    exact st_rem w 2 rfl he fun H1 w1 => k1 he H1 w1
theorem ok_Queue_place (T : Txt K mg A) : FnOk P w K mg base (L2.CX P w) 2 A.f_Queue_place A.d_Queue_place P_Queue_place (sp_Queue_place A) := by
  refine T.F_Queue_place.okX sc_Queue_place (fun vs H Q E h => ?_) (fun cdv Ar outer s H vs Q E hr h => ?_)
  · unfold sp_Queue_place at h; obtain ⟨a, s, e, R, rfl, _⟩ := h; rfl
  · unfold sp_Queue_place at h; obtain ⟨a, s, e, R, rfl, w, k1, k2⟩ := h
    refine ⟨_, (pss_cons (ps_expr (my_meth (pv 0) T.c_Queue T.m_Queue_need (ok_Queue_need T) (hr.mono (by decide)) T.b_Queue_need passE (pa_cons (pv 1) pa_nil)))
      (pss_one (ps_ret (pe_bm PySem.F.plainAttrs_list PySem.F.slot_list_index PySem.F.type_list_index my_index (pe_fld (pv 0) rfl) (pa_cons (pv 1) pa_nil))))), ?_⟩
    walk_at "rd"
    refine st_call ?_
    unfold sp_Queue_need
    refine ⟨a, s, e, R, rfl, w, fun he => ?_, k2⟩
    walk_at "rd"
    exact st_idxI (SqL.of (w.get 2 rfl)) he (k1 he)
end
end TR

namespace TR
open PySem L2
/-! ### dice -/
def dN (n : Int) : Int := (106 * n + 1283) % 6075
theorem dN_bd (n : Int) : 0 ≤ dN n ∧ dN n < 6075 := ⟨Int.emod_nonneg _ (by decide), Int.emod_lt_of_pos _ (by decide)⟩
def dB (n m : Int) : Int := dN n * m / 6075
theorem dB_bd (n : Int) {m : Int} (hm : 0 < m) : 0 ≤ dB n m ∧ dB n m < m := by
  have h := dN_bd n
  refine ⟨Int.ediv_nonneg (Int.mul_nonneg h.1 (by omega)) (by decide), Int.ediv_lt_of_lt_mul (by decide) ?_⟩
  rw [Int.mul_comm m 6075]
  exact Int.mul_lt_mul_of_pos_right h.2 hm
/-- two things change places -/
def swp {α : Type} (xs : List α) (i j : Nat) : List α := match xs[i]?, xs[j]? with
  | some a, some b => (xs.set i b).set j a
  | _, _ => xs
theorem swp_eq {α : Type} {xs : List α} {i j : Nat} {a b : α} (ha : xs[i]? = some a) (hb : xs[j]? = some b) : swp xs i j = (xs.set i b).set j a := by
  unfold swp; rw [ha, hb]
/-- a row mixed: from place k down; the dice's number with it -/
def mixG {α : Type} (k : Nat) (n : Int) (xs : List α) : Int × List α := match k with
  | 0 => (n, xs)
  | k + 1 => mixG k (dN n) (swp xs (k + 1) (dB n ((k : Int) + 2)).toNat)
def mixL {α : Type} (n : Int) (xs : List α) : Int × List α := mixG (xs.length - 1) n xs
@[irreducible] def sp_Dice_init (A : Ads) : Sp := fun vs H Q E => ∃ (p dx : Addr) (n : Int) (R : List Ent), vs = [.ref p, .int n] ∧ W H H ((p, .ins A.c_Dice dx []) :: R) ∧
  (0 ≤ n ∧ n < 6075 → ∀ H', W H H' ((p, .ins A.c_Dice dx (fl_Dice (.int n))) :: R) → Q .non H') ∧ (¬ (0 ≤ n ∧ n < 6075) → E (.ref A.c_BadNumber) none H)
theorem of_Dice_init {A : Ads} {vs : List V} {H : Hp} {Q : VK} {E : XK} (h :  ∃ (p dx : Addr) (n : Int) (R : List Ent), vs = [.ref p, .int n] ∧ W H H ((p, .ins A.c_Dice dx []) :: R) ∧
  (0 ≤ n ∧ n < 6075 → ∀ H', W H H' ((p, .ins A.c_Dice dx (fl_Dice (.int n))) :: R) → Q .non H') ∧ (¬ (0 ≤ n ∧ n < 6075) → E (.ref A.c_BadNumber) none H)) : sp_Dice_init A vs H Q E := by unfold sp_Dice_init; exact h
@[irreducible] def sp_Dice_below (A : Ads) : Sp := fun vs H Q E => ∃ (p dx : Addr) (n m : Int) (R : List Ent), vs = [.ref p, .int m] ∧ W H H ((p, .ins A.c_Dice dx (fl_Dice (.int n))) :: R) ∧ (0 ≤ n ∧ n < 6075) ∧
  (1 ≤ m ∧ m ≤ 60 → ∀ H', W H H' ((p, .ins A.c_Dice dx (fl_Dice (.int (dN n)))) :: R) → Q (.int (dB n m)) H') ∧ (¬ (1 ≤ m ∧ m ≤ 60) → E (.ref A.c_BadNumber) none H)
theorem of_Dice_below {A : Ads} {vs : List V} {H : Hp} {Q : VK} {E : XK} (h :  ∃ (p dx : Addr) (n m : Int) (R : List Ent), vs = [.ref p, .int m] ∧ W H H ((p, .ins A.c_Dice dx (fl_Dice (.int n))) :: R) ∧ (0 ≤ n ∧ n < 6075) ∧
  (1 ≤ m ∧ m ≤ 60 → ∀ H', W H H' ((p, .ins A.c_Dice dx (fl_Dice (.int (dN n)))) :: R) → Q (.int (dB n m)) H') ∧ (¬ (1 ≤ m ∧ m ≤ 60) → E (.ref A.c_BadNumber) none H)) : sp_Dice_below A vs H Q E := by unfold sp_Dice_below; exact h
/-- the list handed in stands in R; a new list comes -/
@[irreducible] def sp_mixed (A : Ads) (K : PySem.W.Frag) : Sp := fun vs H Q _ => ∃ (p dx b : Addr) (n : Int) (xs : List V) (R : List Ent), vs = [.ref p, .ref b] ∧ W H H ((p, .ins A.c_Dice dx (fl_Dice (.int n))) :: R) ∧ (0 ≤ n ∧ n < 6075) ∧ (∀ H0 H', W H0 H' R → SqL K H' b xs) ∧ xs.length ≤ 50 ∧
  ∀ H' l, W H H' ((l, .lst (mixL n xs).2) :: (p, .ins A.c_Dice dx (fl_Dice (.int (mixL n xs).1))) :: R) → Q (.ref l) H'
theorem of_mixed {A : Ads} {K : PySem.W.Frag} {vs : List V} {H : Hp} {Q : VK} {E : XK} (h :  ∃ (p dx b : Addr) (n : Int) (xs : List V) (R : List Ent), vs = [.ref p, .ref b] ∧ W H H ((p, .ins A.c_Dice dx (fl_Dice (.int n))) :: R) ∧ (0 ≤ n ∧ n < 6075) ∧ (∀ H0 H', W H0 H' R → SqL K H' b xs) ∧ xs.length ≤ 50 ∧
  ∀ H' l, W H H' ((l, .lst (mixL n xs).2) :: (p, .ins A.c_Dice dx (fl_Dice (.int (mixL n xs).1))) :: R) → Q (.ref l) H') : sp_mixed A K vs H Q E := by unfold sp_mixed; exact h
theorem mixG_bd {α : Type} : ∀ (k : Nat) (n : Int) (xs : List α), 0 ≤ n ∧ n < 6075 → (0 ≤ (mixG k n xs).1 ∧ (mixG k n xs).1 < 6075)
  | 0, n, xs, h => h
  | k + 1, n, xs, _ => mixG_bd k _ _ (dN_bd n)
theorem swp_len {α : Type} (xs : List α) (i j : Nat) : (swp xs i j).length = xs.length := by
  unfold swp; split <;> simp
theorem swp_map {α β : Type} (f : α → β) (xs : List α) (i j : Nat) : swp (xs.map f) i j = (swp xs i j).map f := by
  unfold swp
  simp only [List.getElem?_map]
  cases xs[i]? <;> cases xs[j]? <;> simp
theorem mixG_len {α : Type} : ∀ (k : Nat) (n : Int) (xs : List α), (mixG k n xs).2.length = xs.length
  | 0, n, xs => rfl
  | k + 1, n, xs => by
    unfold mixG
    rw [mixG_len k, swp_len]
theorem mixL_len {α : Type} (n : Int) (xs : List α) : (mixL n xs).2.length = xs.length := mixG_len _ _ _
theorem mixL_bd {α : Type} (n : Int) (xs : List α) (h : 0 ≤ n ∧ n < 6075) : 0 ≤ (mixL n xs).1 ∧ (mixL n xs).1 < 6075 := mixG_bd _ _ _ h
theorem mixG_map {α β : Type} (f : α → β) : ∀ (k : Nat) (n : Int) (xs : List α), mixG k n (xs.map f) = ((mixG k n xs).1, (mixG k n xs).2.map f)
  | 0, n, xs => rfl
  | k + 1, n, xs => by
    unfold mixG
    rw [swp_map, mixG_map f k]
theorem mixL_map {α β : Type} (f : α → β) (n : Int) (xs : List α) : mixL n (xs.map f) = ((mixL n xs).1, (mixL n xs).2.map f) := by
  unfold mixL
  rw [List.length_map, mixG_map]
theorem swap_perm {α : Type} {l : List α} {i j : Nat} {a b : α} (ha : l[i]? = some a) (hb : l[j]? = some b) : ((l.set i b).set j a).Perm l := by
  obtain ⟨hi, ea⟩ := List.getElem?_eq_some_iff.mp ha
  obtain ⟨hj, eb⟩ := List.getElem?_eq_some_iff.mp hb
  subst ea eb
  exact List.set_set_perm hi hj
theorem swp_perm {α : Type} (xs : List α) (i j : Nat) : (swp xs i j).Perm xs := by
  unfold swp
  split
  · rename_i a b ha hb
    exact swap_perm ha hb
  · exact List.Perm.refl _
theorem mixG_perm {α : Type} : ∀ (k : Nat) (n : Int) (xs : List α), (mixG k n xs).2.Perm xs
  | 0, n, xs => List.Perm.refl _
  | k + 1, n, xs => by
    unfold mixG
    exact (mixG_perm k _ _).trans (swp_perm _ _ _)
theorem mixL_perm {α : Type} (n : Int) (xs : List α) : (mixL n xs).2.Perm xs := mixG_perm _ _ _
section
variable {P : Program} {w : World} {K : PySem.W.Frag} {mg : Str → Option Value} {base : Heap} {A : Ads}
theorem ok_Dice_init__ (T : Txt K mg A) : FnOk P w K mg base (L2.CX P w) 1 A.f_Dice_init__ A.d_Dice_init__ P_Dice_init__ (sp_Dice_init A) := by
  refine T.F_Dice_init__.okX sc_Dice_init__ (fun vs H Q E h => ?_) (fun cdv Ar outer s H vs Q E hr h => ?_)
  · unfold sp_Dice_init at h; obtain ⟨p, dx, n, R, rfl, _⟩ := h; rfl
  · unfold sp_Dice_init at h; obtain ⟨p, dx, n, R, rfl, w, k1, k2⟩ := h
    refine ⟨_, (pss_cons (my_if (pt_not (my_chIT op_le op_lt pe_int (pv 1) (my_globI T.gi_WHEEL (by rfl)) still_c still_v still_c))
        (pss_one (ps_raise rfl takesE (pmk_own PySem.F.excBase_ValueError T.x_BadNumber T.g_BadNumber T.k_BadNumber (raises_own T.r_BadNumber T.t_BadNumber) (by rfl))))
        pss_nil)
      (pss_one (my_fld (pv 0) (pv 1)))), ?_⟩
    walk_at "rd"
    refine xIf_2 (fun h => ?_) (fun h => ?_)
    · refine k2 fun z => ?_
      simp [z] at h
    · walk_at "rd"
      refine st_fld w 0 rfl T.c_Dice T.n_Dice_number (by decide) fun H1 w1 => ?_
      exact k1 (by simpa using h) _ w1
theorem ok_Dice_below (T : Txt K mg A) : FnOk P w K mg base (L2.CX P w) 1 A.f_Dice_below A.d_Dice_below P_Dice_below (sp_Dice_below A) := by
  refine T.F_Dice_below.okX sc_Dice_below (fun vs H Q E h => ?_) (fun cdv Ar outer s H vs Q E hr h => ?_)
  · unfold sp_Dice_below at h; obtain ⟨p, dx, n, m, R, rfl, _⟩ := h; rfl
  · unfold sp_Dice_below at h; obtain ⟨p, dx, n, m, R, rfl, w, hn, k1, k2⟩ := h
    refine ⟨_, (pss_cons (my_if (pt_not (my_chIT op_le op_le pe_int (pv 1) (my_globI T.gi_MOST (by rfl)) still_c still_v still_c))
        (pss_one (ps_raise rfl takesE (pmk_own PySem.F.excBase_ValueError T.x_BadNumber T.g_BadNumber T.k_BadNumber (raises_own T.r_BadNumber T.t_BadNumber) (by rfl))))
        pss_nil)
      (pss_cons (my_fld (pv 0) (pe_op op_mod (pe_op op_add (pe_op op_mul (my_globI T.gi_TIMES (by rfl)) (pe_fld (pv 0) rfl)) (my_globI T.gi_MORE (by rfl))) (my_globI T.gi_WHEEL (by rfl))))
      (pss_one (ps_ret (pe_op op_fdiv (pe_op op_mul (pe_fld (pv 0) rfl) (pv 1)) (my_globI T.gi_WHEEL (by rfl))))))), ?_⟩
    walk_at "rd"
    refine xIf_2 (fun h => ?_) (fun h => ?_)
    · refine k2 fun z => ?_
      simp [z] at h
    · have h' : 1 ≤ m ∧ m ≤ 60 := by simpa using h
      walk_at "rd"
      refine sf_Dice_number T w 0 rfl fun H1 w1 => ?_
      have w2 : W H H1 ((p, .ins A.c_Dice dx (fl_Dice (.int (dN n)))) :: R) := w1
      clear w1
      have hb := dN_bd n
      walk_at "rd"
      exact k1 h' _ w2
theorem mix_stp (n : Int) (xs : List V) (k : Nat) (hk : k + 1 < xs.length) : ∃ a b, xs[k + 1]? = some a ∧ xs[(dB n ((k : Int) + 2)).toNat]? = some b := by
  have h := dB_bd n (m := (k : Int) + 2) (by omega)
  exact ⟨_, _, List.getElem?_eq_getElem hk, List.getElem?_eq_getElem (by omega)⟩
/-- behind i turns of mixed's loop over m + 1 things: what is left to do gives the whole -/
def MixAt (n : Int) (xs : List V) (i : Nat) (n' : Int) (ys : List V) : Prop := mixG (xs.length - 1 - i) n' ys = mixL n xs ∧ ys.length = xs.length ∧ 0 ≤ n' ∧ n' < 6075
theorem ok_mixed (T : Txt K mg A) : FnOk P w K mg base (L2.CX P w) 2 A.f_mixed A.d_mixed P_mixed (sp_mixed A K) := by
  refine T.F_mixed.okX sc_mixed (fun vs H Q E h => ?_) (fun cdv Ar outer s H vs Q E hr h => ?_)
  · unfold sp_mixed at h; obtain ⟨p, dx, b, n, xs, R, rfl, _⟩ := h; rfl
  · unfold sp_mixed at h; obtain ⟨p, dx, b, n, xs, R, rfl, w, hn, hb, hl, k⟩ := h
    refine ⟨_, (pss_cons (ps_set (i := 2) sc_mixed.nd rfl (by first | exact Or.inl rfl | exact Or.inr rfl) (pe_callTy my_listOf (by rfl) T.z_list (by decide +kernel) (pa_cons (pv 1) pa_nil)))
      (pss_cons (my_for ownE rfl (pi_range3 (by rfl) T.z_range (pa_cons (pe_op op_sub (pe_callB my_lenQ (by rfl) T.z_len PySem.boot_len (pa_cons (pv 2) pa_nil)) pe_int) (pa_cons pe_int (pa_cons (pe_un un_neg pe_int) pa_nil)))) (pg_name (i := 3) sc_mixed.nd rfl (by first | exact Or.inl rfl | exact Or.inr rfl))
        (pss_cons (ps_set (i := 4) sc_mixed.nd rfl (by first | exact Or.inl rfl | exact Or.inr rfl) (my_meth (pv 0) T.c_Dice T.m_Dice_below (ok_Dice_below T) (hr.mono (by decide)) T.b_Dice_below passE (pa_cons (pe_op op_add (pv 3) pe_int) pa_nil)))
      (pss_one (ps_asg (my_tup (pa_cons (pe_ix ix_list (pv 2) (pv 4) (fun _ _ => rfl)) (pa_cons (pe_ix ix_list (pv 2) (pv 3) (fun _ _ => rfl)) pa_nil))) (pg_tup rfl (pgs_cons (pg_sub (pv 2) (pv 3) my_setL) (pgs_cons (pg_sub (pv 2) (pv 4) my_setL) pgs_nil)))))))
      (pss_one (ps_ret (pv 2))))), ?_⟩
    have hs := hb _ _ w.drop1
    refine ⟨_, rfl, _, _, rfl, .inl hs, st_new w fun l H1 w1 => ?_⟩
    walk_at "rd"
    refine st_forRC (fun i σ H2 => ∃ (n' : Int) (ys : List V) (u v : Option V), σ = [some (.ref p), some (.ref b), some (.ref l), u, v] ∧ MixAt n xs i n' ys ∧ W H H2 ((l, .lst ys) :: (p, .ins A.c_Dice dx (fl_Dice (.int n'))) :: R))
      ⟨n, xs, none, none, rfl, ⟨rfl, rfl, hn.1, hn.2⟩, w1⟩ ?_ ?_
    · rintro i σ H2 hi ⟨n', ys, u, v, rfl, ⟨em, el, hn0, hn1⟩, w2⟩
      walk_at "rd"
      refine st_call ?_
      unfold sp_Dice_below
      obtain ⟨j, ej⟩ : ∃ j, xs.length - 1 - i = j + 1 := ⟨xs.length - 1 - i - 1, by omega⟩
      have ek : (xs.length : Int) - 1 + (i : Int) * -1 = (j : Int) + 1 := by omega
      rw [ek]
      refine ⟨p, dx, n', _, (l, .lst ys) :: R, rfl, (w2.rot 1 1).now, ⟨hn0, hn1⟩, fun _ H3 w3 => ?_, fun z => absurd (by omega) z⟩
      have w4 : W H H3 ((l, .lst ys) :: (p, .ins A.c_Dice dx (fl_Dice (.int (dN n')))) :: R) := (w2.tr w3).rot 1 1
      clear w3
      obtain ⟨a, b', ha, hb'⟩ := mix_stp n' ys j (by omega)
      have hd := dB_bd n' (m := (j : Int) + 2) (by omega)
      have ed : (j : Int) + 1 + 1 = (j : Int) + 2 := by omega
      rw [ed]
      walk_at "rd"
      refine ⟨at_of (Int.toNat_of_nonneg hd.1).symm hb', ?_⟩
      walk_at "rd"
      refine ⟨at_of (j := j + 1) (by omega) ha, ?_⟩
      walk_at "rd"
      refine st_tup w4 fun t H4 ht w5 => ?_
      walk_at "rd"
      refine st_setL w5 0 (j := j + 1) rfl (ix_of (by omega) (by omega)) fun H5 w6 => ?_
      walk_at "rd"
      refine st_setL w6 0 (j := (dB n' ((j : Int) + 2)).toNat) rfl (ix_of (Int.toNat_of_nonneg hd.1).symm (by rw [List.length_set]; omega)) fun H6 w7 => ?_
      refine ⟨rfl, dN n', (ys.set (j + 1) b').set (dB n' ((j : Int) + 2)).toNat a, _, _, rfl, ⟨?_, by rw [List.length_set, List.length_set]; exact el, (dN_bd n').1, (dN_bd n').2⟩, w7⟩
      rw [← em, ej, show xs.length - 1 - (i + 1) = j by omega]
      conv => rhs; unfold mixG
      rw [swp_eq ha hb']
    · rintro σ H2 ⟨n', ys, u, v, rfl, ⟨em, el, hn0, hn1⟩, w2⟩
      rw [show xs.length - 1 - ((xs.length : Int) - 1 - 0).toNat = 0 by omega] at em
      have e2 : mixL n xs = (n', ys) := em.symm
      rw [e2] at k
      exact ⟨_, rfl, k _ _ w2⟩
end
end TR
namespace TR
open PySem L2
/-! ### orders, as plain data -/
structure Or where
  q : Qu
  num : Int
  mixed : Bool
  again : Str
  deck : List Int
  gone : Bool
  behind : Option Int
def oV : Option Int → V
  | none => .non
  | some n => .int n
theorem oV_inj {a b : Option Int} (h : oV a = oV b) : a = b := by
  cases a <;> cases b <;> simp only [oV] at h
  · rfl
  · cases h
  · cases h
  · rw [V.int.inj h]
theorem scal_io (x : Int) (e : Option Int) : scal (.int x) (oV e) = true := by cases e <;> rfl
theorem scal_oi (x : Int) (e : Option Int) : scal (oV e) (.int x) = true := by cases e <;> rfl
theorem scal_oo (x e : Option Int) : scal (oV x) (oV e) = true := by cases e <;> cases x <;> rfl
theorem flat_oV (e : Option Int) : flatV (oV e) = true := by cases e <;> rfl
structure Or.Ok (s : Or) : Prop where
  q : s.q.Ok
  num : 0 ≤ s.num ∧ s.num < 6075
  nd : s.deck.Nodup
  sub : ∀ e ∈ s.deck, e ∈ s.q.turn
  bh : s.gone = true → ∀ b, s.behind = some b → b ∈ s.q.turn
def behindOf (turn : List Int) (e : Int) : Option Int := turn[turn.idxOf e + 1]?
def fromO (s : Or) (e : Option Int) : Option Int := match e with
  | some x => if x ∈ s.q.turn then behindOf s.q.turn x else if s.gone = true then s.behind else s.q.turn.head?
  | none => if s.gone = true then s.behind else s.q.turn.head?
def plainN (s : Or) (e : Option Int) : Option Int := match fromO s e with
  | some x => some x
  | none => if s.again = "all" then s.q.turn.head? else none
def swE (xs : List Int) : List Int := xs.drop (xs.length - 1) ++ (xs.drop 1).take (xs.length - 2) ++ xs.take 1
def refill (s : Or) (e : Option Int) : Or :=
  if s.deck = [] ∧ s.again = "all" then
    { s with num := (mixL s.num s.q.turn).1, deck := if 1 < (mixL s.num s.q.turn).2.length ∧ (mixL s.num s.q.turn).2.head? = e then swE (mixL s.num s.q.turn).2 else (mixL s.num s.q.turn).2 }
  else s
def popO (s : Or) : Option Int := s.deck.head?
def popS (s : Or) : Or := { s with deck := s.deck.tail }
def skipV (s : Or) (e : Option Int) : Option Int := if s.mixed = true then popO (refill s e) else plainN s e
def skipS (s : Or) (e : Option Int) : Or := if s.mixed = true then popS (refill s e) else s
def again1 (s : Or) (e : Option Int) : Prop := s.again = "one" ∧ ∃ x, e = some x ∧ x ∈ s.q.turn
instance (s : Or) (e : Option Int) : Decidable (again1 s e) := match e with
  | none => isFalse fun ⟨_, _, z, _⟩ => nomatch z
  | some x => decidable_of_iff (s.again = "one" ∧ x ∈ s.q.turn) ⟨fun h => ⟨h.1, x, rfl, h.2⟩, fun ⟨a, y, z, b⟩ => ⟨a, by cases z; exact b⟩⟩
def afterV (s : Or) (e : Option Int) : Option Int := if again1 s e then e else skipV s e
def afterS (s : Or) (e : Option Int) : Or := if again1 s e then s else skipS s e
def fillF (s : Or) : Or := if s.deck = [] then { s with num := (mixL s.num s.q.turn).1, deck := (mixL s.num s.q.turn).2 } else s
def firstV (s : Or) : Option Int := if s.mixed = true then popO (fillF s) else s.q.turn.head?
def firstS (s : Or) : Or := if s.mixed = true then popS (fillF s) else s
def beganO (s : Or) (e : Int) : Or := { s with gone := if e ∈ s.q.turn then false else s.gone, deck := s.deck.erase e }
def butE (turn : List Int) (e : Option Int) : List Int := turn.filter fun x => decide (some x ≠ e)
def mixO (s : Or) (e : Option Int) : Or := { s with num := (mixL s.num (butE s.q.turn e)).1, deck := (mixL s.num (butE s.q.turn e)).2 }
def setM (s : Or) (b : Bool) (e : Option Int) : Or :=
  if b = true then (if s.mixed = true then s else { mixO s e with mixed := true }) else { s with deck := [], mixed := false }
def putO (s : Or) (x : Str) (p : Int) : Or :=
  if s.mixed = true then { s with q := s.q.put x p, num := dN s.num, deck := insP s.deck (dB s.num ((s.deck.length : Int) + 1)).toNat ((s.q.tunes.length : Int) + 1) } else { s with q := s.q.put x p }
def remO (s : Or) (e : Int) (now : Option Int) : Or :=
  { s with q := s.q.rem e, deck := s.deck.erase e, gone := if now = some e ∨ (s.gone = true ∧ s.behind = some e) then true else s.gone,
           behind := if now = some e ∨ (s.gone = true ∧ s.behind = some e) then behindOf s.q.turn e else s.behind }
def movO (s : Or) (e p : Int) : Or := { s with q := s.q.mov e p }
def order0 (n : Int) : Or := ⟨⟨[], []⟩, n, false, "none", [], false, none⟩
/-! what holds stays -/
theorem nodup_len : ∀ {a b : List Int}, a.Nodup → (∀ x ∈ a, x ∈ b) → a.length ≤ b.length
  | [], _, _, _ => Nat.zero_le _
  | x :: r, b, h, hs => by
    have h1 := List.nodup_cons.mp h
    have h2 := nodup_len (a := r) (b := b.erase x) h1.2 fun y hy => (List.mem_erase_of_ne (fun z => h1.1 (by rw [← z]; exact hy))).mpr (hs y (List.mem_cons_of_mem _ hy))
    have h3 := hs x List.mem_cons_self
    rw [List.length_erase_of_mem h3] at h2
    have h4 := List.length_pos_of_mem h3
    rw [List.length_cons]
    omega
theorem Or.Ok.len {s : Or} (h : s.Ok) : s.deck.length ≤ 12 := by
  have h1 := nodup_len h.nd h.sub
  have h2 := h.q.sz
  omega
theorem ok0 {n : Int} (h : 0 ≤ n ∧ n < 6075) : (order0 n).Ok := ⟨⟨List.nodup_nil, (fun _ h => nomatch h), (by show 0 ≤ 12; decide), (by show 0 ≤ 1000; decide)⟩, h, List.nodup_nil, (fun _ h => nomatch h), (fun z => nomatch z)⟩
theorem swE_perm {xs : List Int} (h : 1 < xs.length) : (swE xs).Perm xs := by
  unfold swE
  match xs, h with
  | a :: t, h =>
    have hl : 0 < t.length := by rw [List.length_cons] at h; omega
    have e1 : (a :: t).drop ((a :: t).length - 1) = t.drop (t.length - 1) := by
      rw [show (a :: t).length - 1 = t.length - 1 + 1 by rw [List.length_cons]; omega]
      rfl
    have e2 : ((a :: t).drop 1).take ((a :: t).length - 2) = t.take (t.length - 1) := by
      rw [show (a :: t).length - 2 = t.length - 1 by rw [List.length_cons]; omega]
      rfl
    rw [e1, e2]
    show (t.drop (t.length - 1) ++ t.take (t.length - 1) ++ [a]).Perm (a :: t)
    have p1 : (t.drop (t.length - 1) ++ t.take (t.length - 1)).Perm t := by
      have p := List.perm_append_comm (l₁ := t.drop (t.length - 1)) (l₂ := t.take (t.length - 1))
      rw [List.take_append_drop] at p
      exact p
    exact (List.Perm.append_right [a] p1).trans (List.perm_append_comm (l₁ := t) (l₂ := [a]))
theorem Or.Ok.deck {s : Or} (h : s.Ok) {n : Int} {d : List Int} (hn : 0 ≤ n ∧ n < 6075) (hd : d.Nodup) (hs : ∀ e ∈ d, e ∈ s.q.turn) : ({ s with num := n, deck := d } : Or).Ok := ⟨h.q, hn, hd, hs, h.bh⟩
theorem Or.Ok.refill {s : Or} (h : s.Ok) (e : Option Int) : (refill s e).Ok := by
  unfold TR.refill
  split
  · have hp := mixL_perm s.num s.q.turn
    refine h.deck (mixL_bd _ _ h.num) ?_ ?_
    · split
      · rename_i hc
        exact ((swE_perm hc.1).trans hp).nodup_iff.mpr h.q.nd
      · exact hp.nodup_iff.mpr h.q.nd
    · split
      · rename_i hc
        exact fun x hx => ((swE_perm hc.1).trans hp).mem_iff.mp hx
      · exact fun x hx => hp.mem_iff.mp hx
  · exact h
theorem Or.Ok.pop {s : Or} (h : s.Ok) : (popS s).Ok := ⟨h.q, h.num, h.nd.tail, fun e he => h.sub e (List.mem_of_mem_tail he), h.bh⟩
theorem Or.Ok.skip {s : Or} (h : s.Ok) (e : Option Int) : (skipS s e).Ok := by
  unfold skipS
  split
  · exact (h.refill e).pop
  · exact h
theorem Or.Ok.after {s : Or} (h : s.Ok) (e : Option Int) : (afterS s e).Ok := by
  unfold afterS
  split
  · exact h
  · exact h.skip e
theorem Or.Ok.fill {s : Or} (h : s.Ok) : (fillF s).Ok := by
  unfold fillF
  split
  · have hp := mixL_perm s.num s.q.turn
    exact h.deck (mixL_bd _ _ h.num) (hp.nodup_iff.mpr h.q.nd) fun x hx => hp.mem_iff.mp hx
  · exact h
theorem Or.Ok.first {s : Or} (h : s.Ok) : (firstS s).Ok := by
  unfold firstS
  split
  · exact h.fill.pop
  · exact h
theorem Or.Ok.began {s : Or} (h : s.Ok) (e : Int) : (beganO s e).Ok := by
  refine ⟨h.q, h.num, h.nd.erase e, fun x hx => h.sub x (List.mem_of_mem_erase hx), fun g => h.bh ?_⟩
  have g2 : (if e ∈ s.q.turn then false else s.gone) = true := g
  split at g2
  · cases g2
  · exact g2
theorem Or.Ok.setM {s : Or} (h : s.Ok) (b : Bool) (e : Option Int) : (setM s b e).Ok := by
  unfold TR.setM
  split
  · split
    · exact h
    · have hp := mixL_perm s.num (butE s.q.turn e)
      exact ⟨h.q, mixL_bd _ _ h.num, hp.nodup_iff.mpr (h.q.nd.filter _), fun x hx => (List.mem_filter.mp (hp.mem_iff.mp hx)).1, h.bh⟩
  · exact ⟨h.q, h.num, List.nodup_nil, (fun _ z => nomatch z), h.bh⟩
theorem Or.Ok.put {s : Or} (h : s.Ok) (x : Str) {p : Int} (h2 : s.q.turn.length ≠ 12) (h3 : s.q.tunes.length < 1000) : (putO s x p).Ok := by
  have hq := h.q.put x (p := p) h2 h3
  have hm : ∀ e, e ∈ s.q.turn → e ∈ (s.q.put x p).turn := fun e he => mem_insP.mpr (.inr he)
  unfold putO
  split
  · refine ⟨hq, dN_bd _, ?_, ?_, fun g b hb => hm b (h.bh g b hb)⟩
    · show (insP _ _ _).Nodup
      rw [(insP_perm _ _ _).nodup_iff]
      exact List.nodup_cons.mpr ⟨fun m => by have := h.q.bd _ (h.sub _ m); omega, h.nd⟩
    · intro e he
      rcases mem_insP.mp he with rfl | he
      · exact mem_insP.mpr (.inl rfl)
      · exact hm e (h.sub e he)
  · exact ⟨hq, h.num, h.nd, fun e he => hm e (h.sub e he), fun g b hb => hm b (h.bh g b hb)⟩
theorem behindOf_mem {turn : List Int} {e b : Int} (h : behindOf turn e = some b) : b ∈ turn := List.mem_of_getElem? h
theorem behindOf_ne {turn : List Int} (nd : turn.Nodup) {e b : Int} (he : e ∈ turn) (h : behindOf turn e = some b) : b ≠ e := by
  intro z
  subst z
  obtain ⟨hl, e1⟩ := List.getElem?_eq_some_iff.mp h
  have h2 := nd.idxOf_getElem (turn.idxOf b + 1) hl
  rw [e1] at h2
  omega
theorem Or.Ok.rem {s : Or} (h : s.Ok) {e : Int} (he : e ∈ s.q.turn) (now : Option Int) : (remO s e now).Ok := by
  refine ⟨h.q.rem e, h.num, h.nd.erase e, ?_, ?_⟩
  · intro x hx
    have h1 := (List.Nodup.mem_erase_iff h.nd).mp hx
    exact (List.Nodup.mem_erase_iff h.q.nd).mpr ⟨h1.1, h.sub x h1.2⟩
  · intro g b hb
    have g2 : (if now = some e ∨ (s.gone = true ∧ s.behind = some e) then true else s.gone) = true := g
    have hb2 : (if now = some e ∨ (s.gone = true ∧ s.behind = some e) then behindOf s.q.turn e else s.behind) = some b := hb
    split at hb2
    · exact (List.Nodup.mem_erase_iff h.q.nd).mpr ⟨behindOf_ne h.q.nd he hb2, behindOf_mem hb2⟩
    · rename_i hc
      rw [if_neg hc] at g2
      refine (List.Nodup.mem_erase_iff h.q.nd).mpr ⟨fun z => hc (.inr ⟨g2, by rw [hb2, z]⟩), h.bh g2 b hb2⟩
theorem Or.Ok.mov {s : Or} (h : s.Ok) {e p : Int} (he : e ∈ s.q.turn) : (movO s e p).Ok := by
  have hm : ∀ x, x ∈ s.q.turn → x ∈ (s.q.mov e p).turn := fun x hx => by
    by_cases z : x = e
    · exact mem_insP.mpr (.inl z)
    · exact mem_insP.mpr (.inr ((List.Nodup.mem_erase_iff h.q.nd).mpr ⟨z, hx⟩))
  exact ⟨h.q.mov he, h.num, h.nd, fun x hx => hm x (h.sub x hx), fun g b hb => hm b (h.bh g b hb)⟩
theorem inV_o (ns : List Int) (e : Option Int) : inV (oV e) (ns.map V.int) = decide (∃ x, e = some x ∧ x ∈ ns) := by
  cases e with
  | none =>
    rw [show oV none = V.non from rfl, inV_non]
    exact (decide_eq_false fun ⟨_, z, _⟩ => nomatch z).symm
  | some x =>
    rw [show oV (some x) = V.int x from rfl, inV_ints]
    by_cases h : x ∈ ns
    · rw [decide_eq_true h, decide_eq_true ⟨x, rfl, h⟩]
    · rw [decide_eq_false h, decide_eq_false (fun ⟨y, z, m⟩ => h (by cases z; exact m))]
theorem eqv_nil (ns : List Int) : PyData.eqv (.list (ns.map PyData.int)) (.list []) = decide (ns = []) := by
  cases ns with
  | nil => rfl
  | cons a r => rfl
end TR

namespace TR
open PySem L2
/-! ### orders: the walk -/
theorem ds_t {i j : Str} (h : decide (V.str i = V.str j) = true) : i = j := V.str.inj (of_decide_eq_true h)
theorem ds_f {i j : Str} (h : decide (V.str i = V.str j) = false) : i ≠ j := fun z => of_decide_eq_false h (by rw [z])
theorem do_eq (x : Int) (e : Option Int) : decide (V.int x = oV e) = decide (e = some x) := by
  by_cases h : e = some x
  · rw [h, decide_eq_true rfl]; exact decide_eq_true rfl
  · rw [decide_eq_false h]
    exact decide_eq_false fun z => h (oV_inj (z.symm.trans rfl))
section
variable {K : PySem.W.Frag} {H0 H : Hp} {L : List Ent} {a : Addr} {g : TG} {tt : TT} {te : TE} {vs : List Nat} {σ : L2.St} {Q : VK}
/-- the ones of a list for which p holds -/
theorem st_but {ns : List Int} (p : Int → Bool) (w : W H0 H L) (j : Nat) (h : L[j]? = some (a, .lst (ns.map V.int))) (hl : ns.length ≤ 1000)
    (hs : ∀ D n P H', (p n = true → xAcc D P (.int n) H') → (p n = false → P H') → LcTurn g tt te vs σ D P (.int n) H')
    (k : ∀ D H', W H0 H' ((D, .lst ((ns.filter p).map V.int)) :: L) → Q (.ref D) H') : xLc (Itl K a) g tt te vs σ H Q := by
  refine st_lcL (xs := ns.map V.int) (fun D i H' => W H0 H' ((D, .lst (((ns.take i).filter p).map V.int)) :: L)) w (fun D H' w1 => w1) (fun D i H' _ w1 => SqL.of (w1.get (j + 1) (by simpa using h))) ?_ ?_
  · intro D i x H' hx w1
    rw [List.getElem?_map] at hx
    cases hn : ns[i]? with
    | none => rw [hn] at hx; cases hx
    | some n =>
      rw [hn] at hx
      cases hx
      have e : (ns.take (i + 1)).filter p = (ns.take i).filter p ++ [n].filter p := by
        rw [List.take_succ, hn, ← List.filter_append]; rfl
      refine hs D n _ H' (fun hp => ?_) (fun hp => ?_)
      · have hlen : ((ns.take i).filter p).length ≤ 1000 := Nat.le_trans (List.length_filter_le _ _) (Nat.le_trans (by rw [List.length_take]; omega) hl)
        refine st_acc w1 0 rfl (by rw [List.length_map]; exact szL (by omega)) fun H2 w2 => ?_
        rw [e, List.filter_cons_of_pos hp, List.map_append]
        exact w2
      · rw [e, List.filter_cons_of_neg (by rw [hp]; exact Bool.false_ne_true), List.filter_nil, List.append_nil]
        exact w1
  · intro D H' w1
    rw [List.length_map, List.take_length] at w1
    exact k D H' w1
end
section
variable {K : PySem.W.Frag} {H0 H : Hp} {L : List Ent} {a : Addr} {g : TG} {tt : TT} {te : TE} {vs : List Nat} {σ : L2.St} {Q : VK}
theorem st_butW {ns : List Int} (p : Int → Bool) (w : W H0 H L) (j : Nat) (h : L[j]? = some (a, .lst (ns.map V.int))) (hl : ns.length ≤ 1000)
    (hs : ∀ D n P H' ds, W H0 H' ((D, .lst ds) :: L) → (p n = true → xAcc D P (.int n) H') → (p n = false → P H') → LcTurn g tt te vs σ D P (.int n) H')
    (k : ∀ D H', W H0 H' ((D, .lst ((ns.filter p).map V.int)) :: L) → Q (.ref D) H') : xLc (Itl K a) g tt te vs σ H Q := by
  refine st_lcL (xs := ns.map V.int) (fun D i H' => W H0 H' ((D, .lst (((ns.take i).filter p).map V.int)) :: L)) w (fun D H' w1 => w1) (fun D i H' _ w1 => SqL.of (w1.get (j + 1) (by simpa using h))) ?_ ?_
  · intro D i x H' hx w1
    rw [List.getElem?_map] at hx
    cases hn : ns[i]? with
    | none => rw [hn] at hx; cases hx
    | some n =>
      rw [hn] at hx
      cases hx
      have e : (ns.take (i + 1)).filter p = (ns.take i).filter p ++ [n].filter p := by
        rw [List.take_succ, hn, ← List.filter_append]; rfl
      refine hs D n _ H' _ w1 (fun hp => ?_) (fun hp => ?_)
      · have hlen : ((ns.take i).filter p).length ≤ 1000 := Nat.le_trans (List.length_filter_le _ _) (Nat.le_trans (by rw [List.length_take]; omega) hl)
        refine st_acc w1 0 rfl (by rw [List.length_map]; exact szL (by omega)) fun H2 w2 => ?_
        rw [e, List.filter_cons_of_pos hp, List.map_append]
        exact w2
      · rw [e, List.filter_cons_of_neg (by rw [hp]; exact Bool.false_ne_true), List.filter_nil, List.append_nil]
        exact w1
  · intro D H' w1
    rw [List.length_map, List.take_length] at w1
    exact k D H' w1
end
structure OA where
  o : Addr
  dx : Addr
  q : QA
  dc : Addr
  ddx : Addr
  k : Addr
def orL (A : Ads) (a : OA) (s : Or) : List Ent := [(a.o, .ins A.c_Order a.dx (fl_Order (.ref a.q.q) (.ref a.dc) (.bl s.mixed) (.str s.again) (.ref a.k) (.bl s.gone) (oV s.behind))),
  (a.q.q, .ins A.c_Queue a.q.dx (fl_Queue (.ref a.q.d) (.ref a.q.t) (.int s.q.tunes.length))), (a.q.d, .dK (tunesK s.q.tunes)), (a.q.t, .lst (s.q.turn.map V.int)),
  (a.dc, .ins A.c_Dice a.ddx (fl_Dice (.int s.num))), (a.k, .lst (s.deck.map V.int))]
def repeats : List Str := ["none", "all", "one"]
@[irreducible] def sp_Order_init (A : Ads) : Sp := fun vs H Q E => ∃ (o dx : Addr) (n : Int) (R : List Ent), vs = [.ref o, .int n] ∧ W H H ((o, .ins A.c_Order dx []) :: R) ∧
  (0 ≤ n ∧ n < 6075 → ∀ H' a, a.o = o → W H H' (orL A a (order0 n) ++ R) → Q .non H') ∧ (¬ (0 ≤ n ∧ n < 6075) → ∀ H', W H H' R → E (.ref A.c_BadNumber) none H')
theorem of_Order_init {A : Ads} {vs : List V} {H : Hp} {Q : VK} {E : XK} (h :  ∃ (o dx : Addr) (n : Int) (R : List Ent), vs = [.ref o, .int n] ∧ W H H ((o, .ins A.c_Order dx []) :: R) ∧
  (0 ≤ n ∧ n < 6075 → ∀ H' a, a.o = o → W H H' (orL A a (order0 n) ++ R) → Q .non H') ∧ (¬ (0 ≤ n ∧ n < 6075) → ∀ H', W H H' R → E (.ref A.c_BadNumber) none H')) : sp_Order_init A vs H Q E := by unfold sp_Order_init; exact h
@[irreducible] def sp_Order_set_again (A : Ads) : Sp := fun vs H Q E => ∃ (a : OA) (s : Or) (x : Str) (R : List Ent), vs = [.ref a.o, .str x] ∧ W H H (orL A a s ++ R) ∧ (x ∈ repeats → ∀ H', W H H' (orL A a { s with again := x } ++ R) → Q .non H') ∧ (x ∉ repeats → E (.ref A.c_BadWord) none H)
theorem of_Order_set_again {A : Ads} {vs : List V} {H : Hp} {Q : VK} {E : XK} (h :  ∃ (a : OA) (s : Or) (x : Str) (R : List Ent), vs = [.ref a.o, .str x] ∧ W H H (orL A a s ++ R) ∧ (x ∈ repeats → ∀ H', W H H' (orL A a { s with again := x } ++ R) → Q .non H') ∧ (x ∉ repeats → E (.ref A.c_BadWord) none H)) : sp_Order_set_again A vs H Q E := by unfold sp_Order_set_again; exact h
@[irreducible] def sp_Order_set_mixed (A : Ads) : Sp := fun vs H Q _ => ∃ (a : OA) (s : Or) (b : Bool) (e : Option Int) (R : List Ent), vs = [.ref a.o, .bl b, oV e] ∧ W H H (orL A a s ++ R) ∧ s.Ok ∧ ∀ H' k', W H H' (orL A { a with k := k' } (setM s b e) ++ R) → Q .non H'
theorem of_Order_set_mixed {A : Ads} {vs : List V} {H : Hp} {Q : VK} {E : XK} (h :  ∃ (a : OA) (s : Or) (b : Bool) (e : Option Int) (R : List Ent), vs = [.ref a.o, .bl b, oV e] ∧ W H H (orL A a s ++ R) ∧ s.Ok ∧ ∀ H' k', W H H' (orL A { a with k := k' } (setM s b e) ++ R) → Q .non H') : sp_Order_set_mixed A vs H Q E := by unfold sp_Order_set_mixed; exact h
@[irreducible] def sp_Order_put (A : Ads) : Sp := fun vs H Q E => ∃ (a : OA) (s : Or) (x : Str) (p : Int) (R : List Ent), vs = [.ref a.o, .str x, .int p] ∧ W H H (orL A a s ++ R) ∧ s.Ok ∧ s.q.tunes.length < 1000 ∧
  (0 ≤ p ∧ p ≤ s.q.turn.length ∧ s.q.turn.length ≠ 12 → ∀ H', W H H' (orL A a (putO s x p) ++ R) → Q (.int ((s.q.tunes.length : Int) + 1)) H') ∧ (¬ (0 ≤ p ∧ p ≤ s.q.turn.length ∧ s.q.turn.length ≠ 12) → E (.ref A.c_BadNumber) none H)
theorem of_Order_put {A : Ads} {vs : List V} {H : Hp} {Q : VK} {E : XK} (h :  ∃ (a : OA) (s : Or) (x : Str) (p : Int) (R : List Ent), vs = [.ref a.o, .str x, .int p] ∧ W H H (orL A a s ++ R) ∧ s.Ok ∧ s.q.tunes.length < 1000 ∧
  (0 ≤ p ∧ p ≤ s.q.turn.length ∧ s.q.turn.length ≠ 12 → ∀ H', W H H' (orL A a (putO s x p) ++ R) → Q (.int ((s.q.tunes.length : Int) + 1)) H') ∧ (¬ (0 ≤ p ∧ p ≤ s.q.turn.length ∧ s.q.turn.length ≠ 12) → E (.ref A.c_BadNumber) none H)) : sp_Order_put A vs H Q E := by unfold sp_Order_put; exact h
@[irreducible] def sp_Order_remove (A : Ads) : Sp := fun vs H Q E => ∃ (a : OA) (s : Or) (e : Int) (now : Option Int) (R : List Ent), vs = [.ref a.o, .int e, oV now] ∧ W H H (orL A a s ++ R) ∧ s.Ok ∧
  (e ∈ s.q.turn → ∀ H', W H H' (orL A a (remO s e now) ++ R) → Q .non H') ∧ (e ∉ s.q.turn → ∀ H', W H H' (orL A a s ++ R) → E (.ref A.c_BadEntry) none H')
theorem of_Order_remove {A : Ads} {vs : List V} {H : Hp} {Q : VK} {E : XK} (h :  ∃ (a : OA) (s : Or) (e : Int) (now : Option Int) (R : List Ent), vs = [.ref a.o, .int e, oV now] ∧ W H H (orL A a s ++ R) ∧ s.Ok ∧
  (e ∈ s.q.turn → ∀ H', W H H' (orL A a (remO s e now) ++ R) → Q .non H') ∧ (e ∉ s.q.turn → ∀ H', W H H' (orL A a s ++ R) → E (.ref A.c_BadEntry) none H')) : sp_Order_remove A vs H Q E := by unfold sp_Order_remove; exact h
@[irreducible] def sp_Order_next_plain (A : Ads) : Sp := fun vs H Q _ => ∃ (a : OA) (s : Or) (e : Option Int) (R : List Ent), vs = [.ref a.o, oV e] ∧ W H H (orL A a s ++ R) ∧ s.Ok ∧ ∀ H', W H H' (orL A a s ++ R) → Q (oV (plainN s e)) H'
theorem of_Order_next_plain {A : Ads} {vs : List V} {H : Hp} {Q : VK} {E : XK} (h :  ∃ (a : OA) (s : Or) (e : Option Int) (R : List Ent), vs = [.ref a.o, oV e] ∧ W H H (orL A a s ++ R) ∧ s.Ok ∧ ∀ H', W H H' (orL A a s ++ R) → Q (oV (plainN s e)) H') : sp_Order_next_plain A vs H Q E := by unfold sp_Order_next_plain; exact h
@[irreducible] def sp_Order_next_mixed (A : Ads) : Sp := fun vs H Q _ => ∃ (a : OA) (s : Or) (e : Option Int) (R : List Ent), vs = [.ref a.o, oV e] ∧ W H H (orL A a s ++ R) ∧ s.Ok ∧ ∀ H' k', W H H' (orL A { a with k := k' } (popS (refill s e)) ++ R) → Q (oV (popO (refill s e))) H'
theorem of_Order_next_mixed {A : Ads} {vs : List V} {H : Hp} {Q : VK} {E : XK} (h :  ∃ (a : OA) (s : Or) (e : Option Int) (R : List Ent), vs = [.ref a.o, oV e] ∧ W H H (orL A a s ++ R) ∧ s.Ok ∧ ∀ H' k', W H H' (orL A { a with k := k' } (popS (refill s e)) ++ R) → Q (oV (popO (refill s e))) H') : sp_Order_next_mixed A vs H Q E := by unfold sp_Order_next_mixed; exact h
@[irreducible] def sp_Order_skip (A : Ads) : Sp := fun vs H Q _ => ∃ (a : OA) (s : Or) (e : Option Int) (R : List Ent), vs = [.ref a.o, oV e] ∧ W H H (orL A a s ++ R) ∧ s.Ok ∧ ∀ H' k', W H H' (orL A { a with k := k' } (skipS s e) ++ R) → Q (oV (skipV s e)) H'
theorem of_Order_skip {A : Ads} {vs : List V} {H : Hp} {Q : VK} {E : XK} (h :  ∃ (a : OA) (s : Or) (e : Option Int) (R : List Ent), vs = [.ref a.o, oV e] ∧ W H H (orL A a s ++ R) ∧ s.Ok ∧ ∀ H' k', W H H' (orL A { a with k := k' } (skipS s e) ++ R) → Q (oV (skipV s e)) H') : sp_Order_skip A vs H Q E := by unfold sp_Order_skip; exact h
@[irreducible] def sp_Order_after (A : Ads) : Sp := fun vs H Q _ => ∃ (a : OA) (s : Or) (e : Option Int) (R : List Ent), vs = [.ref a.o, oV e] ∧ W H H (orL A a s ++ R) ∧ s.Ok ∧ ∀ H' k', W H H' (orL A { a with k := k' } (afterS s e) ++ R) → Q (oV (afterV s e)) H'
theorem of_Order_after {A : Ads} {vs : List V} {H : Hp} {Q : VK} {E : XK} (h :  ∃ (a : OA) (s : Or) (e : Option Int) (R : List Ent), vs = [.ref a.o, oV e] ∧ W H H (orL A a s ++ R) ∧ s.Ok ∧ ∀ H' k', W H H' (orL A { a with k := k' } (afterS s e) ++ R) → Q (oV (afterV s e)) H') : sp_Order_after A vs H Q E := by unfold sp_Order_after; exact h
@[irreducible] def sp_Order_first (A : Ads) : Sp := fun vs H Q _ => ∃ (a : OA) (s : Or) (R : List Ent), vs = [.ref a.o] ∧ W H H (orL A a s ++ R) ∧ s.Ok ∧ ∀ H' k', W H H' (orL A { a with k := k' } (firstS s) ++ R) → Q (oV (firstV s)) H'
theorem of_Order_first {A : Ads} {vs : List V} {H : Hp} {Q : VK} {E : XK} (h :  ∃ (a : OA) (s : Or) (R : List Ent), vs = [.ref a.o] ∧ W H H (orL A a s ++ R) ∧ s.Ok ∧ ∀ H' k', W H H' (orL A { a with k := k' } (firstS s) ++ R) → Q (oV (firstV s)) H') : sp_Order_first A vs H Q E := by unfold sp_Order_first; exact h
@[irreducible] def sp_Order_began (A : Ads) : Sp := fun vs H Q _ => ∃ (a : OA) (s : Or) (e : Int) (R : List Ent), vs = [.ref a.o, .int e] ∧ W H H (orL A a s ++ R) ∧ s.Ok ∧ ∀ H', W H H' (orL A a (beganO s e) ++ R) → Q .non H'
theorem of_Order_began {A : Ads} {vs : List V} {H : Hp} {Q : VK} {E : XK} (h :  ∃ (a : OA) (s : Or) (e : Int) (R : List Ent), vs = [.ref a.o, .int e] ∧ W H H (orL A a s ++ R) ∧ s.Ok ∧ ∀ H', W H H' (orL A a (beganO s e) ++ R) → Q .non H') : sp_Order_began A vs H Q E := by unfold sp_Order_began; exact h
theorem head_map (ns : List Int) : (ns.map V.int)[0]? = ns.head?.map V.int := by cases ns <;> rfl
section
variable {P : Program} {w : World} {K : PySem.W.Frag} {mg : Str → Option Value} {base : Heap} {A : Ads}
theorem ok_Order_init__ (T : Txt K mg A) : FnOk P w K mg base (L2.CX P w) 3 A.f_Order_init__ A.d_Order_init__ P_Order_init__ (sp_Order_init A) := by
  refine T.F_Order_init__.okX sc_Order_init__ (fun vs H Q E h => ?_) (fun cdv Ar outer s H vs Q E hr h => ?_)
  · unfold sp_Order_init at h; obtain ⟨o, dx, n, R, rfl, _⟩ := h; rfl
  · unfold sp_Order_init at h; obtain ⟨o, dx, n, R, rfl, w, k1, k2⟩ := h
    refine ⟨_, (pss_cons (my_fld (pv 0) (my_make0 T.M_Queue (ok_Queue_init__ T) (hr.mono (by decide)) (by rfl) T.g_Queue T.b_Queue_init__ passE))
      (pss_cons (my_fld (pv 0) (my_make T.M_Dice (ok_Dice_init__ T) (hr.mono (by decide)) (by rfl) T.g_Dice T.b_Dice_init__ passE (pa_cons (pv 1) pa_nil)))
      (pss_cons (my_fld (pv 0) pe_bl)
      (pss_cons (my_fld (pv 0) pe_str)
      (pss_cons (my_fld (pv 0) (my_lst pa_nil))
      (pss_cons (my_fld (pv 0) pe_bl)
      (pss_one (my_fld (pv 0) pe_non)))))))), ?_⟩
    walk_at "rd"
    refine st_make w fun q qx H1 w1 => ?_
    refine of_Queue_init ⟨q, qx, _, rfl, w1.now, fun H2 d t w2 => ?_⟩
    have w3 := w1.tr w2
    clear w1 w2
    walk_at "rd"
    refine st_fld w3 3 rfl T.c_Order T.n_Order_queue (by decide) fun H3 w4 => ?_
    walk_at "rd"
    refine st_make w4 fun dc ddx H4 w5 => ?_
    refine of_Dice_init ⟨dc, ddx, n, _, rfl, w5.now, fun hn H5 w6 => ?_, fun hn => k2 hn _ ((w5.drop1.drop1.drop1.drop1).drop1)⟩
    have w7 := w5.tr w6
    clear w5 w6 w4 w3
    walk_at "rd"
    refine st_fld w7 4 rfl T.c_Order T.n_Order_dice (by show 1 < 1000; decide) fun H6 w8 => ?_
    walk_at "rd"
    refine st_fld w8 4 rfl T.c_Order T.n_Order_is_mixed (by show 2 < 1000; decide) fun H7 w9 => ?_
    walk_at "rd"
    refine st_fld w9 4 rfl T.c_Order T.n_Order_again (by show 3 < 1000; decide) fun H8 w10 => ?_
    walk_at "rd"
    refine st_new w10 fun dk H9 w11 => ?_
    walk_at "rd"
    refine st_fld w11 5 rfl T.c_Order T.n_Order_deck (by show 4 < 1000; decide) fun H10 w12 => ?_
    walk_at "rd"
    refine st_fld w12 5 rfl T.c_Order T.n_Order_is_gone (by show 5 < 1000; decide) fun H11 w13 => ?_
    walk_at "rd"
    refine st_fld w13 5 rfl T.c_Order T.n_Order_behind (by show 6 < 1000; decide) fun H12 w14 => ?_
    refine k1 hn H12 ⟨o, dx, ⟨q, qx, d, t⟩, dc, ddx, dk⟩ rfl ?_
    have w15 := ((w14.rot 1 5).rot 4 1).rot 2 3
    exact w15.rot 3 1
theorem ok_Order_set_again (T : Txt K mg A) : FnOk P w K mg base (L2.CX P w) 1 A.f_Order_set_again A.d_Order_set_again P_Order_set_again (sp_Order_set_again A) := by
  refine T.F_Order_set_again.okX sc_Order_set_again (fun vs H Q E h => ?_) (fun cdv Ar outer s H vs Q E hr h => ?_)
  · unfold sp_Order_set_again at h; obtain ⟨a, s, x, R, rfl, _⟩ := h; rfl
  · unfold sp_Order_set_again at h; obtain ⟨a, s, x, R, rfl, w, k1, k2⟩ := h
    refine ⟨_, (pss_cons (my_if (pt_cmpR op_notIn_seq (pv 1) (my_globR T.gi_REPEATS (by rfl)) (by rfl))
        (pss_one (ps_raise rfl takesE (pmk_own PySem.F.excBase_ValueError T.x_BadWord T.g_BadWord T.k_BadWord (raises_own T.r_BadWord T.t_BadWord) (by rfl))))
        pss_nil)
      (pss_one (my_fld (pv 0) (pv 1)))), ?_⟩
    walk_at "rd"
    have e : inV (.str x) [V.str (Str.ofString "none"), V.str (Str.ofString "all"), V.str (Str.ofString "one")] = decide (x ∈ repeats) := inV_strs repeats x
    by_cases hx : x ∈ repeats
    · refine xIf_F (by show (!inV (.str x) [V.str (Str.ofString "none"), V.str (Str.ofString "all"), V.str (Str.ofString "one")]) = false; rw [e, decide_eq_true hx]; rfl) ?_
      walk_at "rd"
      exact sf_Order_again T w 0 rfl fun H1 w1 => k1 hx H1 w1
    · exact xIf_T (by show (!inV (.str x) [V.str (Str.ofString "none"), V.str (Str.ofString "all"), V.str (Str.ofString "one")]) = true; rw [e, decide_eq_false hx]; rfl) (k2 hx)
theorem ok_Order_set_mixed (T : Txt K mg A) : FnOk P w K mg base (L2.CX P w) 3 A.f_Order_set_mixed A.d_Order_set_mixed P_Order_set_mixed (sp_Order_set_mixed A) := by
  refine T.F_Order_set_mixed.okX sc_Order_set_mixed (fun vs H Q E h => ?_) (fun cdv Ar outer s H vs Q E hr h => ?_)
  · unfold sp_Order_set_mixed at h; obtain ⟨a, s, b, e, R, rfl, _⟩ := h; rfl
  · unfold sp_Order_set_mixed at h; obtain ⟨a, s, b, e, R, rfl, w, ok, k⟩ := h
    refine ⟨_, (pss_cons (my_if (PW.pt (my_and (pt_val (pv 1)) (pw_and1 (pt_not (pt_val (pe_fld (pv 0) rfl))))))
        (pss_one (my_fld (pv 0) (my_call (ok_mixed T) (hr.mono (by decide)) (by rfl) T.g_mixed T.k_mixed T.b_mixed passE (pa_cons (pe_fld (pv 0) rfl) (pa_cons (my_lc (own := [("one", 3)]) rfl sc_Order_set_mixed.nd (pi_list (my_meth0 (pe_fld (pv 0) rfl) T.c_Queue T.m_Queue_entries (ok_Queue_entries T) (hr.mono (by decide)) T.b_Queue_entries passE)) (blkOk_by (own := [("one", 3)]) (N := N_Order_set_mixed) (sc := defScope s_Order_set_mixed) (by decide +kernel)) (fun _ _ _ _ _ => (pg_name (i := 3) sc_Order_set_mixed.nd rfl (by first | exact Or.inl rfl | exact Or.inr rfl))) (fun _ _ _ _ _ => (pts_one (pt_cmpR op_ne (pv 3) (pv 2) (nomark _)))) (fun _ _ _ _ _ => (pv 3))) pa_nil)))))
        pss_nil)
      (pss_cons (my_if (pt_not (pt_val (pv 1)))
        (pss_one (my_fld (pv 0) (my_lst pa_nil)))
        pss_nil)
      (pss_one (my_fld (pv 0) (pv 1))))), ?_⟩
    have hq := ok.q.sz
    cases b with
    | false =>
      walk_at "rd"
      refine xIf_F rfl ?_
      refine xIf_F rfl ?_
      walk_at "rd"
      refine xIf_T rfl ?_
      walk_at "rd"
      refine st_new w fun dk H1 w1 => ?_
      walk_at "rd"
      refine sf_Order_deck T w1 1 rfl fun H2 w2 => ?_
      walk_at "rd"
      refine sf_Order_is_mixed T w2 1 rfl fun H3 w3 => k H3 dk ?_
      exact w3.pick 7 [1, 2, 3, 4, 5, 0]
    | true =>
      unfold TR.setM at k
      rw [if_pos rfl] at k
      cases hm : s.mixed with
      | true =>
        rw [hm] at k
        unfold orL at w
        rw [hm] at w
        walk_at "rd"
        refine xIf_T rfl ?_
        walk_at "rd"
        refine xIf_F rfl ?_
        walk_at "rd"
        refine xIf_F rfl ?_
        walk_at "rd"
        refine sf_Order_is_mixed T w 0 rfl fun H1 w1 => k H1 a.k ?_
        show W H H1 (orL A a s ++ R)
        unfold orL
        rw [hm]
        exact w1
      | false =>
        rw [hm] at k
        unfold orL at w
        rw [hm] at w
        walk_at "rd"
        refine xIf_T rfl ?_
        walk_at "rd"
        refine xIf_T rfl ?_
        walk_at "rd"
        refine st_call (of_Queue_entries ⟨a.q, s.q, _, rfl, (w.rot 1 3).now, fun H1 l w1 => ?_⟩)
        have w2 := w.tr w1
        clear w1
        walk_at "rd"
        refine st_but (fun x => decide (some x ≠ e)) w2 0 rfl (by omega) ?_ ?_
        · intro D n P H' h1 h2
          have hd : (!decide (V.int n = oV e)) = decide (some n ≠ e) := by
            rw [do_eq]
            by_cases z : e = some n
            · simp [z]
            · have z2 : ¬ some n = e := fun q => z q.symm
              simp [z, z2]
          have sc1 := scal_io n e
          walk_at "rd"
          refine xIf_2 (fun h => ?_) (fun h => h2 (by rw [← hd]; exact h))
          walk_at "rd"
          exact h1 (by rw [← hd]; exact h)
        · intro D H2 w3
          have hbl : (butE s.q.turn e).length ≤ 12 := Nat.le_trans (List.length_filter_le _ _) hq
          refine st_call (of_mixed ⟨a.dc, a.ddx, D, s.num, (butE s.q.turn e).map V.int, _, rfl, (w3.rot 6 1).now, ok.num, fun _ _ v => SqL.of (v.get 0 rfl), by rw [List.length_map]; omega, fun H3 dk w4 => ?_⟩)
          have w5 := w3.tr w4
          clear w4
          rw [mixL_map] at w5
          walk_at "rd"
          refine sf_Order_deck T w5 7 rfl fun H4 w6 => ?_
          walk_at "rd"
          refine xIf_F rfl ?_
          walk_at "rd"
          refine sf_Order_is_mixed T w6 7 rfl fun H5 w7 => k H5 dk ?_
          show W H H5 (orL A { a with k := dk } { mixO s e with mixed := true } ++ R)
          exact w7.pick 9 [7, 4, 5, 6, 1, 0]
theorem ok_Order_put (T : Txt K mg A) : FnOk P w K mg base (L2.CX P w) 2 A.f_Order_put A.d_Order_put P_Order_put (sp_Order_put A) := by
  refine T.F_Order_put.okX sc_Order_put (fun vs H Q E h => ?_) (fun cdv Ar outer s H vs Q E hr h => ?_)
  · unfold sp_Order_put at h; obtain ⟨a, s, x, p, R, rfl, _⟩ := h; rfl
  · unfold sp_Order_put at h; obtain ⟨a, s, x, p, R, rfl, w, ok, hz, k1, k2⟩ := h
    refine ⟨_, (pss_cons (ps_set (i := 3) sc_Order_put.nd rfl (by first | exact Or.inl rfl | exact Or.inr rfl) (my_meth (pe_fld (pv 0) rfl) T.c_Queue T.m_Queue_put (ok_Queue_put T) (hr.mono (by decide)) T.b_Queue_put passE (pa_cons (pv 1) (pa_cons (pv 2) pa_nil))))
      (pss_cons (my_if (pt_val (pe_fld (pv 0) rfl))
        (pss_one (ps_expr (pe_bm PySem.F.plainAttrs_list PySem.F.slot_list_insert PySem.F.type_list_insert my_insert (pe_fld (pv 0) rfl) (pa_cons (my_meth (pe_fld (pv 0) rfl) T.c_Dice T.m_Dice_below (ok_Dice_below T) (hr.mono (by decide)) T.b_Dice_below passE (pa_cons (pe_op op_add (pe_callB my_lenQ (by rfl) T.z_len PySem.boot_len (pa_cons (pe_fld (pv 0) rfl) pa_nil)) pe_int) pa_nil)) (pa_cons (pv 3) pa_nil)))))
        pss_nil)
      (pss_one (ps_ret (pv 3))))), ?_⟩
    have hdl := ok.len
    walk_at "rd"
    refine st_call (of_Queue_put ⟨a.q, s.q, x, p, _, rfl, (w.rot 1 3).now, ok.q, hz, fun hp H1 w1 => ?_, k2⟩)
    have w2 := w.tr w1
    clear w1
    have k1 := k1 hp
    unfold putO at k1
    walk_at "rd"
    refine xIf_2 (fun h => ?_) (fun h => ?_)
    · have h : s.mixed = true := h
      rw [if_pos h] at k1
      walk_at "rd"
      refine st_call (of_Dice_below ⟨a.dc, a.ddx, s.num, _, _, rfl, (w2.rot 4 1).now, ok.num, fun _ H2 w3 => ?_, fun z => absurd (by rw [List.length_map]; omega) z⟩)
      have w4 := w2.tr w3
      clear w3
      rw [List.length_map]
      have hd := dB_bd s.num (m := (s.deck.length : Int) + 1) (by omega)
      walk_at "rd"
      refine st_ins w4 5 rfl (by rw [List.length_map]; exact szL (by omega)) hd.1 (by omega) fun H3 w5 => ?_
      have e1 := insP_map V.int s.deck (dB s.num ((s.deck.length : Int) + 1)).toNat ((s.q.tunes.length : Int) + 1)
      unfold insP at e1
      rw [← e1] at w5
      exact ⟨_, rfl, k1 H3 (w5.pick 6 [4, 1, 2, 3, 0, 5])⟩
    · have h : ¬ s.mixed = true := by rw [show s.mixed = false from h]; exact Bool.false_ne_true
      rw [if_neg h] at k1
      exact ⟨_, rfl, k1 H1 (w2.pick 6 [3, 0, 1, 2, 4, 5])⟩
theorem ok_Order_remove (T : Txt K mg A) : FnOk P w K mg base (L2.CX P w) 3 A.f_Order_remove A.d_Order_remove P_Order_remove (sp_Order_remove A) := by
  refine T.F_Order_remove.okX sc_Order_remove (fun vs H Q E h => ?_) (fun cdv Ar outer s H vs Q E hr h => ?_)
  · unfold sp_Order_remove at h; obtain ⟨a, s, e, now, R, rfl, _⟩ := h; rfl
  · unfold sp_Order_remove at h; obtain ⟨a, s, e, now, R, rfl, w, ok, k1, k2⟩ := h
    refine ⟨_, (pss_cons (ps_set (i := 3) sc_Order_remove.nd rfl (by first | exact Or.inl rfl | exact Or.inr rfl) (pe_slice my_sl (my_meth0 (pe_fld (pv 0) rfl) T.c_Queue T.m_Queue_entries (ok_Queue_entries T) (hr.mono (by decide)) T.b_Queue_entries passE) (po_some (pe_op op_add (my_meth (pe_fld (pv 0) rfl) T.c_Queue T.m_Queue_place (ok_Queue_place T) (hr.mono (by decide)) T.b_Queue_place passE (pa_cons (pv 1) pa_nil)) pe_int)) po_none))
      (pss_cons (ps_expr (my_meth (pe_fld (pv 0) rfl) T.c_Queue T.m_Queue_remove (ok_Queue_remove T) (hr.mono (by decide)) T.b_Queue_remove passE (pa_cons (pv 1) pa_nil)))
      (pss_cons (my_if (pt_cmpR op_in_seq (pv 1) (pe_fld (pv 0) rfl) (by rfl))
        (pss_one (ps_expr (pe_bm PySem.F.plainAttrs_list PySem.F.slot_list_remove PySem.F.type_list_remove my_remove (pe_fld (pv 0) rfl) (pa_cons (pv 1) pa_nil))))
        pss_nil)
      (pss_one (my_if (PW.pt (my_or (pt_cmpR op_eq (pv 1) (pv 2) (nomark _)) (pw_or1 (PW.pt (my_and (pt_val (pe_fld (pv 0) rfl)) (pw_and1 (pt_cmpR op_eq (pv 1) (pe_fld (pv 0) rfl) (nomark _))))))))
        (pss_cons (my_fld (pv 0) pe_bl)
      (pss_one (my_fld (pv 0) (my_ifExp (pt_truth (pv 3) (by intro _; rfl)) (pe_ix ix_list (pv 3) pe_int (fun _ _ => rfl)) pe_non))))
        pss_nil))))), ?_⟩
    have hq := ok.q.sz
    walk_at "rd"
    refine st_call (of_Queue_entries ⟨a.q, s.q, _, rfl, (w.rot 1 3).now, fun H1 l w1 => ?_⟩)
    have w2 := w.tr w1
    clear w1
    walk_at "rd"
    refine st_call (of_Queue_place ⟨a.q, s.q, e, _, rfl, (w2.rot 1 3).now, fun he => ?_, fun he => k2 he H1 (w2.pick 7 [4, 1, 2, 3, 5, 6])⟩)
    have k1 := k1 he
    have hil := List.idxOf_lt_length_iff.mpr he
    walk_at "rd"
    refine st_new w2 fun m H2 w3 => ?_
    have ec : cutV (s.q.turn.map V.int) (some ((s.q.turn.idxOf e : Int) + 1)) none = (s.q.turn.drop (s.q.turn.idxOf e + 1)).map V.int := by
      unfold cutV
      rw [HT.sIx_none, show ((s.q.turn.idxOf e : Int) + 1) = ((s.q.turn.idxOf e + 1 : Nat) : Int) by push_cast; rfl, HT.sIx_nat, List.length_map, Nat.min_eq_left (by omega), ← List.map_drop, List.take_of_length_le (by rw [List.length_map, List.length_drop]; omega)]
    rw [ec] at w3
    walk_at "rd"
    refine st_call (of_Queue_remove ⟨a.q, s.q, e, _, rfl, (w3.rot 2 3).now, fun _ H3 w4 => ?_, fun z => absurd he z⟩)
    have w5 := w3.tr w4
    clear w4 w3 w2
    have w6 : W H H3 ((m, .lst ((s.q.turn.drop (s.q.turn.idxOf e + 1)).map V.int)) :: (orL A a { s with q := s.q.rem e } ++ R)) := w5.pick 8 [3, 5, 0, 1, 2, 6, 7]
    clear w5
    walk_at "rd"
    refine xIf_2 (fun h => ?_) (fun h => ?_)
    case' refine_1 =>
      have hm : e ∈ s.deck := by rw [inV_ints] at h; exact of_decide_eq_true h
      walk_at "rd"
      refine st_rem w6 6 rfl hm fun H4 w7 => ?_
    case' refine_2 =>
      have hm : e ∉ s.deck := by rw [inV_ints] at h; exact of_decide_eq_false h
      obtain ⟨H4, eH4⟩ : ∃ H4, H4 = H3 := ⟨_, rfl⟩
      have w7 : W H H4 ((m, .lst ((s.q.turn.drop (s.q.turn.idxOf e + 1)).map V.int)) :: (orL A a { s with q := s.q.rem e, deck := s.deck.erase e } ++ R)) := by
        rw [eH4, List.erase_of_not_mem hm]
        exact w6
      rw [← eH4]
    all_goals
      replace w7 : W H H4 ((m, .lst ((s.q.turn.drop (s.q.turn.idxOf e + 1)).map V.int)) :: (orL A a { s with q := s.q.rem e, deck := s.deck.erase e } ++ R)) := w7
      have sc1 := scal_io e now
      have sc2 := scal_io e s.behind
      walk_at "rd"
      rw [do_eq]
      by_cases hc : now = some e ∨ (s.gone = true ∧ s.behind = some e)
      case' neg =>
        refine xIf_F (decide_eq_false fun z => hc (.inl z)) ?_
        walk_at "rd"
        refine xIf_2 (fun h => ?_) (fun h => ?_)
        case' refine_1 =>
          walk_at "rd"
          rw [do_eq]
          refine xIf_F (decide_eq_false fun z => hc (.inr ⟨h, z⟩)) ?_
        case' refine_2 =>
          refine xIf_F rfl ?_
        all_goals
          refine k1 _ ?_
          unfold remO
          rw [if_neg hc, if_neg hc]
          exact w7.drop1
      case' pos =>
        by_cases hn : now = some e
        case' pos =>
          refine xIf_T (decide_eq_true hn) ?_
          refine xIf_T rfl ?_
        case' neg =>
          have hc2 := hc.resolve_left hn
          refine xIf_F (decide_eq_false hn) ?_
          walk_at "rd"
          refine xIf_T hc2.1 ?_
          walk_at "rd"
          rw [do_eq]
          refine xIf_T (decide_eq_true hc2.2) ?_
        all_goals
          walk_at "rd"
          refine sf_Order_is_gone T w7 1 rfl fun H5 w8 => ?_
          walk_at "rd"
          have eb : behindOf s.q.turn e = (s.q.turn.drop (s.q.turn.idxOf e + 1)).head? := by
            unfold behindOf
            rw [List.head?_drop]
          unfold remO at k1
          rw [if_pos hc, if_pos hc, eb] at k1
          generalize s.q.turn.drop (s.q.turn.idxOf e + 1) = lt at *
          cases lt with
          | nil =>
            refine xIf_F rfl ?_
            walk_at "rd"
            exact sf_Order_behind T w8 1 rfl fun H6 w9 => k1 H6 (W.drop1 w9)
          | cons x r =>
            refine xIf_T rfl ?_
            walk_at "rd"
            refine ⟨atI_nat rfl, ?_⟩
            walk_at "rd"
            exact sf_Order_behind T w8 1 rfl fun H6 w9 => k1 H6 (W.drop1 w9)
theorem idx_get {turn : List Int} {b : Int} (h : b ∈ turn) : turn[turn.idxOf b]? = some b := by
  have hl := List.idxOf_lt_length_iff.mpr h
  rw [List.getElem?_eq_getElem hl, List.getElem_idxOf hl]
theorem ok_Order_next_plain (T : Txt K mg A) : FnOk P w K mg base (L2.CX P w) 2 A.f_Order_next_plain A.d_Order_next_plain P_Order_next_plain (sp_Order_next_plain A) := by
  refine T.F_Order_next_plain.okX sc_Order_next_plain (fun vs H Q E h => ?_) (fun cdv Ar outer s H vs Q E hr h => ?_)
  · unfold sp_Order_next_plain at h; obtain ⟨a, s, e, R, rfl, _⟩ := h; rfl
  · unfold sp_Order_next_plain at h; obtain ⟨a, s, e, R, rfl, w, ok, k⟩ := h
    refine ⟨_, (pss_cons (ps_set (i := 2) sc_Order_next_plain.nd rfl (by first | exact Or.inl rfl | exact Or.inr rfl) (my_meth0 (pe_fld (pv 0) rfl) T.c_Queue T.m_Queue_entries (ok_Queue_entries T) (hr.mono (by decide)) T.b_Queue_entries passE))
      (pss_cons (ps_set (i := 3) sc_Order_next_plain.nd rfl (by first | exact Or.inl rfl | exact Or.inr rfl) (my_ifExp (pt_cmpR op_in_seq (pv 1) (pv 2) (by rfl)) (pe_op op_add (pe_bm PySem.F.plainAttrs_list PySem.F.slot_list_index PySem.F.type_list_index my_index (pv 2) (pa_cons (pv 1) pa_nil)) pe_int) pe_int))
      (pss_cons (my_if (PW.pt (my_and (pt_val (pe_fld (pv 0) rfl)) (pw_and1 (pt_cmpR op_notIn_seq (pv 1) (pv 2) (by rfl)))))
        (pss_one (ps_set (i := 3) sc_Order_next_plain.nd rfl (by first | exact Or.inl rfl | exact Or.inr rfl) (my_ifExp (pt_cmpR op_isN (pe_fld (pv 0) rfl) pe_non (nomark _)) (pe_callB my_lenQ (by rfl) T.z_len PySem.boot_len (pa_cons (pv 2) pa_nil)) (pe_bm PySem.F.plainAttrs_list PySem.F.slot_list_index PySem.F.type_list_index my_index (pv 2) (pa_cons (pe_fld (pv 0) rfl) pa_nil)))))
        pss_nil)
      (pss_cons (my_if (pt_cmpR op_lt (pv 3) (pe_callB my_lenQ (by rfl) T.z_len PySem.boot_len (pa_cons (pv 2) pa_nil)) (nomark _))
        (pss_one (ps_ret (pe_ix ix_list (pv 2) (pv 3) (fun _ _ => rfl))))
        pss_nil)
      (pss_one (ps_ret (my_ifExp (PW.pt (my_and (pt_cmpR op_eq (pe_fld (pv 0) rfl) pe_str (nomark _)) (pw_and1 (pt_truth (pv 2) (by intro _; rfl))))) (pe_ix ix_list (pv 2) pe_int (fun _ _ => rfl)) pe_non))))))), ?_⟩
    walk_at "rd"
    refine st_call (of_Queue_entries ⟨a.q, s.q, _, rfl, (w.rot 1 3).now, fun H1 l w1 => ?_⟩)
    have w2 := w.tr w1
    have w3 : W H H1 ((l, .lst (s.q.turn.map V.int)) :: (orL A a s ++ R)) := w2.pick 7 [0, 4, 1, 2, 3, 5, 6]
    clear w2 w1
    have k := k H1 w3.drop1
    have fl := flat_oV e
    have fb := flat_oV s.behind
    have hq := ok.q.sz
    walk_at "rd"
    by_cases hin : ∃ x, e = some x ∧ x ∈ s.q.turn
    case' pos =>
      refine xIf_T (by show inV (oV e) (s.q.turn.map V.int) = true; rw [inV_o]; exact decide_eq_true hin) ?_
      obtain ⟨x, rfl, hx⟩ := hin
      have hnt : (!inV (oV (some x)) (s.q.turn.map V.int)) = false := by rw [inV_o, decide_eq_true ⟨x, rfl, hx⟩]; rfl
      walk_at "rd"
      refine st_idxI (SqL.of (w3.get 0 rfl)) hx ?_
      walk_at "rd"
      obtain ⟨pl, epl, j, hj, hfr⟩ : ∃ pl : Int, pl = (s.q.turn.idxOf x : Int) + 1 ∧ ∃ j : Nat, pl = j ∧ fromO s (some x) = s.q.turn[j]? := ⟨_, rfl, s.q.turn.idxOf x + 1, by push_cast; rfl, by unfold fromO; simp only; rw [if_pos hx]; rfl⟩
      dsimp only
      rw [← epl]
      refine xIf_2 (fun h => ?_) (fun h => ?_)
      case' refine_1 =>
        walk_at "rd"
        refine xIf_F hnt ?_
      case' refine_2 =>
        refine xIf_F rfl ?_
    case' neg =>
      have hni : inV (oV e) (s.q.turn.map V.int) = false := by rw [inV_o]; exact decide_eq_false hin
      refine xIf_F hni ?_
      walk_at "rd"
      have hfo : fromO s e = if s.gone = true then s.behind else s.q.turn.head? := by
        unfold fromO
        cases e with
        | none => rfl
        | some x =>
          simp only
          rw [if_neg (fun z => hin ⟨x, rfl, z⟩)]
      refine xIf_2 (fun h => ?_) (fun h => ?_)
      case' refine_1 =>
        have hg : s.gone = true := h
        rw [if_pos hg] at hfo
        have hbh := ok.bh hg
        walk_at "rd"
        refine xIf_T (by show (!inV (oV e) (s.q.turn.map V.int)) = true; rw [hni]; rfl) ?_
        walk_at "rd"
        rcases hb : s.behind with _ | b
        case' none =>
          refine xIf_T rfl ?_
          walk_at "rd"
          obtain ⟨pl, epl, j, hj, hfr⟩ : ∃ pl : Int, pl = ((s.q.turn.map V.int).length : Int) ∧ ∃ j : Nat, pl = j ∧ fromO s e = s.q.turn[j]? := ⟨_, rfl, s.q.turn.length, by rw [List.length_map], by rw [hfo, hb, List.getElem?_eq_none (Nat.le_refl _)]⟩
          rw [← epl]
          rw [List.length_map] at epl
        case' some =>
          refine xIf_F rfl ?_
          walk_at "rd"
          refine st_idxV (SqL.of (w3.get 0 rfl)) (by rw [hb]; rfl) (hbh b hb) ?_
          obtain ⟨pl, epl, j, hj, hfr⟩ : ∃ pl : Int, pl = (s.q.turn.idxOf b : Int) ∧ ∃ j : Nat, pl = j ∧ fromO s e = s.q.turn[j]? := ⟨_, rfl, s.q.turn.idxOf b, rfl, by rw [hfo, hb, idx_get (hbh b hb)]⟩
          rw [← epl]
      case' refine_2 =>
        have hg : ¬ s.gone = true := by rw [show s.gone = false from h]; exact Bool.false_ne_true
        rw [if_neg hg] at hfo
        refine xIf_F rfl ?_
        obtain ⟨j, hj0, hfr⟩ : ∃ j : Nat, j = 0 ∧ fromO s e = s.q.turn[j]? := ⟨0, rfl, by rw [hfo, List.head?_eq_getElem?]⟩
    all_goals
      walk_at "rd"
      unfold plainN at k
      rw [hfr] at k
      first | rw [hj] | skip
      cases ht : s.q.turn[j]? with
      | some y =>
        have hjl := (List.getElem?_eq_some_iff.mp ht).1
        rw [ht] at k
        refine xIf_T (decide_eq_true (by first | omega | (rw [List.length_map]; omega))) ?_
        walk_at "rd"
        exact ⟨at_of (j := j) (by omega) (by rw [List.getElem?_map, ht]; rfl), k⟩
      | none =>
        have hjl := List.getElem?_eq_none_iff.mp ht
        rw [ht] at k
        refine xIf_F (decide_eq_false (by first | omega | (rw [List.length_map]; omega))) ?_
        walk_at "rd"
        refine xIf_2 (fun h => ?_) (fun h => ?_)
        · have ha : s.again = "all" := ds_t h
          simp only [if_pos ha] at k
          walk_at "rd"
          generalize s.q.turn = tn at *
          cases tn with
          | nil => exact xIf_F rfl k
          | cons y r =>
            refine xIf_T rfl ?_
            walk_at "rd"
            exact ⟨atI_nat rfl, k⟩
        · have ha : ¬ s.again = "all" := ds_f h
          simp only [if_neg ha] at k
          exact xIf_F rfl k
theorem cut_m1 {xs : List Int} (h : 1 ≤ xs.length) : cutV (xs.map V.int) (some (-1)) none = (xs.drop (xs.length - 1)).map V.int := by
  unfold cutV
  rw [HT.sIx_none, List.length_map, show HT.sIx xs.length 0 (some (-1)) = xs.length - 1 from by unfold HT.sIx; simp only; rw [if_pos (by decide)]; omega, ← List.map_drop, List.take_of_length_le (by rw [List.length_map, List.length_drop]; omega)]
theorem cut_1m1 {xs : List Int} (h : 2 ≤ xs.length) : cutV (xs.map V.int) (some 1) (some (-1)) = ((xs.drop 1).take (xs.length - 2)).map V.int := by
  unfold cutV
  rw [List.length_map, show HT.sIx xs.length 0 (some 1) = 1 from by unfold HT.sIx; simp only; rw [if_neg (by decide)]; show min 1 _ = 1; omega,
    show HT.sIx xs.length xs.length (some (-1)) = xs.length - 1 from by unfold HT.sIx; simp only; rw [if_pos (by decide)]; omega, ← List.map_drop, ← List.map_take]
  rfl
theorem cut_n1 {xs : List Int} (h : 1 ≤ xs.length) : cutV (xs.map V.int) none (some 1) = (xs.take 1).map V.int := by
  unfold cutV
  rw [List.length_map, HT.sIx_none, show HT.sIx xs.length xs.length (some 1) = 1 from by unfold HT.sIx; simp only; rw [if_neg (by decide)]; show min 1 _ = 1; omega, ← List.map_drop, ← List.map_take]
  rfl
theorem ok_Order_next_mixed (T : Txt K mg A) : FnOk P w K mg base (L2.CX P w) 3 A.f_Order_next_mixed A.d_Order_next_mixed P_Order_next_mixed (sp_Order_next_mixed A) := by
  refine T.F_Order_next_mixed.okX sc_Order_next_mixed (fun vs H Q E h => ?_) (fun cdv Ar outer s H vs Q E hr h => ?_)
  · unfold sp_Order_next_mixed at h; obtain ⟨a, s, e, R, rfl, _⟩ := h; rfl
  · unfold sp_Order_next_mixed at h; obtain ⟨a, s, e, R, rfl, w, ok, k⟩ := h
    refine ⟨_, (pss_cons (my_if (PW.pt (my_and (pt_not (pt_truth (pe_fld (pv 0) rfl) (by intro _; rfl))) (pw_and1 (pt_cmpR op_eq (pe_fld (pv 0) rfl) pe_str (nomark _)))))
        (pss_cons (my_fld (pv 0) (my_call (ok_mixed T) (hr.mono (by decide)) (by rfl) T.g_mixed T.k_mixed T.b_mixed passE (pa_cons (pe_fld (pv 0) rfl) (pa_cons (my_meth0 (pe_fld (pv 0) rfl) T.c_Queue T.m_Queue_entries (ok_Queue_entries T) (hr.mono (by decide)) T.b_Queue_entries passE) pa_nil))))
      (pss_one (my_if (PW.pt (my_and (pt_cmpR op_gt (pe_callB my_lenQ (by rfl) T.z_len PySem.boot_len (pa_cons (pe_fld (pv 0) rfl) pa_nil)) pe_int (nomark _)) (pw_and1 (pt_cmpR op_eq (pe_ix ix_list (pe_fld (pv 0) rfl) pe_int (fun _ _ => rfl)) (pv 1) (nomark _)))))
        (pss_one (my_fld (pv 0) (pe_op my_cat (pe_op my_cat (pe_slice my_sl (pe_fld (pv 0) rfl) (po_some (pe_un un_neg pe_int)) po_none) (pe_slice my_sl (pe_fld (pv 0) rfl) (po_some pe_int) (po_some (pe_un un_neg pe_int)))) (pe_slice my_sl (pe_fld (pv 0) rfl) po_none (po_some pe_int)))))
        pss_nil)))
        pss_nil)
      (pss_one (ps_ret (my_ifExp (pt_truth (pe_fld (pv 0) rfl) (by intro _; rfl)) (pe_bm PySem.F.plainAttrs_list PySem.F.slot_list_pop PySem.F.type_list_pop my_popAt (pe_fld (pv 0) rfl) (pa_cons pe_int pa_nil)) pe_non)))), ?_⟩
    have hq := ok.q.sz
    have hdl := ok.len
    have hnum := ok.num
    have sc1 := fun x => scal_io x e
    obtain ⟨q, num, mixed, again, deck, gone, behind⟩ := s
    have hq : q.turn.length ≤ 12 := hq
    have hdl : deck.length ≤ 12 := hdl
    have hnum : 0 ≤ num ∧ num < 6075 := hnum
    clear ok
    cases deck with
    | cons x r =>
      have er : refill ⟨q, num, mixed, again, x :: r, gone, behind⟩ e = ⟨q, num, mixed, again, x :: r, gone, behind⟩ := if_neg (fun z => nomatch z.1)
      rw [er] at k
      walk_at "rd"
      refine xIf_F rfl ?_
      refine xIf_F rfl ?_
      walk_at "rd"
      refine xIf_T rfl ?_
      walk_at "rd"
      exact st_pop0 w 5 rfl fun H1 w1 => k H1 a.k w1
    | nil =>
      walk_at "rd"
      refine xIf_T rfl ?_
      walk_at "rd"
      refine xIf_2 (fun h => ?_) (fun h => ?_)
      · have ha : again = "all" := ds_t h
        have er : refill ⟨q, num, mixed, again, [], gone, behind⟩ e = ⟨q, (mixL num q.turn).1, mixed, again, if 1 < (mixL num q.turn).2.length ∧ (mixL num q.turn).2.head? = e then swE (mixL num q.turn).2 else (mixL num q.turn).2, gone, behind⟩ := if_pos ⟨rfl, ha⟩
        rw [er] at k
        walk_at "rd"
        refine st_call (of_Queue_entries ⟨a.q, q, _, rfl, (w.rot 1 3).now, fun H1 l w1 => ?_⟩)
        have w2 := w.tr w1
        clear w1
        walk_at "rd"
        refine st_call (of_mixed ⟨a.dc, a.ddx, l, num, q.turn.map V.int, _, rfl, (w2.rot 5 1).now, hnum, fun _ _ v => SqL.of (v.get 0 rfl), by rw [List.length_map]; omega, fun H3 dk w4 => ?_⟩)
        have w5 := w2.tr w4
        clear w4 w2
        rw [mixL_map] at w5
        have hml := mixL_len num q.turn
        generalize mixL num q.turn = mm at *
        obtain ⟨n', ys⟩ := mm
        have hml : ys.length = q.turn.length := hml
        dsimp only at k
        walk_at "rd"
        refine sf_Order_deck T w5 6 rfl fun H4 w6 => ?_
        have w7 : W H H4 (orL A { a with k := dk } ⟨q, n', mixed, again, ys, gone, behind⟩ ++ R) := w6.pick 8 [6, 3, 4, 5, 1, 0]
        clear w6 w5
        walk_at "rd"
        rcases ys with _ | ⟨y, _ | ⟨z, r⟩⟩
        · refine xIf_F rfl ?_
          refine xIf_F rfl ?_
          walk_at "rd"
          refine xIf_F rfl ?_
          rw [if_neg (fun z => absurd z.1 (by decide))] at k
          exact k H4 dk w7
        · refine xIf_F rfl ?_
          refine xIf_F rfl ?_
          walk_at "rd"
          refine xIf_T rfl ?_
          walk_at "rd"
          rw [if_neg (fun z => absurd z.1 (by show ¬ 1 < 1; decide))] at k
          exact st_pop0 w7 5 rfl fun H5 w8 => k H5 dk w8
        · refine xIf_T (decide_eq_true (by show (1 : Int) < ((r.map V.int).length + 1 + 1 : Nat); omega)) ?_
          have sc2 := sc1 y
          have hlen : (y :: z :: r).length = q.turn.length := hml
          rw [List.length_cons, List.length_cons] at hlen
          walk_at "rd"
          refine ⟨atI_nat rfl, ?_⟩
          walk_at "rd"
          rw [do_eq]
          by_cases he : e = some y
          · refine xIf_T (decide_eq_true he) ?_
            rw [if_pos ⟨by rw [List.length_cons, List.length_cons]; omega, he.symm⟩] at k
            unfold swE at k
            have hle : 2 ≤ (y :: z :: r).length := by rw [List.length_cons, List.length_cons]; omega
            generalize hys : y :: z :: r = ys at *
            have w7 : W H H4 (orL A { a with k := dk } ⟨q, n', mixed, again, ys, gone, behind⟩ ++ R) := w7
            walk_at "rd"
            refine st_new w7 fun l1 H5 w8 => ?_
            replace w8 : W H H5 ((l1, .lst ((ys.drop (ys.length - 1)).map V.int)) :: (orL A { a with k := dk } ⟨q, n', mixed, again, ys, gone, behind⟩ ++ R)) := by
              rw [← cut_m1 (by omega)]; exact w8
            walk_at "rd"
            refine st_new w8 fun l2 H6 w9 => ?_
            replace w9 : W H H6 ((l2, .lst (((ys.drop 1).take (ys.length - 2)).map V.int)) :: (l1, .lst ((ys.drop (ys.length - 1)).map V.int)) :: (orL A { a with k := dk } ⟨q, n', mixed, again, ys, gone, behind⟩ ++ R)) := by
              rw [← cut_1m1 hle]; exact w9
            walk_at "rd"
            refine st_new w9 fun l3 H7 w10 => ?_
            walk_at "rd"
            refine st_new w10 fun l4 H8 w11 => ?_
            replace w11 : W H H8 ((l4, .lst ((ys.take 1).map V.int)) :: (l3, .lst ((ys.drop (ys.length - 1)).map V.int ++ ((ys.drop 1).take (ys.length - 2)).map V.int)) :: (l2, .lst (((ys.drop 1).take (ys.length - 2)).map V.int)) :: (l1, .lst ((ys.drop (ys.length - 1)).map V.int)) :: (orL A { a with k := dk } ⟨q, n', mixed, again, ys, gone, behind⟩ ++ R)) := by
              rw [← cut_n1 (by omega)]; exact w11
            walk_at "rd"
            refine st_new w11 fun l5 H9 w12 => ?_
            walk_at "rd"
            refine sf_Order_deck T w12 5 rfl fun H10 w13 => ?_
            rw [← List.map_append, ← List.map_append] at w13
            have w14 : W H H10 (orL A { a with k := l5 } ⟨q, n', mixed, again, ys.drop (ys.length - 1) ++ (ys.drop 1).take (ys.length - 2) ++ ys.take 1, gone, behind⟩ ++ R) := w13.pick 11 [5, 6, 7, 8, 9, 0]
            clear w13 w12 w11 w10 w9 w8 w7
            have hnn : ys.drop (ys.length - 1) ++ (ys.drop 1).take (ys.length - 2) ++ ys.take 1 ≠ [] := fun z => by
              have := congrArg List.length z
              simp only [List.length_append, List.length_drop, List.length_take, List.length_nil] at this
              omega
            generalize ys.drop (ys.length - 1) ++ (ys.drop 1).take (ys.length - 2) ++ ys.take 1 = ds at *
            cases ds with
            | nil => exact absurd rfl hnn
            | cons d ds =>
              walk_at "rd"
              refine xIf_T rfl ?_
              walk_at "rd"
              exact st_pop0 w14 5 rfl fun H11 w15 => k H11 l5 w15
          · refine xIf_F (decide_eq_false he) ?_
            rw [if_neg (fun z => he z.2.symm)] at k
            walk_at "rd"
            refine xIf_T rfl ?_
            walk_at "rd"
            exact st_pop0 w7 5 rfl fun H5 w8 => k H5 dk w8
      · have ha : again ≠ "all" := ds_f h
        have er : refill ⟨q, num, mixed, again, [], gone, behind⟩ e = ⟨q, num, mixed, again, [], gone, behind⟩ := if_neg (fun z => ha z.2)
        rw [er] at k
        walk_at "rd"
        refine xIf_F rfl ?_
        exact k H a.k w
theorem ok_Order_skip (T : Txt K mg A) : FnOk P w K mg base (L2.CX P w) 4 A.f_Order_skip A.d_Order_skip P_Order_skip (sp_Order_skip A) := by
  refine T.F_Order_skip.okX sc_Order_skip (fun vs H Q E h => ?_) (fun cdv Ar outer s H vs Q E hr h => ?_)
  · unfold sp_Order_skip at h; obtain ⟨a, s, e, R, rfl, _⟩ := h; rfl
  · unfold sp_Order_skip at h; obtain ⟨a, s, e, R, rfl, w, ok, k⟩ := h
    refine ⟨_, (pss_one (ps_ret (my_ifExp (pt_val (pe_fld (pv 0) rfl)) (my_meth (pv 0) T.c_Order T.m_Order_next_mixed (ok_Order_next_mixed T) (hr.mono (by decide)) T.b_Order_next_mixed passE (pa_cons (pv 1) pa_nil)) (my_meth (pv 0) T.c_Order T.m_Order_next_plain (ok_Order_next_plain T) (hr.mono (by decide)) T.b_Order_next_plain passE (pa_cons (pv 1) pa_nil))))), ?_⟩
    unfold skipV skipS at k
    walk_at "rd"
    refine xIf_2 (fun h => ?_) (fun h => ?_)
    · have h : s.mixed = true := h
      rw [if_pos h, if_pos h] at k
      walk_at "rd"
      exact st_call (of_Order_next_mixed ⟨a, s, e, R, rfl, w, ok, k⟩)
    · have h : ¬ s.mixed = true := by rw [show s.mixed = false from h]; exact Bool.false_ne_true
      rw [if_neg h, if_neg h] at k
      walk_at "rd"
      exact st_call (of_Order_next_plain ⟨a, s, e, R, rfl, w, ok, fun H1 w1 => k H1 a.k w1⟩)
theorem ok_Order_first (T : Txt K mg A) : FnOk P w K mg base (L2.CX P w) 3 A.f_Order_first A.d_Order_first P_Order_first (sp_Order_first A) := by
  refine T.F_Order_first.okX sc_Order_first (fun vs H Q E h => ?_) (fun cdv Ar outer s H vs Q E hr h => ?_)
  · unfold sp_Order_first at h; obtain ⟨a, s, R, rfl, _⟩ := h; rfl
  · unfold sp_Order_first at h; obtain ⟨a, s, R, rfl, w, ok, k⟩ := h
    refine ⟨_, (pss_cons (my_if (pt_not (pt_val (pe_fld (pv 0) rfl)))
        (pss_one (ps_ret (my_ifExp (pt_truth (my_meth0 (pe_fld (pv 0) rfl) T.c_Queue T.m_Queue_entries (ok_Queue_entries T) (hr.mono (by decide)) T.b_Queue_entries passE) (by intro _; rfl)) (pe_ix ix_list (my_meth0 (pe_fld (pv 0) rfl) T.c_Queue T.m_Queue_entries (ok_Queue_entries T) (hr.mono (by decide)) T.b_Queue_entries passE) pe_int (fun _ _ => rfl)) pe_non)))
        pss_nil)
      (pss_cons (my_if (pt_not (pt_truth (pe_fld (pv 0) rfl) (by intro _; rfl)))
        (pss_one (my_fld (pv 0) (my_call (ok_mixed T) (hr.mono (by decide)) (by rfl) T.g_mixed T.k_mixed T.b_mixed passE (pa_cons (pe_fld (pv 0) rfl) (pa_cons (my_meth0 (pe_fld (pv 0) rfl) T.c_Queue T.m_Queue_entries (ok_Queue_entries T) (hr.mono (by decide)) T.b_Queue_entries passE) pa_nil)))))
        pss_nil)
      (pss_one (ps_ret (my_ifExp (pt_truth (pe_fld (pv 0) rfl) (by intro _; rfl)) (pe_bm PySem.F.plainAttrs_list PySem.F.slot_list_pop PySem.F.type_list_pop my_popAt (pe_fld (pv 0) rfl) (pa_cons pe_int pa_nil)) pe_non))))), ?_⟩
    have hq := ok.q.sz
    have hnum := ok.num
    obtain ⟨q, num, mixed, again, deck, gone, behind⟩ := s
    have hq : q.turn.length ≤ 12 := hq
    have hnum : 0 ≤ num ∧ num < 6075 := hnum
    clear ok
    unfold firstV firstS at k
    cases mixed with
    | false =>
      walk_at "rd"
      refine xIf_T rfl ?_
      walk_at "rd"
      refine st_call (of_Queue_entries ⟨a.q, q, _, rfl, (w.rot 1 3).now, fun H1 l w1 => ?_⟩)
      have w2 := w.tr w1
      clear w1
      walk_at "rd"
      have w3 : W H H1 (orL A a ⟨q, num, false, again, deck, gone, behind⟩ ++ R) := w2.pick 7 [4, 1, 2, 3, 5, 6]
      obtain ⟨tunes, turn⟩ := q
      cases turn with
      | nil =>
        refine xIf_F rfl ?_
        exact k H1 a.k w3
      | cons x r =>
        refine xIf_T rfl ?_
        walk_at "rd"
        refine st_call (of_Queue_entries ⟨a.q, ⟨tunes, x :: r⟩, _, rfl, (w3.rot 1 3).now, fun H2 l2 w4 => ?_⟩)
        have w5 := w3.tr w4
        clear w4
        walk_at "rd"
        refine ⟨atI_nat rfl, ?_⟩
        exact k H2 a.k (w5.pick 7 [4, 1, 2, 3, 5, 6])
    | true =>
      rw [if_pos rfl, if_pos rfl] at k
      walk_at "rd"
      refine xIf_F rfl ?_
      walk_at "rd"
      cases deck with
      | cons x r =>
        have er : fillF ⟨q, num, true, again, x :: r, gone, behind⟩ = ⟨q, num, true, again, x :: r, gone, behind⟩ := if_neg (fun z => nomatch z)
        rw [er] at k
        refine xIf_F rfl ?_
        walk_at "rd"
        refine xIf_T rfl ?_
        walk_at "rd"
        exact st_pop0 w 5 rfl fun H1 w1 => k H1 a.k w1
      | nil =>
        have er : fillF ⟨q, num, true, again, [], gone, behind⟩ = ⟨q, (mixL num q.turn).1, true, again, (mixL num q.turn).2, gone, behind⟩ := if_pos rfl
        rw [er] at k
        refine xIf_T rfl ?_
        walk_at "rd"
        refine st_call (of_Queue_entries ⟨a.q, q, _, rfl, (w.rot 1 3).now, fun H1 l w1 => ?_⟩)
        have w2 := w.tr w1
        clear w1
        walk_at "rd"
        refine st_call (of_mixed ⟨a.dc, a.ddx, l, num, q.turn.map V.int, _, rfl, (w2.rot 5 1).now, hnum, fun _ _ v => SqL.of (v.get 0 rfl), by rw [List.length_map]; omega, fun H3 dk w4 => ?_⟩)
        have w5 := w2.tr w4
        clear w4 w2
        rw [mixL_map] at w5
        generalize mixL num q.turn = mm at *
        obtain ⟨n', ys⟩ := mm
        dsimp only at k
        walk_at "rd"
        refine sf_Order_deck T w5 6 rfl fun H4 w6 => ?_
        have w7 : W H H4 (orL A { a with k := dk } ⟨q, n', true, again, ys, gone, behind⟩ ++ R) := w6.pick 8 [6, 3, 4, 5, 1, 0]
        clear w6 w5
        walk_at "rd"
        cases ys with
        | nil =>
          refine xIf_F rfl ?_
          exact k H4 dk w7
        | cons y r =>
          refine xIf_T rfl ?_
          walk_at "rd"
          exact st_pop0 w7 5 rfl fun H5 w8 => k H5 dk w8
theorem ok_Order_began (T : Txt K mg A) : FnOk P w K mg base (L2.CX P w) 2 A.f_Order_began A.d_Order_began P_Order_began (sp_Order_began A) := by
  refine T.F_Order_began.okX sc_Order_began (fun vs H Q E h => ?_) (fun cdv Ar outer s H vs Q E hr h => ?_)
  · unfold sp_Order_began at h; obtain ⟨a, s, e, R, rfl, _⟩ := h; rfl
  · unfold sp_Order_began at h; obtain ⟨a, s, e, R, rfl, w, ok, k⟩ := h
    refine ⟨_, (pss_cons (my_if (pt_cmpR op_in_seq (pv 1) (my_meth0 (pe_fld (pv 0) rfl) T.c_Queue T.m_Queue_entries (ok_Queue_entries T) (hr.mono (by decide)) T.b_Queue_entries passE) (by rfl))
        (pss_one (my_fld (pv 0) pe_bl))
        pss_nil)
      (pss_one (my_if (pt_cmpR op_in_seq (pv 1) (pe_fld (pv 0) rfl) (by rfl))
        (pss_one (ps_expr (pe_bm PySem.F.plainAttrs_list PySem.F.slot_list_remove PySem.F.type_list_remove my_remove (pe_fld (pv 0) rfl) (pa_cons (pv 1) pa_nil))))
        pss_nil))), ?_⟩
    unfold beganO at k
    walk_at "rd"
    refine st_call (of_Queue_entries ⟨a.q, s.q, _, rfl, (w.rot 1 3).now, fun H1 l w1 => ?_⟩)
    have w2 := w.tr w1
    clear w1
    walk_at "rd"
    refine xIf_2 (fun h => ?_) (fun h => ?_)
    case' refine_1 =>
      have hm : e ∈ s.q.turn := by
        have h : inV (V.int e) (s.q.turn.map V.int) = true := h
        rw [inV_ints] at h; exact of_decide_eq_true h
      rw [if_pos hm] at k
      walk_at "rd"
      refine sf_Order_is_gone T w2 4 rfl fun H2 w3 => ?_
      have w4 : W H H2 (orL A a { s with gone := false } ++ R) := w3.pick 7 [4, 1, 2, 3, 5, 6]
    case' refine_2 =>
      have hm : e ∉ s.q.turn := by
        have h : inV (V.int e) (s.q.turn.map V.int) = false := h
        rw [inV_ints] at h; exact of_decide_eq_false h
      rw [if_neg hm] at k
      have w4 : W H H1 (orL A a s ++ R) := w2.pick 7 [4, 1, 2, 3, 5, 6]
    all_goals
      walk_at "rd"
      refine xIf_2 (fun h => ?_) (fun h => ?_)
      · have hd : e ∈ s.deck := by
          have h : inV (V.int e) (s.deck.map V.int) = true := h
          rw [inV_ints] at h; exact of_decide_eq_true h
        walk_at "rd"
        exact st_rem w4 5 rfl hd fun H3 w5 => k H3 w5
      · have hd : e ∉ s.deck := by
          have h : inV (V.int e) (s.deck.map V.int) = false := h
          rw [inV_ints] at h; exact of_decide_eq_false h
        rw [List.erase_of_not_mem hd] at k
        exact k _ w4
end
end TR
namespace TR
open PySem L2
/-! ### rounds of a mixed order, repeated -/
structure Rd2 (s : Or) (now : Option Int) : Prop where
  ok : s.Ok
  mx : s.mixed = true
  ag : s.again = "all"
  ne : s.q.turn ≠ []
  nw : ∀ x, now = some x → x ∉ s.deck ∧ x ≤ s.q.tunes.length
theorem swE_head {y z : Int} {r : List Int} (nd : (y :: z :: r).Nodup) : ∃ d ds, swE (y :: z :: r) = d :: ds ∧ d ≠ y := by
  obtain ⟨yl, hyl⟩ : ∃ yl, (y :: z :: r)[(y :: z :: r).length - 1]? = some yl := ⟨_, List.getElem?_eq_getElem (by rw [List.length_cons, List.length_cons]; omega)⟩
  have hd : (y :: z :: r).drop ((y :: z :: r).length - 1) = [yl] := by
    obtain ⟨hl, e⟩ := List.getElem?_eq_some_iff.mp hyl
    rw [List.drop_eq_getElem_cons hl, e, List.drop_of_length_le (by omega)]
  refine ⟨yl, ((y :: z :: r).drop 1).take ((y :: z :: r).length - 2) ++ (y :: z :: r).take 1, ?_, fun e => ?_⟩
  · unfold swE
    rw [hd]
    simp
  · rw [e] at hyl
    have hm : y ∈ z :: r := by
      have h2 : (z :: r)[(z :: r).length - 1]? = some y := by
        rw [← hyl, show (y :: z :: r).length - 1 = (z :: r).length - 1 + 1 by simp]
        rfl
      exact List.mem_of_getElem? h2
    exact (List.nodup_cons.mp nd).1 hm
/-- one step -/
theorem Rd2.step {s : Or} {now : Option Int} (h : Rd2 s now) : ∃ v, skipV s now = some v ∧ Rd2 (beganO (skipS s now) v) (some v) ∧ (beganO (skipS s now) v).q = s.q ∧ v ∈ s.q.turn ∧
    (s.deck ≠ [] → s.deck = v :: (beganO (skipS s now) v).deck) ∧ (s.deck = [] → (v :: (beganO (skipS s now) v).deck).Perm s.q.turn) ∧ (s.deck ≠ [] ∨ 1 < s.q.turn.length → now ≠ some v) := by
  have key : ∃ v ds, refill s now = { refill s now with deck := v :: ds } ∧ (s.deck ≠ [] → s.deck = v :: ds) ∧ (s.deck = [] → (v :: ds).Perm s.q.turn) ∧ (s.deck ≠ [] ∨ 1 < s.q.turn.length → now ≠ some v) := by
    cases hd : s.deck with
    | cons x r =>
      have e : refill s now = s := by unfold refill; exact if_neg (fun z => by rw [hd] at z; cases z.1)
      rw [e]
      refine ⟨x, r, ?_, fun _ => rfl, (fun z => nomatch z), fun _ z => (h.nw x z).1 (by rw [hd]; exact List.mem_cons_self)⟩
      cases s
      simp only at hd
      rw [hd]
    | nil =>
      have e : refill s now = { s with num := (mixL s.num s.q.turn).1, deck := if 1 < (mixL s.num s.q.turn).2.length ∧ (mixL s.num s.q.turn).2.head? = now then swE (mixL s.num s.q.turn).2 else (mixL s.num s.q.turn).2 } := by
        unfold refill
        exact if_pos ⟨hd, h.ag⟩
      have hp := mixL_perm s.num s.q.turn
      have hl := mixL_len s.num s.q.turn
      rw [e]
      generalize (mixL s.num s.q.turn).1 = n' at *
      generalize (mixL s.num s.q.turn).2 = ys at *
      have hnd : ys.Nodup := hp.nodup_iff.mpr h.ok.q.nd
      have hne : ys ≠ [] := fun z => by
        rw [z] at hl
        exact h.ne (List.length_eq_zero_iff.mp hl.symm)
      split
      · rename_i hc
        match ys, hc, hnd, hp with
        | y :: z :: r, hc, hnd, hp =>
          obtain ⟨d, ds, e1, e2⟩ := swE_head hnd
          refine ⟨d, ds, by rw [e1], (fun z => absurd rfl z), fun _ => ?_, fun _ z => ?_⟩
          · rw [← e1]
            exact (swE_perm hc.1).trans hp
          · have e3 : some y = now := hc.2
            rw [z] at e3
            exact e2 (Option.some.inj e3).symm
        | [y], hc, _, _ => exact absurd hc.1 (by simp)
        | [], hc, _, _ => exact absurd hc.1 (by simp)
      · rename_i hc
        match ys, hne with
        | y :: r, _ =>
          refine ⟨y, r, rfl, (fun z => absurd rfl z), fun _ => hp, fun hx z => ?_⟩
          have h1 : 1 < s.q.turn.length := hx.resolve_left (fun z => z rfl)
          exact hc ⟨by omega, z.symm⟩
  obtain ⟨v, ds, e, k1, k2, k3⟩ := key
  have hr : (refill s now).Ok := h.ok.refill now
  have hrq : (refill s now).q = s.q := by unfold refill; split <;> rfl
  have hrm : (refill s now).mixed = true := by unfold refill; split <;> exact h.mx
  have hra : (refill s now).again = "all" := by unfold refill; split <;> exact h.ag
  have ev : skipV s now = some v := by unfold skipV popO; rw [if_pos h.mx, e]; rfl
  have es : skipS s now = { refill s now with deck := ds } := by
    unfold skipS popS
    rw [if_pos h.mx]
    conv => lhs; rw [e]
    rfl
  have hnd : (v :: ds).Nodup := by have := hr.nd; rw [e] at this; exact this
  have hvd : v ∉ ds := (List.nodup_cons.mp hnd).1
  have hvm : v ∈ s.q.turn := by
    have := hr.sub v (by rw [e]; exact List.mem_cons_self)
    rw [hrq] at this
    exact this
  have ed : (beganO (skipS s now) v).deck = ds := by
    show (skipS s now).deck.erase v = ds
    rw [es]
    exact List.erase_of_not_mem hvd
  have eq : (beganO (skipS s now) v).q = s.q := by
    show (skipS s now).q = s.q
    rw [es]
    exact hrq
  refine ⟨v, ev, ⟨(h.ok.skip now).began v, ?_, ?_, by rw [eq]; exact h.ne, fun x hx => ?_⟩, eq, hvm, ?_, ?_, k3⟩
  · show (skipS s now).mixed = true
    rw [es]; exact hrm
  · show (skipS s now).again = "all"
    rw [es]; exact hra
  · rw [← Option.some.inj hx, ed, eq]
    exact ⟨hvd, (h.ok.q.bd v hvm).2⟩
  · rw [ed]; exact k1
  · rw [ed]; exact k2
/-- none twice in a row -/
def noRep (xs : List Int) : Prop := ∀ k, k + 1 < xs.length → xs[k]? ≠ xs[k + 1]?
theorem noRep.snoc {xs : List Int} {v : Int} (h : noRep xs) (hv : xs.getLast? ≠ some v) : noRep (xs ++ [v]) := by
  intro k hk
  rw [List.length_append, List.length_singleton] at hk
  by_cases hl : k + 1 < xs.length
  · rw [List.getElem?_append_left (by omega), List.getElem?_append_left hl]
    exact h k hl
  · have e : k + 1 = xs.length := by omega
    rw [List.getElem?_append_left (by omega), List.getElem?_append_right (by omega), e, Nat.sub_self]
    rw [List.getLast?_eq_getElem?, ← e] at hv
    exact hv
theorem noRep_nil : noRep [] := fun k hk => by simp at hk
def lastO (now : Option Int) (xs : List Int) : Option Int := match xs.getLast? with
  | some v => some v
  | none => now
theorem lastO_snoc (now : Option Int) (xs : List Int) (v : Int) : lastO now (xs ++ [v]) = some v := by unfold lastO; rw [List.getLast?_concat]
theorem last_app (acc xs : List Int) : (acc ++ xs).getLast? = lastO acc.getLast? xs := by
  unfold lastO
  rw [List.getLast?_append]
  cases xs.getLast? <;> rfl
/-- behind so many steps, that told xs -/
structure Ran (s : Or) (now : Option Int) (xs : List Int) (s' : Or) : Prop where
  rd : Rd2 s' (lastO now xs)
  q : s'.q = s.q
  sep : 1 < s.q.turn.length → ∀ acc, noRep acc → acc.getLast? = now → noRep (acc ++ xs)
  nil : xs = [] → s'.deck = s.deck
  dk1 : s.deck ≠ [] → xs.length ≤ s.deck.length → s.deck = xs ++ s'.deck
  dk2 : s.deck = [] → xs ≠ [] → xs.length ≤ s.q.turn.length → (xs ++ s'.deck).Perm s.q.turn
theorem Ran.zero {s : Or} {now : Option Int} (h : Rd2 s now) : Ran s now [] s :=
  ⟨h, rfl, fun _ acc ha _ => by rw [List.append_nil]; exact ha, fun _ => rfl, fun _ _ => rfl, fun _ z => absurd rfl z⟩
theorem Ran.step {s s' : Or} {now : Option Int} {xs : List Int} (h : Ran s now xs s') : ∃ v, skipV s' (lastO now xs) = some v ∧ Ran s now (xs ++ [v]) (beganO (skipS s' (lastO now xs)) v) := by
  obtain ⟨v, e, r, q, hm, k1, k2, k3⟩ := h.rd.step
  refine ⟨v, e, ⟨by rw [lastO_snoc]; exact r, q.trans h.q, ?_, (fun z => by simp at z), ?_, ?_⟩⟩
  · intro hl acc ha hn
    rw [← List.append_assoc]
    refine (h.sep hl acc ha hn).snoc ?_
    rw [last_app, hn]
    exact k3 (.inr (by rw [h.q]; exact hl))
  · intro hd hl
    rw [List.length_append, List.length_singleton] at hl
    have e1 := h.dk1 hd (by omega)
    have hne : s'.deck ≠ [] := fun z => by rw [z, List.append_nil] at e1; rw [e1] at hl; omega
    rw [List.append_assoc]
    exact e1.trans (congrArg (xs ++ ·) (k1 hne))
  · intro hd _ hl
    rw [List.length_append, List.length_singleton] at hl
    by_cases hx : xs = []
    · have e1 : s'.deck = [] := (h.nil hx).trans hd
      have p := k2 e1
      rw [h.q] at p
      subst hx
      exact p
    · have p := h.dk2 hd hx (by omega)
      have hne : s'.deck ≠ [] := fun z => by
        rw [z, List.append_nil] at p
        have := p.length_eq
        omega
      rw [List.append_assoc]
      have e2 := k1 hne
      have e3 : [v] ++ (beganO (skipS s' (lastO now xs)) v).deck = s'.deck := e2.symm
      rw [e3]
      exact p
/-- a whole round -/
theorem Ran.round {s s' : Or} {now : Option Int} {xs : List Int} (h : Ran s now xs s') (hf : s.deck = [] ∨ s.deck.Perm s.q.turn) (hl : xs.length = s.q.turn.length) : s'.deck = [] ∧ xs.Perm s.q.turn := by
  have hne : 0 < s.q.turn.length := by
    have := h.rd.ne
    rw [h.q] at this
    exact List.length_pos_iff.mpr this
  by_cases hd : s.deck = []
  · have p := h.dk2 hd (fun z => by rw [z] at hl; simp at hl; omega) (by omega)
    have e := p.length_eq
    rw [List.length_append] at e
    have e2 : s'.deck = [] := List.length_eq_zero_iff.mp (by omega)
    rw [e2, List.append_nil] at p
    exact ⟨e2, p⟩
  · have p := hf.resolve_left hd
    have e := p.length_eq
    have e1 := h.dk1 hd (by omega)
    have e3 := congrArg List.length e1
    rw [List.length_append] at e3
    have e2 : s'.deck = [] := List.length_eq_zero_iff.mp (by omega)
    rw [e2, List.append_nil] at e1
    rw [e1] at p
    exact ⟨e2, p⟩
theorem Rd2.put {s : Or} {now : Option Int} (h : Rd2 s now) (x : Str) {p : Int} (h2 : s.q.turn.length ≠ 12) (h3 : s.q.tunes.length < 1000) : Rd2 (putO s x p) now := by
  have ok := h.ok.put x (p := p) h2 h3
  have e : putO s x p = { s with q := s.q.put x p, num := dN s.num, deck := insP s.deck (dB s.num ((s.deck.length : Int) + 1)).toNat ((s.q.tunes.length : Int) + 1) } := if_pos h.mx
  rw [e] at ok ⊢
  refine ⟨ok, h.mx, h.ag, fun z => ?_, fun y hy => ⟨fun m => ?_, ?_⟩⟩
  · have := congrArg List.length z
    rw [show (s.q.put x p).turn = insP s.q.turn p.toNat ((s.q.tunes.length : Int) + 1) from rfl, insP_len] at this
    simp at this
  · have hb := h.nw y hy
    rcases mem_insP.mp m with z | z
    · omega
    · exact hb.1 z
  · have hb := (h.nw y hy).2
    show y ≤ ((s.q.tunes ++ [x]).length : Int)
    rw [List.length_append]
    push_cast
    omega
theorem Rd2.rem {s : Or} {now : Option Int} (h : Rd2 s now) {e : Int} (he : e ∈ s.q.turn) (hl : 1 < s.q.turn.length) : Rd2 (remO s e now) now := by
  refine ⟨h.ok.rem he now, h.mx, h.ag, fun z => ?_, fun y hy => ⟨fun m => (h.nw y hy).1 (List.mem_of_mem_erase m), (h.nw y hy).2⟩⟩
  have z2 : s.q.turn.erase e = [] := z
  have := congrArg List.length z2
  rw [List.length_erase_of_mem he] at this
  simp at this
  omega
theorem Rd2.end_ {s : Or} {now : Option Int} (h : Rd2 s now) (hd : s.deck = []) : skipV { s with again := "none" } now = none := by
  unfold skipV popO refill
  rw [if_pos h.mx, if_neg (fun z => absurd (show (Str.ofString "none") = Str.ofString "all" from z.2) (by decide +kernel))]
  show s.deck.head? = none
  rw [hd]
  rfl
/-- what is left of a round -/
def notIn (ys : List Int) (xs : List Int) : List Int := xs.filter fun x => !decide (x ∈ ys)
theorem left_perm {third deck turn : List Int} (p : (third ++ deck).Perm turn) (nd : turn.Nodup) : (notIn third turn).Perm deck := by
  have nd2 := p.nodup_iff.mpr nd
  have e : notIn third (third ++ deck) = deck := by
    unfold notIn
    rw [List.filter_append]
    have e1 : third.filter (fun x => !decide (x ∈ third)) = [] := List.filter_eq_nil_iff.mpr fun x hx => by simp [hx]
    have e2 : deck.filter (fun x => !decide (x ∈ third)) = deck := List.filter_eq_self.mpr fun x hx => by
      have : x ∉ third := fun z => (List.nodup_append.mp nd2).2.2 x z x hx rfl
      simp [this]
    rw [e1, e2]
    rfl
  have p2 := p.symm.filter (fun x => !decide (x ∈ third))
  unfold notIn at e ⊢
  rw [e] at p2
  exact p2
theorem put_left {third : List Int} {s : Or} {x : Str} {p : Int} (mx : s.mixed = true) (h : (notIn third s.q.turn).Perm s.deck) (hn : ((s.q.tunes.length : Int) + 1) ∉ third) : (notIn third (putO s x p).q.turn).Perm (putO s x p).deck := by
  have e : putO s x p = { s with q := s.q.put x p, num := dN s.num, deck := insP s.deck (dB s.num ((s.deck.length : Int) + 1)).toNat ((s.q.tunes.length : Int) + 1) } := if_pos mx
  rw [e]
  show (notIn third (insP s.q.turn p.toNat ((s.q.tunes.length : Int) + 1))).Perm (insP s.deck _ _)
  have p1 := (insP_perm s.q.turn p.toNat ((s.q.tunes.length : Int) + 1)).filter (fun x => !decide (x ∈ third))
  rw [List.filter_cons_of_pos (by simp [hn])] at p1
  exact p1.trans ((h.cons _).trans (insP_perm _ _ _).symm)
theorem Ran.rest {s s' : Or} {now : Option Int} {xs left : List Int} (h : Ran s now xs s') (p : left.Perm s.deck) (hl : xs.length = left.length) : s'.deck = [] ∧ xs.Perm left := by
  have e := p.length_eq
  by_cases hd : s.deck = []
  · have e1 : left.length = 0 := by rw [hd] at e; exact e
    have e0 : xs = [] := List.length_eq_zero_iff.mp (by omega)
    have e1 : left = [] := List.length_eq_zero_iff.mp e1
    rw [e1, e0]
    exact ⟨(h.nil e0).trans hd, List.Perm.refl _⟩
  · have e1 := h.dk1 hd (by omega)
    have e3 := congrArg List.length e1
    rw [List.length_append] at e3
    have e2 : s'.deck = [] := List.length_eq_zero_iff.mp (by omega)
    rw [e2, List.append_nil] at e1
    exact ⟨e2, by rw [← e1]; exact p.symm⟩
end TR

namespace TR
open PySem L2
/-! ### law_k21 -/
@[irreducible] def sp_round (A : Ads) : Sp := fun vs H Q _ => ∃ (a : OA) (s : Or) (now : Option Int) (R : List Ent), vs = [.ref a.o, oV now] ∧ W H H (orL A a s ++ R) ∧ Rd2 s now ∧
  ∀ H' l k' xs s', Ran s now xs s' → xs.length = s.q.turn.length → W H H' ((l, .lst (xs.map V.int)) :: (orL A { a with k := k' } s' ++ R)) → Q (.ref l) H'
theorem of_round {A : Ads} {vs : List V} {H : Hp} {Q : VK} {E : XK} (h :  ∃ (a : OA) (s : Or) (now : Option Int) (R : List Ent), vs = [.ref a.o, oV now] ∧ W H H (orL A a s ++ R) ∧ Rd2 s now ∧
  ∀ H' l k' xs s', Ran s now xs s' → xs.length = s.q.turn.length → W H H' ((l, .lst (xs.map V.int)) :: (orL A { a with k := k' } s' ++ R)) → Q (.ref l) H') : sp_round A vs H Q E := by unfold sp_round; exact h
section
variable {P : Program} {w : World} {K : PySem.W.Frag} {mg : Str → Option Value} {base : Heap} {A : Ads}
theorem ok_law_round (T : Txt K mg A) : FnOk P w K mg base (L2.CX P w) 5 A.f_law_round A.d_law_round P_law_round (sp_round A) := by
  refine T.F_law_round.okX sc_law_round (fun vs H Q E h => ?_) (fun cdv Ar outer s H vs Q E hr h => ?_)
  · unfold sp_round at h; obtain ⟨a, s, now, R, rfl, _⟩ := h; rfl
  · unfold sp_round at h; obtain ⟨a, s, now, R, rfl, w, rd, k⟩ := h
    refine ⟨_, (pss_cons (ps_set (i := 2) sc_law_round.nd rfl (by first | exact Or.inl rfl | exact Or.inr rfl) (my_lst pa_nil))
      (pss_cons (my_for ownE rfl (pi_range1 (by rfl) T.z_range (pa_cons (pe_callB my_lenQ (by rfl) T.z_len PySem.boot_len (pa_cons (my_meth0 (pe_fld (pv 0) rfl) T.c_Queue T.m_Queue_entries (ok_Queue_entries T) (hr.mono (by decide)) T.b_Queue_entries passE) pa_nil)) pa_nil)) (pg_name (i := 3) sc_law_round.nd rfl (by first | exact Or.inl rfl | exact Or.inr rfl))
        (pss_cons (ps_set (i := 1) sc_law_round.nd rfl (by first | exact Or.inl rfl | exact Or.inr rfl) (my_meth (pv 0) T.c_Order T.m_Order_skip (ok_Order_skip T) (hr.mono (by decide)) T.b_Order_skip passE (pa_cons (pv 1) pa_nil)))
      (pss_cons (ps_expr (my_meth (pv 0) T.c_Order T.m_Order_began (ok_Order_began T) (hr.mono (by decide)) T.b_Order_began passE (pa_cons (pv 1) pa_nil)))
      (pss_one (ps_expr (pe_bm PySem.F.plainAttrs_list PySem.F.slot_list_append PySem.F.type_list_append my_append (pv 2) (pa_cons (pv 1) pa_nil)))))))
      (pss_one (ps_ret (pv 2))))), ?_⟩
    have hq := rd.ok.q.sz
    walk_at "rd"
    refine st_new w fun l H1 w1 => ?_
    walk_at "rd"
    refine st_call (of_Queue_entries ⟨a.q, s.q, _, rfl, (w1.rot 2 3).now, fun H2 l2 w2 => ?_⟩)
    have w3 := w1.tr w2
    clear w2
    walk_at "rd"
    rw [List.length_map]
    have w4 : W H H2 ((l, .lst (([] : List Int).map V.int)) :: (orL A a s ++ R)) := w3.pick 8 [4, 5, 1, 2, 3, 6, 7]
    clear w3 w1 w
    refine st_forR (fun i σ H' => ∃ (xs : List Int) (s' : Or) (k' : Addr) (u : Option V), σ = [some (.ref a.o), some (oV (lastO now xs)), some (.ref l), u] ∧ Ran s now xs s' ∧ xs.length = i ∧ W H H' ((l, .lst (xs.map V.int)) :: (orL A { a with k := k' } s' ++ R)))
      ⟨[], s, a.k, none, rfl, Ran.zero rd, rfl, w4⟩ ?_ ?_
    · rintro i σ H3 hi ⟨xs, s', k', u, rfl, rn, hx, w5⟩
      have hi2 : i < s.q.turn.length := by simpa using hi
      obtain ⟨v, ev, rn2⟩ := rn.step
      walk_at "rd"
      refine st_call (of_Order_skip ⟨{ a with k := k' }, s', lastO now xs, _, rfl, (w5.rot 1 6).now, rn.rd.ok, fun H4 k2 w6 => ?_⟩)
      have w7 := w5.tr w6
      rw [ev]
      clear w6
      walk_at "rd"
      refine st_call (of_Order_began ⟨{ a with k := k2 }, skipS s' (lastO now xs), v, _, rfl, w7.now, rn.rd.ok.skip _, fun H5 w8 => ?_⟩)
      have w9 := w7.tr w8
      clear w8
      walk_at "rd"
      refine st_app w9 6 rfl (by rw [List.length_map]; exact szL (by omega)) fun H6 w10 => ?_
      refine ⟨xs ++ [v], _, k2, some (.int (0 + (i : Int))), ?_, rn2, by rw [List.length_append, hx]; rfl, ?_⟩
      · rw [lastO_snoc]; rfl
      · rw [List.map_append]
        exact w10.pick 7 [6, 0, 1, 2, 3, 4, 5]
    · rintro σ H3 ⟨xs, s', k', u, rfl, rn, hx, w5⟩
      walk_at "rd"
      exact k H3 l k' xs s' rn (by rw [hx]; simp) w5
theorem at_m1 {xs : List Int} {y : Int} (h : xs.getLast? = some y) : atI (xs.map V.int) (-1) = some (.int y) := by
  rw [List.getLast?_eq_getElem?] at h
  have hl := (List.getElem?_eq_some_iff.mp h).1
  unfold atI ixN
  rw [List.length_map, if_neg (by decide), if_pos (by omega)]
  show (xs.map V.int)[((-1 : Int) + (xs.length : Int)).toNat]? = _
  rw [show ((-1 : Int) + (xs.length : Int)).toNat = xs.length - 1 by omega, List.getElem?_map, h]
  rfl
theorem last_some {xs : List Int} (h : xs.length ≠ 0) : ∃ y, xs.getLast? = some y := by
  cases e : xs.getLast? with
  | none => exact absurd (by rw [List.getLast?_eq_none_iff.mp e]; rfl) h
  | some y => exact ⟨y, rfl⟩
theorem start_rd {s : Or} (ok : s.Ok) (hm : s.mixed = false) (ha : s.again = "all") (hne : s.q.turn ≠ []) : Rd2 (setM s true none) none ∧ (setM s true none).deck.Perm s.q.turn ∧ (setM s true none).q = s.q := by
  have e : setM s true none = { mixO s none with mixed := true } := by
    unfold setM
    rw [if_pos rfl, if_neg (by rw [hm]; exact Bool.false_ne_true)]
  have ok2 := ok.setM true none
  rw [e] at ok2 ⊢
  have hb : butE s.q.turn none = s.q.turn := by
    unfold butE
    exact List.filter_eq_self.mpr fun x _ => by simp
  refine ⟨⟨ok2, rfl, ha, hne, fun x z => nomatch z⟩, ?_, rfl⟩
  show (mixL s.num (butE s.q.turn none)).2.Perm s.q.turn
  rw [hb]
  exact mixL_perm _ _
theorem ok_law (T : Txt K mg A) : FnOk P w K mg base (L2.CX P w) 6 A.f_law A.d_law P_law (sp_law K) := by
  refine T.F_law.okX sc_law (fun vs H Q E h => ?_) (fun cdv Ar outer s H vs Q E hr h => ?_)
  · unfold sp_law at h; obtain ⟨a, ns, R, rfl, _⟩ := h; rfl
  · unfold sp_law at h; obtain ⟨sa, ns, R, rfl, sc, w, hl, k⟩ := h
    refine ⟨_, (pss_cons (ps_set (i := 1) sc_law.nd rfl (by first | exact Or.inl rfl | exact Or.inr rfl) (my_lst pa_nil))
      (pss_cons (ps_set (i := 2) sc_law.nd rfl (by first | exact Or.inl rfl | exact Or.inr rfl) (my_make T.M_Order (ok_Order_init__ T) (hr.mono (by decide)) (by rfl) T.g_Order T.b_Order_init__ passE (pa_cons (my_call (ok_law_draw T) (hr.mono (by decide)) (by rfl) T.g_law_draw T.k_law_draw T.b_law_draw passE (pa_cons (pv 0) (pa_cons (pv 1) (pa_cons pe_int pa_nil)))) pa_nil)))
      (pss_cons (ps_set (i := 3) sc_law.nd rfl (by first | exact Or.inl rfl | exact Or.inr rfl) (pe_op op_add pe_int (my_call (ok_law_draw T) (hr.mono (by decide)) (by rfl) T.g_law_draw T.k_law_draw T.b_law_draw passE (pa_cons (pv 0) (pa_cons (pv 1) (pa_cons pe_int pa_nil))))))
      (pss_cons (my_for ownE rfl (pi_range1 (by rfl) T.z_range (pa_cons (pv 3) pa_nil)) (pg_name (i := 4) sc_law.nd rfl (by first | exact Or.inl rfl | exact Or.inr rfl))
        (pss_one (ps_expr (my_meth (pv 2) T.c_Order T.m_Order_put (ok_Order_put T) (hr.mono (by decide)) T.b_Order_put passE (pa_cons pe_str (pa_cons pe_int pa_nil))))))
      (pss_cons (ps_expr (my_meth (pv 2) T.c_Order T.m_Order_set_again (ok_Order_set_again T) (hr.mono (by decide)) T.b_Order_set_again passE (pa_cons pe_str pa_nil)))
      (pss_cons (ps_expr (my_meth (pv 2) T.c_Order T.m_Order_set_mixed (ok_Order_set_mixed T) (hr.mono (by decide)) T.b_Order_set_mixed passE (pa_cons pe_bl (pa_cons pe_non pa_nil))))
      (pss_cons (ps_set (i := 5) sc_law.nd rfl (by first | exact Or.inl rfl | exact Or.inr rfl) (my_call (ok_law_round T) (hr.mono (by decide)) (by rfl) T.g_law_round T.k_law_round T.b_law_round passE (pa_cons (pv 2) (pa_cons pe_non pa_nil))))
      (pss_cons (ps_set (i := 6) sc_law.nd rfl (by first | exact Or.inl rfl | exact Or.inr rfl) (my_call (ok_law_round T) (hr.mono (by decide)) (by rfl) T.g_law_round T.k_law_round T.b_law_round passE (pa_cons (pv 2) (pa_cons (pe_ix ix_list (pv 5) (pe_un un_neg pe_int) (fun _ _ => rfl)) pa_nil))))
      (pss_cons (my_if (PW.pt (my_or (pt_cmpR (my_neD hr.units) (pe_callB my_sorted (by rfl) T.z_sorted (by decide +kernel) (pa_cons (pv 5) pa_nil)) (pe_callB my_sorted (by rfl) T.z_sorted (by decide +kernel) (pa_cons (my_meth0 (pe_fld (pv 2) rfl) T.c_Queue T.m_Queue_entries (ok_Queue_entries T) (hr.mono (by decide)) T.b_Queue_entries passE) pa_nil)) (nomark _)) (pw_or1 (pt_cmpR (my_neD hr.units) (pe_callB my_sorted (by rfl) T.z_sorted (by decide +kernel) (pa_cons (pv 6) pa_nil)) (pe_callB my_sorted (by rfl) T.z_sorted (by decide +kernel) (pa_cons (pv 5) pa_nil)) (nomark _)))))
        (pss_one (ps_ret pe_bl))
        pss_nil)
      (pss_cons (ps_set (i := 7) sc_law.nd rfl (by first | exact Or.inl rfl | exact Or.inr rfl) (pe_op my_cat (pv 5) (pv 6)))
      (pss_cons (ps_set (i := 8) sc_law.nd rfl (by first | exact Or.inl rfl | exact Or.inr rfl) (pe_ix ix_list (pv 6) (pe_un un_neg pe_int) (fun _ _ => rfl)))
      (pss_cons (ps_set (i := 9) sc_law.nd rfl (by first | exact Or.inl rfl | exact Or.inr rfl) (my_lst pa_nil))
      (pss_cons (my_for ownE rfl (pi_range1 (by rfl) T.z_range (pa_cons (my_call (ok_law_draw T) (hr.mono (by decide)) (by rfl) T.g_law_draw T.k_law_draw T.b_law_draw passE (pa_cons (pv 0) (pa_cons (pv 1) (pa_cons (pv 3) pa_nil)))) pa_nil)) (pg_name (i := 4) sc_law.nd rfl (by first | exact Or.inl rfl | exact Or.inr rfl))
        (pss_cons (ps_set (i := 8) sc_law.nd rfl (by first | exact Or.inl rfl | exact Or.inr rfl) (my_meth (pv 2) T.c_Order T.m_Order_skip (ok_Order_skip T) (hr.mono (by decide)) T.b_Order_skip passE (pa_cons (pv 8) pa_nil)))
      (pss_cons (ps_expr (my_meth (pv 2) T.c_Order T.m_Order_began (ok_Order_began T) (hr.mono (by decide)) T.b_Order_began passE (pa_cons (pv 8) pa_nil)))
      (pss_one (ps_expr (pe_bm PySem.F.plainAttrs_list PySem.F.slot_list_append PySem.F.type_list_append my_append (pv 9) (pa_cons (pv 8) pa_nil)))))))
      (pss_cons (ps_set (i := 10) sc_law.nd rfl (by first | exact Or.inl rfl | exact Or.inr rfl) (my_call (ok_law_draw T) (hr.mono (by decide)) (by rfl) T.g_law_draw T.k_law_draw T.b_law_draw passE (pa_cons (pv 0) (pa_cons (pv 1) (pa_cons pe_int pa_nil)))))
      (pss_cons (my_if (pt_cmpR op_eq (pv 10) pe_int (nomark _))
        (pss_one (ps_expr (my_meth (pv 2) T.c_Order T.m_Order_put (ok_Order_put T) (hr.mono (by decide)) T.b_Order_put passE (pa_cons pe_str (pa_cons (my_call (ok_law_draw T) (hr.mono (by decide)) (by rfl) T.g_law_draw T.k_law_draw T.b_law_draw passE (pa_cons (pv 0) (pa_cons (pv 1) (pa_cons (pe_op op_add (pv 3) pe_int) pa_nil)))) pa_nil)))))
        pss_nil)
      (pss_cons (my_setLc (i := 11) (own := [("entry", 13)]) rfl sc_law.nd rfl rfl (sw_true rfl rfl rfl (by decide +kernel)) (pi_list (my_meth0 (pe_fld (pv 2) rfl) T.c_Queue T.m_Queue_entries (ok_Queue_entries T) (hr.mono (by decide)) T.b_Queue_entries passE)) (blkOk_by (own := [("entry", 13)]) (N := N_law) (sc := defScope s_law) (by decide +kernel)) (fun _ _ _ _ _ => (pg_name (i := 13) sc_law.nd rfl (by first | exact Or.inl rfl | exact Or.inr rfl))) (fun _ _ _ _ _ => (pts_one (pt_cmpR op_notIn_seqB (pv 13) (pv 9) (by rfl)))) (fun _ _ _ _ _ => (pv 13)))
      (pss_cons (my_if (PW.pt (my_and (pt_cmpR op_eq (pv 10) pe_int (nomark _)) (pw_and1 (pt_cmpR op_gt (pe_callB my_lenQ (by rfl) T.z_len PySem.boot_len (pa_cons (pv 11) pa_nil)) pe_int (nomark _)))))
        (pss_cons (ps_expr (my_meth (pv 2) T.c_Order T.m_Order_remove (ok_Order_remove T) (hr.mono (by decide)) T.b_Order_remove passE (pa_cons (pe_ix ix_list (pv 11) pe_int (fun _ _ => rfl)) (pa_cons (pv 8) pa_nil))))
      (pss_one (ps_set (i := 11) sc_law.nd rfl (by first | exact Or.inl rfl | exact Or.inr rfl) (pe_slice my_sl (pv 11) (po_some pe_int) po_none))))
        pss_nil)
      (pss_cons (ps_set (i := 12) sc_law.nd rfl (by first | exact Or.inl rfl | exact Or.inr rfl) (my_lst pa_nil))
      (pss_cons (my_for ownE rfl (pi_range1 (by rfl) T.z_range (pa_cons (pe_callB my_lenQ (by rfl) T.z_len PySem.boot_len (pa_cons (pv 11) pa_nil)) pa_nil)) (pg_name (i := 4) sc_law.nd rfl (by first | exact Or.inl rfl | exact Or.inr rfl))
        (pss_cons (ps_set (i := 8) sc_law.nd rfl (by first | exact Or.inl rfl | exact Or.inr rfl) (my_meth (pv 2) T.c_Order T.m_Order_skip (ok_Order_skip T) (hr.mono (by decide)) T.b_Order_skip passE (pa_cons (pv 8) pa_nil)))
      (pss_cons (ps_expr (my_meth (pv 2) T.c_Order T.m_Order_began (ok_Order_began T) (hr.mono (by decide)) T.b_Order_began passE (pa_cons (pv 8) pa_nil)))
      (pss_one (ps_expr (pe_bm PySem.F.plainAttrs_list PySem.F.slot_list_append PySem.F.type_list_append my_append (pv 12) (pa_cons (pv 8) pa_nil)))))))
      (pss_cons (my_if (PW.pt (my_and (pt_cmpR (my_neD hr.units) (pv 9) (my_lst pa_nil) (nomark _)) (pw_and1 (pt_cmpR (my_neD hr.units) (pe_callB my_sorted (by rfl) T.z_sorted (by decide +kernel) (pa_cons (pv 12) pa_nil)) (pe_callB my_sorted (by rfl) T.z_sorted (by decide +kernel) (pa_cons (pv 11) pa_nil)) (nomark _)))))
        (pss_one (ps_ret pe_bl))
        pss_nil)
      (pss_cons (ps_set (i := 7) sc_law.nd rfl (by first | exact Or.inl rfl | exact Or.inr rfl) (pe_op my_cat (pe_op my_cat (pv 7) (pv 9)) (pv 12)))
      (pss_cons (my_if (PW.pt (my_and (pt_cmpR op_gt (pv 3) pe_int (nomark _)) (pw_and1 (pt_cmpR (my_neD hr.units) (my_lc (own := [("k", 4)]) rfl sc_law.nd (pi_range1 (by rfl) T.z_range (pa_cons (pe_op op_sub (pe_callB my_lenQ (by rfl) T.z_len PySem.boot_len (pa_cons (pv 7) pa_nil)) pe_int) pa_nil)) (blkOk_by (own := [("k", 4)]) (N := N_law) (sc := defScope s_law) (by decide +kernel)) (fun _ _ _ _ _ => (pg_name (i := 4) sc_law.nd rfl (by first | exact Or.inl rfl | exact Or.inr rfl))) (fun _ _ _ _ _ => (pts_one (pt_cmpR op_eq (pe_ix ix_listB (pv 7) (pv 4) (fun _ _ => rfl)) (pe_ix ix_listB (pv 7) (pe_op op_add (pv 4) pe_int) (fun _ _ => rfl)) (nomark _)))) (fun _ _ _ _ _ => (pv 4))) (my_lst pa_nil) (nomark _)))))
        (pss_one (ps_ret pe_bl))
        pss_nil)
      (pss_cons (ps_expr (my_meth (pv 2) T.c_Order T.m_Order_set_again (ok_Order_set_again T) (hr.mono (by decide)) T.b_Order_set_again passE (pa_cons pe_str pa_nil)))
      (pss_one (ps_ret (my_orV (pe_cmpR (my_eqD hr.units) (pv 9) (my_lst pa_nil) (nomark _)) (pe_one (pe_cmpR op_isN (my_meth (pv 2) T.c_Order T.m_Order_skip (ok_Order_skip T) (hr.mono (by decide)) T.b_Order_skip passE (pa_cons (pv 8) pa_nil)) pe_non (nomark _))))))))))))))))))))))))))))), ?_⟩
    walk_at "rd"
    refine st_new w fun t H1 w1 => ?_
    have w1 : W H H1 ((t, .lst (zeros 0)) :: R) := w1
    walk_at "rd"
    refine draw_at w1 0 rfl (by walk_at "scr") (by omega) (by decide) fun H2 w2 s0 s1 => ?_
    generalize drawP ns 0 6075 = sd at *
    walk_at "rd"
    refine st_make w2 fun o dx H3 w3 => ?_
    refine of_Order_init ⟨o, dx, sd, _, rfl, w3.now, fun _ H4 a eo w4 => ?_, fun z => absurd ⟨s0, s1⟩ z⟩
    subst eo
    have w5 : W H H4 ((t, .lst (zeros 1)) :: (orL A a (order0 sd) ++ R)) := (w3.tr w4).pick 7 [6, 0, 1, 2, 3, 4, 5]
    clear w4 w3 w2 w1 w
    walk_at "rd"
    refine draw_at w5 0 rfl (by walk_at "scr") (by omega) (by decide) fun H5 w6 m0 m1 => ?_
    replace w6 : W H H5 ((t, .lst (zeros 2)) :: (orL A a (order0 sd) ++ R)) := w6
    generalize drawP ns 1 11 = dd at *
    obtain ⟨many, hmany⟩ : ∃ many : Nat, 1 + dd = (many : Int) := ⟨(1 + dd).toNat, by omega⟩
    have hm1 : 1 ≤ many ∧ many ≤ 11 := by omega
    clear w5
    walk_at "rd"
    refine st_forR (fun i σ H' => ∃ (s : Or) (u : Option V), σ = [some (.ref sa), some (.ref t), some (.ref a.o), some (.int (1 + dd)), u, none, none, none, none, none, none, none, none, none] ∧ s.Ok ∧ s.mixed = false ∧ s.q.turn.length = i ∧ s.q.tunes.length = i ∧ W H H' ((t, .lst (zeros 2)) :: (orL A a s ++ R)))
      ⟨order0 sd, none, rfl, ok0 ⟨s0, s1⟩, rfl, rfl, rfl, w6⟩ ?_ ?_
    · rintro i σ H6 hi ⟨s, u, rfl, ok, hmx, ht, hu, w7⟩
      have hi2 : i < 11 := by omega
      walk_at "rd"
      refine st_call (of_Order_put ⟨a, s, "a", 0, _, rfl, (w7.rot 1 6).now, ok, by omega, fun _ H7 w8 => ?_, fun z => absurd ⟨by decide, by omega, by omega⟩ z⟩)
      have e : putO s "a" 0 = { s with q := s.q.put "a" 0 } := by unfold putO; rw [if_neg (by rw [hmx]; exact Bool.false_ne_true)]
      have okp := ok.put "a" (p := 0) (by omega) (by omega)
      rw [e] at w8 okp
      refine ⟨{ s with q := s.q.put "a" 0 }, _, rfl, okp, hmx, ?_, ?_, (w7.tr w8).rot 6 1⟩
      · show (insP s.q.turn 0 _).length = i + 1
        rw [insP_len, ht]
      · show (s.q.tunes ++ [_]).length = i + 1
        rw [List.length_append, hu]
        rfl
    rintro σ H6 ⟨s, u, rfl, ok, hmx, ht, hu, w7⟩
    have ht : s.q.turn.length = many := by omega
    have hu : s.q.tunes.length = many := by omega
    clear w6
    walk_at "rd"
    refine st_call (of_Order_set_again ⟨a, s, "all", _, rfl, (w7.rot 1 6).now, fun _ H7 w8 => ?_, fun z => absurd (by decide +kernel) z⟩)
    have w9 : W H H7 ((t, .lst (zeros 2)) :: (orL A a { s with again := "all" } ++ R)) := (w7.tr w8).rot 6 1
    clear w8 w7
    have ok2 : ({ s with again := "all" } : Or).Ok := ⟨ok.q, ok.num, ok.nd, ok.sub, ok.bh⟩
    have hne : s.q.turn ≠ [] := fun z => by rw [z] at ht; simp at ht; omega
    obtain ⟨rd1, dp1, eq1⟩ := start_rd ok2 hmx rfl hne
    walk_at "rd"
    refine st_call (of_Order_set_mixed ⟨a, { s with again := "all" }, true, none, _, rfl, (w9.rot 1 6).now, ok2, fun H8 k1 w10 => ?_⟩)
    have w11 := w9.tr w10
    clear w10 w9
    generalize setM { s with again := "all" } true none = sA at *
    have eqA : sA.q = s.q := eq1
    have dpA : sA.deck.Perm sA.q.turn := by rw [eqA]; exact dp1
    have htA : sA.q.turn.length = many := by rw [eqA]; exact ht
    walk_at "rd"
    refine st_call (of_round ⟨{ a with k := k1 }, sA, none, _, rfl, w11.now, rd1, fun H9 l1 k2 xs1 sB rn1 hx1 w12 => ?_⟩)
    have w13 := w11.tr w12
    clear w12 w11
    obtain ⟨dB0, pB⟩ := rn1.round (.inr dpA) hx1
    have eqB : sB.q = sA.q := rn1.q
    obtain ⟨y1, hy1⟩ := last_some (xs := xs1) (by omega)
    have rdB : Rd2 sB (some y1) := by
      have := rn1.rd
      unfold lastO at this
      rw [hy1] at this
      exact this
    have ha1 := at_m1 hy1
    walk_at "rd"
    refine st_call (of_round ⟨{ a with k := k2 }, sB, some y1, _, rfl, (w13.rot 1 6).now, rdB, fun H10 l2 k3 xs2 sC rn2 hx2 w14 => ?_⟩)
    have w15 := w13.tr w14
    clear w14 w13
    obtain ⟨dC0, pC⟩ := rn2.round (.inl dB0) hx2
    have eqC : sC.q = sB.q := rn2.q
    have hlB : sB.q.turn.length = many := by rw [eqB]; exact htA
    have hlC : sC.q.turn.length = many := by rw [eqC]; exact hlB
    obtain ⟨y2, hy2⟩ := last_some (xs := xs2) (by omega)
    have rdC : Rd2 sC (some y2) := by
      have := rn2.rd
      unfold lastO at this
      rw [hy2] at this
      exact this
    have ha2 := at_m1 hy2
    replace w15 : W H H10 ((l2, .lst (xs2.map V.int)) :: (l1, .lst (xs1.map V.int)) :: (t, .lst (zeros 2)) :: (orL A { a with k := k3 } sC ++ R)) := w15.pick 9 [0, 7, 8, 1, 2, 3, 4, 5, 6]
    walk_at "rd"
    refine st_sorted w15 (SqL.of (w15.get 1 rfl)) (by omega) fun z1 p1 H11 hp1 hs1 w16 => ?_
    walk_at "rd"
    refine st_call (of_Queue_entries ⟨a.q, sC.q, _, rfl, (w16.rot 5 3).now, fun H12 l3 w17 => ?_⟩)
    have w18 := w16.tr w17
    clear w17
    walk_at "rd"
    refine st_sorted w18 (SqL.of (w18.get 0 rfl)) (by omega) fun z2 p2 H13 hp2 hs2 w19 => ?_
    have ez : z1 = z2 := sorted_same (hp1.trans (pB.trans (by rw [← eqB, ← eqC]; exact hp2.symm))) hs1 hs2
    subst ez
    refine st_neS (dp_ints (SqL.of (w19.get 5 rfl))) (dp_ints (SqL.of (w19.get 0 rfl))) (sh_list (sh_ints _)) ?_
    walk_at "rd"
    refine xIf_F rfl ?_
    walk_at "rd"
    refine st_sorted w19 (SqL.of (w19.get 6 rfl)) (by omega) fun z3 p3 H14 hp3 hs3 w20 => ?_
    walk_at "rd"
    refine st_sorted w20 (SqL.of (w20.get 8 rfl)) (by omega) fun z4 p4 H15 hp4 hs4 w21 => ?_
    have ez2 : z3 = z4 := sorted_same (hp3.trans (pC.trans (by rw [eqB]; exact pB.symm.trans hp4.symm))) hs3 hs4
    subst ez2
    refine st_neS (dp_ints (SqL.of (w21.get 1 rfl))) (dp_ints (SqL.of (w21.get 0 rfl))) (sh_list (sh_ints _)) ?_
    walk_at "rd"
    refine xIf_F rfl ?_
    replace w21 : W H H15 ((l2, .lst (xs2.map V.int)) :: (l1, .lst (xs1.map V.int)) :: (t, .lst (zeros 2)) :: (orL A { a with k := k3 } sC ++ R)) := w21.pick 14 [8, 9, 10, 11, 4, 5, 6, 12, 13]
    clear w20 w19 w18 w16 w15
    walk_at "rd"
    refine st_new w21 fun lb H16 w22 => ?_
    rw [← List.map_append] at w22
    walk_at "rd"
    refine st_new w22 fun lt H17 w23 => ?_
    replace w23 : W H H17 ((lt, .lst (([] : List Int).map V.int)) :: (lb, .lst ((xs1 ++ xs2).map V.int)) :: (t, .lst (zeros 2)) :: (orL A { a with k := k3 } sC ++ R)) := w23.pick 4 [0, 1]
    clear w22 w21
    walk_at "rd"
    refine draw_at w23 2 rfl (by walk_at "scr") (by omega) (by omega) fun H18 w24 g0 g1 => ?_
    replace w24 : W H H18 ((lt, .lst (([] : List Int).map V.int)) :: (lb, .lst ((xs1 ++ xs2).map V.int)) :: (t, .lst (zeros 3)) :: (orL A { a with k := k3 } sC ++ R)) := w24
    generalize drawP ns 2 (1 + dd) = g at *
    clear w23
    walk_at "rd"
    refine st_forR (fun i σ H' => ∃ (xs : List Int) (s' : Or) (k' : Addr) (u : Option V), σ = [some (.ref sa), some (.ref t), some (.ref a.o), some (.int (1 + dd)), u, some (.ref l1), some (.ref l2), some (.ref lb), some (oV (lastO (some y2) xs)), some (.ref lt), none, none, none, none] ∧ Ran sC (some y2) xs s' ∧ xs.length = i ∧ W H H' ((lt, .lst (xs.map V.int)) :: (lb, .lst ((xs1 ++ xs2).map V.int)) :: (t, .lst (zeros 3)) :: (orL A { a with k := k' } s' ++ R)))
      ⟨[], sC, k3, u, rfl, Ran.zero rdC, rfl, w24⟩ ?_ ?_
    · rintro i σ H19 hi ⟨xs, s', k', u, rfl, rn, hx, w5⟩
      have hi2 : i < 11 := by omega
      obtain ⟨v, ev, rn2⟩ := rn.step
      walk_at "rd"
      refine st_call (of_Order_skip ⟨{ a with k := k' }, s', lastO (some y2) xs, _, rfl, (w5.rot 3 6).now, rn.rd.ok, fun H4 k2 w6 => ?_⟩)
      have w7 := w5.tr w6
      rw [ev]
      clear w6
      walk_at "rd"
      refine st_call (of_Order_began ⟨{ a with k := k2 }, skipS s' (lastO (some y2) xs), v, _, rfl, w7.now, rn.rd.ok.skip _, fun H5 w8 => ?_⟩)
      have w9 := w7.tr w8
      clear w8
      walk_at "rd"
      refine st_app w9 6 rfl (by rw [List.length_map]; exact szL (by omega)) fun H6 w10 => ?_
      refine ⟨xs ++ [v], _, k2, some (.int (0 + (i : Int))), ?_, rn2, by rw [List.length_append, hx]; rfl, ?_⟩
      · rw [lastO_snoc]; rfl
      · rw [List.map_append]
        exact w10.pick 9 [6, 7, 8, 0, 1, 2, 3, 4, 5]
    rintro σ H19 ⟨third, sD, k4, u2, rfl, rn3, hx3, w25⟩
    clear w24
    have eqD : sD.q = sC.q := rn3.q
    have hlD : sD.q.turn.length = many := by rw [eqD]; exact hlC
    have huD : sD.q.tunes.length = many := by rw [eqD, eqC, eqB, eqA]; exact hu
    have hx3 : third.length < many := by omega
    have hrep : 2 < many → noRep (xs1 ++ xs2 ++ third) ∧ (xs1 ++ xs2 ++ third).getLast? = lastO (some y2) third := fun hm => by
      have r1 := rn1.sep (by omega) [] noRep_nil rfl
      rw [List.nil_append] at r1
      have r2 := rn2.sep (by omega) xs1 r1 hy1
      have l2 : (xs1 ++ xs2).getLast? = some y2 := by rw [last_app]; unfold lastO; rw [hy2]
      exact ⟨rn3.sep (by omega) _ r2 l2, by rw [last_app, l2]⟩
    generalize hnow : lastO (some y2) third = nowD at *
    have rdD : Rd2 sD nowD := by rw [← hnow]; exact rn3.rd
    walk_at "rd"
    refine draw_at w25 2 rfl (by walk_at "scr") (by omega) (by decide) fun H20 w26 _ _ => ?_
    replace w26 : W H H20 ((lt, .lst (third.map V.int)) :: (lb, .lst ((xs1 ++ xs2).map V.int)) :: (t, .lst (zeros 4)) :: (orL A { a with k := k4 } sD ++ R)) := w26
    generalize drawP ns 3 3 = way at *
    clear w25
    have hq := rdD.ok.q.sz
    have hcD : third ≠ [] → (third ++ sD.deck).Perm sD.q.turn := fun hz => by
      rw [eqD]
      exact rn3.dk2 dC0 hz (by omega)
    have lfD : third ≠ [] → (notIn third sD.q.turn).Perm sD.deck := fun hz => left_perm (hcD hz) rdD.ok.q.nd
    have hnew : ((sD.q.tunes.length : Int) + 1) ∉ third := fun hz => by
      have hne3 : third ≠ [] := fun z => by rw [z] at hz; cases hz
      have := rdD.ok.q.bd _ ((hcD hne3).mem_iff.mp (List.mem_append_left _ hz))
      omega
    walk_at "rd"
    refine xIf_2 (fun h => ?_) (fun h => ?_)
    case' refine_1 =>
      walk_at "rd"
      refine draw_at w26 2 rfl (by walk_at "scr") (by omega) (by omega) fun H21 w27 p0 p1 => ?_
      replace w27 : W H H21 ((lt, .lst (third.map V.int)) :: (lb, .lst ((xs1 ++ xs2).map V.int)) :: (t, .lst (zeros 5)) :: (orL A { a with k := k4 } sD ++ R)) := w27
      generalize drawP ns 4 (1 + dd + 1) = pl at *
      walk_at "rd"
      refine st_call (of_Order_put ⟨{ a with k := k4 }, sD, "b", pl, _, rfl, (w27.rot 3 6).now, rdD.ok, by omega, fun _ H22 w28 => ?_, fun z => absurd ⟨p0, by omega, by omega⟩ z⟩)
      have rdE := rdD.put "b" (p := pl) (by omega) (by omega)
      have lfE : third ≠ [] → (notIn third (putO sD "b" pl).q.turn).Perm (putO sD "b" pl).deck := fun hz => put_left rdD.mx (lfD hz) hnew
      have hlE : (putO sD "b" pl).q.turn.length = many + 1 := by
        have e : (putO sD "b" pl).q = sD.q.put "b" pl := by unfold putO; split <;> rfl
        rw [e]
        show (insP sD.q.turn _ _).length = _
        rw [insP_len, hlD]
      have hlE2 : many ≤ (putO sD "b" pl).q.turn.length ∧ (putO sD "b" pl).q.turn.length ≤ 12 := by omega
      obtain ⟨nn, w29, hnn⟩ : ∃ nn, W H H22 ((lt, .lst (third.map V.int)) :: (lb, .lst ((xs1 ++ xs2).map V.int)) :: (t, .lst (zeros nn)) :: (orL A { a with k := k4 } (putO sD "b" pl) ++ R)) ∧ nn ≤ 5 := ⟨5, (w27.tr w28).rot 6 3, Nat.le_refl _⟩
      clear w28 w27 w26
      generalize putO sD "b" pl = sE at *
    case' refine_2 =>
      have rdE := rdD
      have lfE := lfD
      have hlE2 : many ≤ sD.q.turn.length ∧ sD.q.turn.length ≤ 12 := by omega
      obtain ⟨nn, w29, hnn⟩ : ∃ nn, W H H20 ((lt, .lst (third.map V.int)) :: (lb, .lst ((xs1 ++ xs2).map V.int)) :: (t, .lst (zeros nn)) :: (orL A { a with k := k4 } sD ++ R)) ∧ nn ≤ 5 := ⟨4, w26, by omega⟩
      clear w26
      generalize sD = sE at *
    all_goals
      walk_at "rd"
      refine st_call (of_Queue_entries ⟨a.q, sE.q, _, rfl, (w29.rot 4 3).now, fun H23 le w30 => ?_⟩)
      have w31 := w29.tr w30
      clear w30 w29
      walk_at "rd"
      refine st_butW (fun x => !decide (x ∈ third)) w31 0 rfl (by omega) ?_ ?_
      · intro D n P H' ds wX h1 h2
        walk_at "rd"
        refine xIf_2 (fun h => ?_) (fun h => h2 (by
          have h : (!inV (.int n) (third.map V.int)) = false := h
          rw [inV_ints] at h; exact h))
        walk_at "rd"
        exact h1 (by
          have h : (!inV (.int n) (third.map V.int)) = true := h
          rw [inV_ints] at h; exact h)
      · intro ll H24 w32
        replace w32 : W H H24 ((ll, .lst ((notIn third sE.q.turn).map V.int)) :: (lt, .lst (third.map V.int)) :: (lb, .lst ((xs1 ++ xs2).map V.int)) :: (t, .lst (zeros nn)) :: (orL A { a with k := k4 } sE ++ R)) := w32.pick 11 [0, 5, 6, 7, 8, 2, 3, 4, 9, 10]
        clear w31
        have hlft : (notIn third sE.q.turn).length ≤ 12 := Nat.le_trans (List.length_filter_le _ _) hlE2.2
        have hlsub : ∀ x ∈ notIn third sE.q.turn, x ∈ sE.q.turn := fun x hx => (List.mem_filter.mp hx).1
        have hlle : (notIn third sE.q.turn).length ≤ sE.q.turn.length := List.length_filter_le _ _
        generalize notIn third sE.q.turn = left at *
        walk_at "rd"
        by_cases hc : way = 1 ∧ 1 < left.length
        case' pos =>
          obtain ⟨e0, tl, rfl⟩ : ∃ e0 tl, left = e0 :: tl := by
            cases left with
            | nil => exact absurd hc.2 (by simp)
            | cons e0 tl => exact ⟨e0, tl, rfl⟩
          have h0 : atI ((e0 :: tl).map V.int) 0 = some (.int e0) := atI_nat rfl
          have he0 := hlsub e0 List.mem_cons_self
          have hlt : 1 < sE.q.turn.length := by have := hc.2; omega
          refine xIf_T (decide_eq_true (by rw [hc.1])) ?_
          walk_at "rd"
          refine xIf_T (decide_eq_true (by rw [List.length_map]; have := hc.2; omega)) ?_
          walk_at "rd"
          refine st_call (of_Order_remove ⟨{ a with k := k4 }, sE, e0, nowD, _, rfl, (w32.rot 4 6).now, rdE.ok, fun _ H25 w33 => ?_, fun z => absurd he0 z⟩)
          have w34 := w32.tr w33
          clear w33
          walk_at "rd"
          refine st_new w34 fun lf H26 w35 => ?_
          walk_at "rd"
          have rdF := rdE.rem he0 hlt
          have lfF : third ≠ [] → tl.Perm (remO sE e0 nowD).deck := fun hz => by
            have p := (lfE hz).erase e0
            rw [List.erase_cons_head] at p
            exact p
          have hlF : 2 < many → 1 < (remO sE e0 nowD).q.turn.length := fun hm => by
            show 1 < (sE.q.turn.erase e0).length
            rw [List.length_erase_of_mem he0]
            have := hlE2.1
            omega
          have ec : cutV ((e0 :: tl).map V.int) (some 1) none = tl.map V.int := by
            unfold cutV
            rw [HT.sIx_none, show HT.sIx ((e0 :: tl).map V.int).length 0 (some 1) = 1 from by unfold HT.sIx; simp only; rw [if_neg (by decide)]; rw [List.length_map, List.length_cons]; show min 1 _ = 1; omega]
            rw [List.take_of_length_le (by rw [List.length_drop]; omega)]
            rfl
          rw [ec] at w35
          have w36 : W H H26 ((lf, .lst (tl.map V.int)) :: (lt, .lst (third.map V.int)) :: (lb, .lst ((xs1 ++ xs2).map V.int)) :: (t, .lst (zeros nn)) :: (orL A { a with k := k4 } (remO sE e0 nowD) ++ R)) := w35.pick 11 [0, 8, 9, 10, 1, 2, 3, 4, 5, 6]
          have hlf : tl.length ≤ 12 := by rw [List.length_cons] at hlft; omega
          clear w35 w34 w32
          generalize remO sE e0 nowD = sF at *
          generalize tl = leftF at *
        case' neg =>
          have w36 := w32
          have rdF := rdE
          have lfF := lfE
          have hlF : 2 < many → 1 < sE.q.turn.length := fun hm => by omega
          have hlf := hlft
          clear w32
          generalize sE = sF at *
          generalize left = leftF at *
          by_cases hw : way = 1
          case' pos =>
            refine xIf_T (decide_eq_true (by rw [hw])) ?_
            walk_at "rd"
            refine xIf_F (decide_eq_false (by rw [List.length_map]; intro z; exact hc ⟨hw, by omega⟩)) ?_
          case' neg =>
            refine xIf_F (decide_eq_false (fun z => hw (V.int.inj z))) ?_
            refine xIf_F rfl ?_
        all_goals
          walk_at "rd"
          refine st_new w36 fun lr H30 w37 => ?_
          replace w37 : W H H30 ((lr, .lst (([] : List Int).map V.int)) :: _) := w37
          walk_at "rd"
          rw [List.length_map]
          refine st_forR (fun i σ H' => ∃ (xs : List Int) (s' : Or) (k' : Addr) (u4 : Option V), σ = [some (.ref sa), some (.ref t), some (.ref a.o), some (.int (1 + dd)), u4, some (.ref l1), some (.ref l2), some (.ref lb), some (oV (lastO nowD xs)), some (.ref lt), some (.int way), some (.ref _), some (.ref lr), none] ∧ Ran sF nowD xs s' ∧ xs.length = i ∧ W H H' ((lr, .lst (xs.map V.int)) :: (_, .lst (leftF.map V.int)) :: (lt, .lst (third.map V.int)) :: (lb, .lst ((xs1 ++ xs2).map V.int)) :: (t, .lst (zeros nn)) :: (orL A { a with k := k' } s' ++ R)))
            ⟨[], sF, k4, u2, rfl, Ran.zero rdF, rfl, w37⟩ ?_ ?_
          · rintro i σ H31 hi ⟨xs, s', k', u4, rfl, rn, hx, w5⟩
            have hi2 : i < 12 := by have := Int.toNat_natCast leftF.length; omega
            obtain ⟨v, ev, rn2⟩ := rn.step
            walk_at "rd"
            refine st_call (of_Order_skip ⟨{ a with k := k' }, s', lastO nowD xs, _, rfl, (w5.rot 5 6).now, rn.rd.ok, fun H4 k2 w6 => ?_⟩)
            have w7 := w5.tr w6
            rw [ev]
            clear w6
            walk_at "rd"
            refine st_call (of_Order_began ⟨{ a with k := k2 }, skipS s' (lastO nowD xs), v, _, rfl, w7.now, rn.rd.ok.skip _, fun H5 w8 => ?_⟩)
            have w9 := w7.tr w8
            clear w8
            walk_at "rd"
            refine st_app w9 6 rfl (by rw [List.length_map]; exact szL (by omega)) fun H6 w10 => ?_
            refine ⟨xs ++ [v], _, k2, some (.int (0 + (i : Int))), ?_, rn2, by rw [List.length_append, hx]; rfl, ?_⟩
            · rw [lastO_snoc]; rfl
            · rw [List.map_append]
              exact w10.pick 11 [6, 7, 8, 9, 10, 0, 1, 2, 3, 4, 5]
          · rintro σ H31 ⟨rest, sG, k5, u4, rfl, rn4, hx4, w38⟩
            have hx4 : rest.length = leftF.length := by omega
            have rdG := rn4.rd
            walk_at "rd"
            refine st_new w38 fun n1 H32 w39 => ?_
            refine st_neN (SqL.of (w39.get 3 rfl)) (SqL.of (w39.get 0 rfl)) ?_
            walk_at "rd"
            have hend : third = [] ∨ (sG.deck = [] ∧ rest.Perm leftF) := by
              by_cases hz : third = []
              · exact .inl hz
              · exact .inr (rn4.rest (lfF hz) hx4)
            rcases hend with hz | ⟨hdG, hpG⟩
            case' inl =>
              refine xIf_F (by rw [decide_eq_true hz]; rfl) ?_
              refine xIf_F rfl ?_
              obtain ⟨Rz, hRz, H40, eH40⟩ : ∃ Rz, Rz = R ∧ ∃ H40, H40 = H32 := ⟨_, rfl, _, rfl⟩
              have w40 : W H H40 ((lr, .lst (rest.map V.int)) :: (lt, .lst (third.map V.int)) :: (lb, .lst ((xs1 ++ xs2).map V.int)) :: (t, .lst (zeros nn)) :: (orL A { a with k := k5 } sG ++ R)) := by rw [eH40]; exact w39.pick 3 [1]
              rw [← eH40]
              have hfin : third = [] ∨ sG.deck = [] := .inl hz
            case' inr =>
              by_cases hz : third = []
              case' pos =>
                refine xIf_F (by rw [decide_eq_true hz]; rfl) ?_
                refine xIf_F rfl ?_
                obtain ⟨H40, eH40⟩ : ∃ H40, H40 = H32 := ⟨_, rfl⟩
                have w40 : W H H40 ((lr, .lst (rest.map V.int)) :: (lt, .lst (third.map V.int)) :: (lb, .lst ((xs1 ++ xs2).map V.int)) :: (t, .lst (zeros nn)) :: (orL A { a with k := k5 } sG ++ R)) := by rw [eH40]; exact w39.pick 3 [1]
                rw [← eH40]
                have hfin : third = [] ∨ sG.deck = [] := .inl hz
              case' neg =>
                refine xIf_T (by rw [decide_eq_false hz]; rfl) ?_
                walk_at "rd"
                refine st_sorted w39 (SqL.of (w39.get 1 rfl)) (by omega) fun z5 p5 H33 hp5 hs5 wa => ?_
                walk_at "rd"
                refine st_sorted wa (SqL.of (wa.get 3 rfl)) (by omega) fun z6 p6 H40 hp6 hs6 wb => ?_
                have ez : z5 = z6 := sorted_same (hp5.trans (hpG.trans hp6.symm)) hs5 hs6
                subst ez
                refine st_neS (dp_ints (SqL.of (wb.get 1 rfl))) (dp_ints (SqL.of (wb.get 0 rfl))) (sh_list (sh_ints _)) ?_
                walk_at "rd"
                refine xIf_F rfl ?_
                have w40 : W H H40 ((lr, .lst (rest.map V.int)) :: (lt, .lst (third.map V.int)) :: (lb, .lst ((xs1 ++ xs2).map V.int)) :: (t, .lst (zeros nn)) :: (orL A { a with k := k5 } sG ++ R)) := wb.pick 5 [3]
                have hfin : third = [] ∨ sG.deck = [] := .inr hdG
                clear wa wb
            all_goals
              have hb1 : xs1.length = many := by omega
              have hb2 : xs2.length = many := by omega
              clear w39 w38
              walk_at "rd"
              refine st_new w40 fun lc H41 w41 => ?_
              rw [← List.map_append] at w41
              walk_at "rd"
              refine st_new w41 fun ld H42 w42 => ?_
              rw [← List.map_append] at w42
              replace w42 : W H H42 ((ld, .lst ((xs1 ++ xs2 ++ third ++ rest).map V.int)) :: (lr, .lst (rest.map V.int)) :: (lt, .lst (third.map V.int)) :: (lb, .lst ((xs1 ++ xs2).map V.int)) :: (t, .lst (zeros nn)) :: (orL A { a with k := k5 } sG ++ R)) := w42.pick 2 [0]
              have hall : (xs1 ++ xs2 ++ third ++ rest).length ≤ 100 := by
                simp only [List.length_append]
                omega
              have hrep2 : 2 < many → noRep (xs1 ++ xs2 ++ third ++ rest) := fun hm => rn4.sep (hlF hm) _ (hrep hm).1 (hrep hm).2
              generalize xs1 ++ xs2 ++ third ++ rest = all at *
              clear w41 w40
              walk_at "rd"
              by_cases hm : 2 < many
              case' pos =>
                refine xIf_T (decide_eq_true (by omega)) ?_
                have hr := hrep2 hm
                walk_at "rd"
                refine st_lcR (fun D i H' => W H H' ((D, .lst []) :: (ld, .lst (all.map V.int)) :: (lr, .lst (rest.map V.int)) :: (lt, .lst (third.map V.int)) :: (lb, .lst ((xs1 ++ xs2).map V.int)) :: (t, .lst (zeros nn)) :: (orL A { a with k := k5 } sG ++ R))) w42 (fun D H' w1 => w1) ?_ ?_
                case' refine_1 =>
                  intro D i H' hi wX
                  have hi2 : i + 1 < all.length := by rw [List.length_map] at hi; omega
                  obtain ⟨va, hva⟩ : ∃ va, all[i]? = some va := ⟨_, List.getElem?_eq_getElem (by omega)⟩
                  obtain ⟨vb, hvb⟩ : ∃ vb, all[i + 1]? = some vb := ⟨_, List.getElem?_eq_getElem hi2⟩
                  have hne := hr i hi2
                  rw [hva, hvb] at hne
                  have ga : atI (all.map V.int) (0 + (i : Int)) = some (.int va) := at_of (j := i) (by omega) (by rw [List.getElem?_map, hva]; rfl)
                  have gb : atI (all.map V.int) (0 + (i : Int) + 1) = some (.int vb) := at_of (j := i + 1) (by omega) (by rw [List.getElem?_map, hvb]; rfl)
                  walk_at "rd"
                  exact xIf_F (decide_eq_false (fun z => hne (by rw [V.int.inj z]))) wX
                intro D H43 w43
                walk_at "rd"
                refine st_new w43 fun n3 H44 w44 => ?_
                refine st_neN (ns := []) (SqL.of (w44.get 1 rfl)) (SqL.of (w44.get 0 rfl)) ?_
                walk_at "rd"
                refine xIf_F (by rw [decide_eq_true rfl]; rfl) ?_
                have w45 : W H H44 ((lt, .lst (third.map V.int)) :: (t, .lst (zeros nn)) :: (orL A { a with k := k5 } sG ++ R)) := w44.pick 7 [4, 6]
                clear w44 w43 w42
              case' neg =>
                refine xIf_F (decide_eq_false (by omega)) ?_
                refine xIf_F rfl ?_
                have w45 : W H H42 ((lt, .lst (third.map V.int)) :: (t, .lst (zeros nn)) :: (orL A { a with k := k5 } sG ++ R)) := w42.pick 5 [2, 4]
                clear w42
              all_goals
                walk_at "rd"
                refine st_call (of_Order_set_again ⟨{ a with k := k5 }, sG, "none", _, rfl, (w45.rot 2 6).now, fun _ H50 w50 => ?_, fun z => absurd (by decide +kernel) z⟩)
                have w51 := w45.tr w50
                clear w50
                walk_at "rd"
                refine st_new w51 fun n4 H51 w52 => ?_
                refine st_eqN (SqL.of (w52.get 7 rfl)) (SqL.of (w52.get 0 rfl)) ?_
                walk_at "rd"
                by_cases hz3 : third = []
                · exact xIf_T (decide_eq_true hz3) (k H51)
                · refine xIf_F (decide_eq_false hz3) ?_
                  have hdk := hfin.resolve_left hz3
                  have okG : ({ sG with again := "none" } : Or).Ok := ⟨rdG.ok.q, rdG.ok.num, rdG.ok.nd, rdG.ok.sub, rdG.ok.bh⟩
                  have hsk := rdG.end_ hdk
                  walk_at "rd"
                  refine st_call (of_Order_skip ⟨{ a with k := k5 }, { sG with again := "none" }, lastO nowD rest, _, rfl, (w52.rot 1 6).now, okG, fun H53 k6 w53 => ?_⟩)
                  rw [hsk]
                  walk_at "rd"
                  rw [show decide (oV none = V.non) = true from rfl]
                  exact k H53
end
end TR
namespace TR
open PySem PySem.Spec PyProof.Rows L2
def dd_wall : He.DefD := ⟨("_wall", none), "_wall", "_wall", defArgs s_wall, defBody s_wall, defScope s_wall, [], []⟩
def dd_Dice_init__ : He.DefD := ⟨("Dice", some "__init__"), "__init__", "Dice.__init__", defArgs s_Dice_init__, defBody s_Dice_init__, defScope s_Dice_init__, [], []⟩
def dd_Dice_below : He.DefD := ⟨("Dice", some "below"), "below", "Dice.below", defArgs s_Dice_below, defBody s_Dice_below, defScope s_Dice_below, [], []⟩
def dd_Dice_twin : He.DefD := ⟨("Dice", some "twin"), "twin", "Dice.twin", defArgs s_Dice_twin, defBody s_Dice_twin, defScope s_Dice_twin, [], []⟩
def dd_mixed : He.DefD := ⟨("mixed", none), "mixed", "mixed", defArgs s_mixed, defBody s_mixed, defScope s_mixed, [], []⟩
def dd_Queue_init__ : He.DefD := ⟨("Queue", some "__init__"), "__init__", "Queue.__init__", defArgs s_Queue_init__, defBody s_Queue_init__, defScope s_Queue_init__, [], []⟩
def dd_Queue_entries : He.DefD := ⟨("Queue", some "entries"), "entries", "Queue.entries", defArgs s_Queue_entries, defBody s_Queue_entries, defScope s_Queue_entries, [], []⟩
def dd_Queue_need : He.DefD := ⟨("Queue", some "need"), "need", "Queue.need", defArgs s_Queue_need, defBody s_Queue_need, defScope s_Queue_need, [], []⟩
def dd_Queue_tune : He.DefD := ⟨("Queue", some "tune"), "tune", "Queue.tune", defArgs s_Queue_tune, defBody s_Queue_tune, defScope s_Queue_tune, [], []⟩
def dd_Queue_put : He.DefD := ⟨("Queue", some "put"), "put", "Queue.put", defArgs s_Queue_put, defBody s_Queue_put, defScope s_Queue_put, [], []⟩
def dd_Queue_remove : He.DefD := ⟨("Queue", some "remove"), "remove", "Queue.remove", defArgs s_Queue_remove, defBody s_Queue_remove, defScope s_Queue_remove, [], []⟩
def dd_Queue_move : He.DefD := ⟨("Queue", some "move"), "move", "Queue.move", defArgs s_Queue_move, defBody s_Queue_move, defScope s_Queue_move, [], []⟩
def dd_Queue_place : He.DefD := ⟨("Queue", some "place"), "place", "Queue.place", defArgs s_Queue_place, defBody s_Queue_place, defScope s_Queue_place, [], []⟩
def dd_Queue_twin : He.DefD := ⟨("Queue", some "twin"), "twin", "Queue.twin", defArgs s_Queue_twin, defBody s_Queue_twin, defScope s_Queue_twin, [], []⟩
def dd_Order_init__ : He.DefD := ⟨("Order", some "__init__"), "__init__", "Order.__init__", defArgs s_Order_init__, defBody s_Order_init__, defScope s_Order_init__, [], []⟩
def dd_Order_set_again : He.DefD := ⟨("Order", some "set_again"), "set_again", "Order.set_again", defArgs s_Order_set_again, defBody s_Order_set_again, defScope s_Order_set_again, [], []⟩
def dd_Order_set_mixed : He.DefD := ⟨("Order", some "set_mixed"), "set_mixed", "Order.set_mixed", defArgs s_Order_set_mixed, defBody s_Order_set_mixed, defScope s_Order_set_mixed, [], []⟩
def dd_Order_put : He.DefD := ⟨("Order", some "put"), "put", "Order.put", defArgs s_Order_put, defBody s_Order_put, defScope s_Order_put, [], []⟩
def dd_Order_remove : He.DefD := ⟨("Order", some "remove"), "remove", "Order.remove", defArgs s_Order_remove, defBody s_Order_remove, defScope s_Order_remove, [], []⟩
def dd_Order_next_plain : He.DefD := ⟨("Order", some "next_plain"), "next_plain", "Order.next_plain", defArgs s_Order_next_plain, defBody s_Order_next_plain, defScope s_Order_next_plain, [], []⟩
def dd_Order_next_mixed : He.DefD := ⟨("Order", some "next_mixed"), "next_mixed", "Order.next_mixed", defArgs s_Order_next_mixed, defBody s_Order_next_mixed, defScope s_Order_next_mixed, [], []⟩
def dd_Order_after : He.DefD := ⟨("Order", some "after"), "after", "Order.after", defArgs s_Order_after, defBody s_Order_after, defScope s_Order_after, [], []⟩
def dd_Order_skip : He.DefD := ⟨("Order", some "skip"), "skip", "Order.skip", defArgs s_Order_skip, defBody s_Order_skip, defScope s_Order_skip, [], []⟩
def dd_Order_first : He.DefD := ⟨("Order", some "first"), "first", "Order.first", defArgs s_Order_first, defBody s_Order_first, defScope s_Order_first, [], []⟩
def dd_Order_began : He.DefD := ⟨("Order", some "began"), "began", "Order.began", defArgs s_Order_began, defBody s_Order_began, defScope s_Order_began, [], []⟩
def dd_Order_twin : He.DefD := ⟨("Order", some "twin"), "twin", "Order.twin", defArgs s_Order_twin, defBody s_Order_twin, defScope s_Order_twin, [], []⟩
def dd_law_cell : He.DefD := ⟨("_law_cell", none), "_law_cell", "_law_cell", defArgs s_law_cell, defBody s_law_cell, defScope s_law_cell, [], []⟩
def dd_law_mix : He.DefD := ⟨("_law_mix", none), "_law_mix", "_law_mix", defArgs s_law_mix, defBody s_law_mix, defScope s_law_mix, [], []⟩
def dd_law_draw : He.DefD := ⟨("_law_draw", none), "_law_draw", "_law_draw", defArgs s_law_draw, defBody s_law_draw, defScope s_law_draw, [], []⟩
def dd_law_round : He.DefD := ⟨("_law_round", none), "_law_round", "_law_round", defArgs s_law_round, defBody s_law_round, defScope s_law_round, [], []⟩
def dd_law : He.DefD := ⟨("law", none), "law", "law", defArgs s_law, defBody s_law, defScope s_law, [], []⟩
def hfn : List He.DefD := [dd_wall, dd_Dice_init__, dd_Dice_below, dd_Dice_twin, dd_mixed, dd_Queue_init__, dd_Queue_entries, dd_Queue_need, dd_Queue_tune, dd_Queue_put, dd_Queue_remove, dd_Queue_move, dd_Queue_place, dd_Queue_twin, dd_Order_init__, dd_Order_set_again, dd_Order_set_mixed, dd_Order_put, dd_Order_remove, dd_Order_next_plain, dd_Order_next_mixed, dd_Order_after, dd_Order_skip, dd_Order_first, dd_Order_began, dd_Order_twin, dd_law_cell, dd_law_mix, dd_law_draw, dd_law_round, dd_law]
def hfa0 : List He.Fa := [.free "len", .free "list", .free "range", .free "sorted", .int "WHEEL" 6075, .int "TIMES" 106, .int "MORE" 1283, .int "MOST" 60, .int "MOST_ENTRIES" 12, .glo "REPEATS", .glo "RoadError", .glo "BadNumber", .glo "BadEntry", .glo "BadWord", .glo "Dice", .glo "Queue", .glo "Order", .cls "Dice", .mkr "Dice", .noat "Dice" "number", .cls "Queue", .mkr "Queue", .noat "Queue" "tunes", .noat "Queue" "turn", .noat "Queue" "last", .cls "Order", .mkr "Order", .noat "Order" "queue", .noat "Order" "dice", .noat "Order" "is_mixed"]
def hfa1 : List He.Fa := [.noat "Order" "again", .noat "Order" "deck", .noat "Order" "is_gone", .noat "Order" "behind", .glo "_wall", .meth "Dice" "__init__", .meth "Dice" "below", .meth "Dice" "twin", .glo "mixed", .meth "Queue" "__init__", .meth "Queue" "entries", .meth "Queue" "need", .meth "Queue" "tune", .meth "Queue" "put", .meth "Queue" "remove", .meth "Queue" "move", .meth "Queue" "place", .meth "Queue" "twin", .meth "Order" "__init__", .meth "Order" "set_again", .meth "Order" "set_mixed", .meth "Order" "put", .meth "Order" "remove", .meth "Order" "next_plain", .meth "Order" "next_mixed", .meth "Order" "after", .meth "Order" "skip", .meth "Order" "first", .meth "Order" "began", .meth "Order" "twin"]
def hfa2 : List He.Fa := [.glo "_law_cell", .glo "_law_mix", .glo "_law_draw", .glo "_law_round", .glo "law"]
def hfa : List He.Fa := hfa0 ++ (hfa1 ++ (hfa2))
def hx_x_RoadError (K : PySem.W.Frag) : Bool := PySem.W.excIn K (He.ga K "RoadError") He.veBase "ValueError.__new__"
def hx_k_RoadError (K : PySem.W.Frag) : Bool := PySem.W.keepIn K (.ref (He.ga K "RoadError"))
def hx_r_RoadError (K : PySem.W.Frag) : Bool := decide (PySem.W.subIn K (.ref (He.ga K "RoadError")) (.type "BaseException") = some true)
def hx_t_RoadError (K : PySem.W.Frag) : Bool := decide (PySem.W.typeIn K (.ref (He.ga K "RoadError")) = some (.type "type"))
def hx_e_RoadError_hg (K : PySem.W.Frag) : Bool := decide (PySem.W.findIn K (.ref (He.ga K "RoadError")) "__getattribute__" = some (some (.builtin "BaseException.__getattribute__")))
def hx_e_RoadError_hk (K : PySem.W.Frag) : Bool := decide (PySem.W.findIn K (.ref (He.ga K "RoadError")) "__getattr__" = some none)
def hx_e_RoadError_hd (K : PySem.W.Frag) : Bool := PySem.W.hasDictIn K (He.ga K "RoadError")
def hx_e_RoadError_ha (K : PySem.W.Frag) : Bool := decide (PySem.W.findIn K (.ref (He.ga K "RoadError")) "__class__" = some (some (.builtin "object.__class__")))
def hx_e_RoadError_hm (K : PySem.W.Frag) : Bool := decide (PySem.W.mroIn K (He.ga K "RoadError") (.type "object") = some true)
def hx_m_RoadError (K : PySem.W.Frag) : Bool := decide (PySem.W.exmOne K (.ref (He.ga K "RoadError")) (.ref (He.ga K "RoadError")) = some true)
def hx_i_RoadError_RoadError (K : PySem.W.Frag) : Bool := decide (PySem.W.kitOne K (.ref (He.ga K "RoadError")) (.ref (He.ga K "RoadError")) = some true)
def hx_i_RoadError_BadNumber (K : PySem.W.Frag) : Bool := decide (PySem.W.kitOne K (.ref (He.ga K "RoadError")) (.ref (He.ga K "BadNumber")) = some false)
def hx_i_RoadError_BadEntry (K : PySem.W.Frag) : Bool := decide (PySem.W.kitOne K (.ref (He.ga K "RoadError")) (.ref (He.ga K "BadEntry")) = some false)
def hx_i_RoadError_BadWord (K : PySem.W.Frag) : Bool := decide (PySem.W.kitOne K (.ref (He.ga K "RoadError")) (.ref (He.ga K "BadWord")) = some false)
def hx_i_RoadError_ValueError (K : PySem.W.Frag) : Bool := decide (PySem.W.kitOne K (.ref (He.ga K "RoadError")) (.type "ValueError") = some true)
def hx_x_BadNumber (K : PySem.W.Frag) : Bool := PySem.W.excIn K (He.ga K "BadNumber") He.veBase "ValueError.__new__"
def hx_k_BadNumber (K : PySem.W.Frag) : Bool := PySem.W.keepIn K (.ref (He.ga K "BadNumber"))
def hx_r_BadNumber (K : PySem.W.Frag) : Bool := decide (PySem.W.subIn K (.ref (He.ga K "BadNumber")) (.type "BaseException") = some true)
def hx_t_BadNumber (K : PySem.W.Frag) : Bool := decide (PySem.W.typeIn K (.ref (He.ga K "BadNumber")) = some (.type "type"))
def hx_e_BadNumber_hg (K : PySem.W.Frag) : Bool := decide (PySem.W.findIn K (.ref (He.ga K "BadNumber")) "__getattribute__" = some (some (.builtin "BaseException.__getattribute__")))
def hx_e_BadNumber_hk (K : PySem.W.Frag) : Bool := decide (PySem.W.findIn K (.ref (He.ga K "BadNumber")) "__getattr__" = some none)
def hx_e_BadNumber_hd (K : PySem.W.Frag) : Bool := PySem.W.hasDictIn K (He.ga K "BadNumber")
def hx_e_BadNumber_ha (K : PySem.W.Frag) : Bool := decide (PySem.W.findIn K (.ref (He.ga K "BadNumber")) "__class__" = some (some (.builtin "object.__class__")))
def hx_e_BadNumber_hm (K : PySem.W.Frag) : Bool := decide (PySem.W.mroIn K (He.ga K "BadNumber") (.type "object") = some true)
def hx_m_BadNumber (K : PySem.W.Frag) : Bool := decide (PySem.W.exmOne K (.ref (He.ga K "BadNumber")) (.ref (He.ga K "RoadError")) = some true)
def hx_i_BadNumber_RoadError (K : PySem.W.Frag) : Bool := decide (PySem.W.kitOne K (.ref (He.ga K "BadNumber")) (.ref (He.ga K "RoadError")) = some true)
def hx_i_BadNumber_BadNumber (K : PySem.W.Frag) : Bool := decide (PySem.W.kitOne K (.ref (He.ga K "BadNumber")) (.ref (He.ga K "BadNumber")) = some true)
def hx_i_BadNumber_BadEntry (K : PySem.W.Frag) : Bool := decide (PySem.W.kitOne K (.ref (He.ga K "BadNumber")) (.ref (He.ga K "BadEntry")) = some false)
def hx_i_BadNumber_BadWord (K : PySem.W.Frag) : Bool := decide (PySem.W.kitOne K (.ref (He.ga K "BadNumber")) (.ref (He.ga K "BadWord")) = some false)
def hx_i_BadNumber_ValueError (K : PySem.W.Frag) : Bool := decide (PySem.W.kitOne K (.ref (He.ga K "BadNumber")) (.type "ValueError") = some true)
def hx_x_BadEntry (K : PySem.W.Frag) : Bool := PySem.W.excIn K (He.ga K "BadEntry") He.veBase "ValueError.__new__"
def hx_k_BadEntry (K : PySem.W.Frag) : Bool := PySem.W.keepIn K (.ref (He.ga K "BadEntry"))
def hx_r_BadEntry (K : PySem.W.Frag) : Bool := decide (PySem.W.subIn K (.ref (He.ga K "BadEntry")) (.type "BaseException") = some true)
def hx_t_BadEntry (K : PySem.W.Frag) : Bool := decide (PySem.W.typeIn K (.ref (He.ga K "BadEntry")) = some (.type "type"))
def hx_e_BadEntry_hg (K : PySem.W.Frag) : Bool := decide (PySem.W.findIn K (.ref (He.ga K "BadEntry")) "__getattribute__" = some (some (.builtin "BaseException.__getattribute__")))
def hx_e_BadEntry_hk (K : PySem.W.Frag) : Bool := decide (PySem.W.findIn K (.ref (He.ga K "BadEntry")) "__getattr__" = some none)
def hx_e_BadEntry_hd (K : PySem.W.Frag) : Bool := PySem.W.hasDictIn K (He.ga K "BadEntry")
def hx_e_BadEntry_ha (K : PySem.W.Frag) : Bool := decide (PySem.W.findIn K (.ref (He.ga K "BadEntry")) "__class__" = some (some (.builtin "object.__class__")))
def hx_e_BadEntry_hm (K : PySem.W.Frag) : Bool := decide (PySem.W.mroIn K (He.ga K "BadEntry") (.type "object") = some true)
def hx_m_BadEntry (K : PySem.W.Frag) : Bool := decide (PySem.W.exmOne K (.ref (He.ga K "BadEntry")) (.ref (He.ga K "RoadError")) = some true)
def hx_i_BadEntry_RoadError (K : PySem.W.Frag) : Bool := decide (PySem.W.kitOne K (.ref (He.ga K "BadEntry")) (.ref (He.ga K "RoadError")) = some true)
def hx_i_BadEntry_BadNumber (K : PySem.W.Frag) : Bool := decide (PySem.W.kitOne K (.ref (He.ga K "BadEntry")) (.ref (He.ga K "BadNumber")) = some false)
def hx_i_BadEntry_BadEntry (K : PySem.W.Frag) : Bool := decide (PySem.W.kitOne K (.ref (He.ga K "BadEntry")) (.ref (He.ga K "BadEntry")) = some true)
def hx_i_BadEntry_BadWord (K : PySem.W.Frag) : Bool := decide (PySem.W.kitOne K (.ref (He.ga K "BadEntry")) (.ref (He.ga K "BadWord")) = some false)
def hx_i_BadEntry_ValueError (K : PySem.W.Frag) : Bool := decide (PySem.W.kitOne K (.ref (He.ga K "BadEntry")) (.type "ValueError") = some true)
def hx_x_BadWord (K : PySem.W.Frag) : Bool := PySem.W.excIn K (He.ga K "BadWord") He.veBase "ValueError.__new__"
def hx_k_BadWord (K : PySem.W.Frag) : Bool := PySem.W.keepIn K (.ref (He.ga K "BadWord"))
def hx_r_BadWord (K : PySem.W.Frag) : Bool := decide (PySem.W.subIn K (.ref (He.ga K "BadWord")) (.type "BaseException") = some true)
def hx_t_BadWord (K : PySem.W.Frag) : Bool := decide (PySem.W.typeIn K (.ref (He.ga K "BadWord")) = some (.type "type"))
def hx_e_BadWord_hg (K : PySem.W.Frag) : Bool := decide (PySem.W.findIn K (.ref (He.ga K "BadWord")) "__getattribute__" = some (some (.builtin "BaseException.__getattribute__")))
def hx_e_BadWord_hk (K : PySem.W.Frag) : Bool := decide (PySem.W.findIn K (.ref (He.ga K "BadWord")) "__getattr__" = some none)
def hx_e_BadWord_hd (K : PySem.W.Frag) : Bool := PySem.W.hasDictIn K (He.ga K "BadWord")
def hx_e_BadWord_ha (K : PySem.W.Frag) : Bool := decide (PySem.W.findIn K (.ref (He.ga K "BadWord")) "__class__" = some (some (.builtin "object.__class__")))
def hx_e_BadWord_hm (K : PySem.W.Frag) : Bool := decide (PySem.W.mroIn K (He.ga K "BadWord") (.type "object") = some true)
def hx_m_BadWord (K : PySem.W.Frag) : Bool := decide (PySem.W.exmOne K (.ref (He.ga K "BadWord")) (.ref (He.ga K "RoadError")) = some true)
def hx_i_BadWord_RoadError (K : PySem.W.Frag) : Bool := decide (PySem.W.kitOne K (.ref (He.ga K "BadWord")) (.ref (He.ga K "RoadError")) = some true)
def hx_i_BadWord_BadNumber (K : PySem.W.Frag) : Bool := decide (PySem.W.kitOne K (.ref (He.ga K "BadWord")) (.ref (He.ga K "BadNumber")) = some false)
def hx_i_BadWord_BadEntry (K : PySem.W.Frag) : Bool := decide (PySem.W.kitOne K (.ref (He.ga K "BadWord")) (.ref (He.ga K "BadEntry")) = some false)
def hx_i_BadWord_BadWord (K : PySem.W.Frag) : Bool := decide (PySem.W.kitOne K (.ref (He.ga K "BadWord")) (.ref (He.ga K "BadWord")) = some true)
def hx_i_BadWord_ValueError (K : PySem.W.Frag) : Bool := decide (PySem.W.kitOne K (.ref (He.ga K "BadWord")) (.type "ValueError") = some true)
def hx_e_hn (K : PySem.W.Frag) : Bool := decide (PySem.W.specialIn K (.builtin "object.__class__") "__get__" = some (some (.builtin "getset_descriptor.__get__")))
def hx_e_ht (K : PySem.W.Frag) : Bool := decide (PySem.W.takesIn K (.builtin "object.__class__") = some true)
def hx_tu_REPEATS (K : PySem.W.Frag) : Bool := He.tupB K "REPEATS" [.str "none", .str "all", .str "one"]
def hxs0 : List (PySem.W.Frag → Bool) := [hx_x_RoadError, hx_k_RoadError, hx_r_RoadError, hx_t_RoadError, hx_e_RoadError_hg, hx_e_RoadError_hk, hx_e_RoadError_hd, hx_e_RoadError_ha, hx_e_RoadError_hm, hx_m_RoadError, hx_i_RoadError_RoadError, hx_i_RoadError_BadNumber, hx_i_RoadError_BadEntry, hx_i_RoadError_BadWord, hx_i_RoadError_ValueError, hx_x_BadNumber, hx_k_BadNumber, hx_r_BadNumber, hx_t_BadNumber, hx_e_BadNumber_hg, hx_e_BadNumber_hk, hx_e_BadNumber_hd, hx_e_BadNumber_ha, hx_e_BadNumber_hm, hx_m_BadNumber]
def hxs1 : List (PySem.W.Frag → Bool) := [hx_i_BadNumber_RoadError, hx_i_BadNumber_BadNumber, hx_i_BadNumber_BadEntry, hx_i_BadNumber_BadWord, hx_i_BadNumber_ValueError, hx_x_BadEntry, hx_k_BadEntry, hx_r_BadEntry, hx_t_BadEntry, hx_e_BadEntry_hg, hx_e_BadEntry_hk, hx_e_BadEntry_hd, hx_e_BadEntry_ha, hx_e_BadEntry_hm, hx_m_BadEntry, hx_i_BadEntry_RoadError, hx_i_BadEntry_BadNumber, hx_i_BadEntry_BadEntry, hx_i_BadEntry_BadWord, hx_i_BadEntry_ValueError, hx_x_BadWord, hx_k_BadWord, hx_r_BadWord, hx_t_BadWord, hx_e_BadWord_hg]
def hxs2 : List (PySem.W.Frag → Bool) := [hx_e_BadWord_hk, hx_e_BadWord_hd, hx_e_BadWord_ha, hx_e_BadWord_hm, hx_m_BadWord, hx_i_BadWord_RoadError, hx_i_BadWord_BadNumber, hx_i_BadWord_BadEntry, hx_i_BadWord_BadWord, hx_i_BadWord_ValueError, hx_e_hn, hx_e_ht, hx_tu_REPEATS]
def hxs : List (PySem.W.Frag → Bool) := hxs0 ++ (hxs1 ++ (hxs2))
def hex (K : PySem.W.Frag) : Bool := hxs.all fun f => f K
theorem hex_at {K : PySem.W.Frag} (h : hex K = true) (i : Nat) {f : PySem.W.Frag → Bool} (e : hxs[i]? = some f := by rfl) : f K = true := List.all_eq_true.mp h f (List.mem_of_getElem? e)
abbrev hR : PySem.W.OpenRow := PySem.W.OpenLaw.row PySem.Challenge.rw_tuneroad_k21_whole_rounds
abbrev hhk : PySem.W.Hook := hookM hfa hfn hex
def hob (s : PySem.W.SharedT) : AlM := obsM hfa hfn hex (HandSHeadRun.getT s)
theorem hob_eq (s : PySem.W.SharedT) : hob s = hhk.obs s.abs := obsM_eq (HandSHeadRun.getT_eq s)
def hnm0 : List PySem.Str := ["_wall", "RoadError", "BadNumber", "BadEntry", "BadWord", "WHEEL", "TIMES", "MORE", "MOST", "Dice", "mixed", "MOST_ENTRIES", "Queue", "REPEATS", "Order", "_law_cell", "_law_mix", "_law_draw", "_law_round"]
def hnm : List PySem.Str := hnm0
theorem hrun2 (w : World) : ∀ os, (HandSHeadRun.endF (HandSHeadRun.stepQ (HandSHeadRun.denQ HandSHeadRun.tabQ) hR.prog w) 20000 hR.prog w os).map hob = some (hhk.val w) := by
  intro os
  kernel_rfl
theorem hrun (w : World) : HandSHeadRun.RunEq hR (PySem.W.view hR.prog [24]) hhk hob 20000 hnm w := by
  refine run_split (fun os => ?_) (hrun2 w)
  kernel_rfl
theorem txt_of {K : PySem.W.Frag} {h : Heap} {mg : Str → Option Value} (X : K.In h) (G : h.Ns mainGlobals mg) (c : SaysM hfa hfn hex K) : ∃ A : Ads, Txt K mg A := by
  have cd := c.d
  have cx := c.more
  obtain ⟨d_wall, F_wall⟩ := cd.def_ 0 (d := dd_wall) rfl
  obtain ⟨d_Dice_init__, F_Dice_init__⟩ := cd.def_ 1 (d := dd_Dice_init__) rfl
  obtain ⟨d_Dice_below, F_Dice_below⟩ := cd.def_ 2 (d := dd_Dice_below) rfl
  obtain ⟨d_Dice_twin, F_Dice_twin⟩ := cd.def_ 3 (d := dd_Dice_twin) rfl
  obtain ⟨d_mixed, F_mixed⟩ := cd.def_ 4 (d := dd_mixed) rfl
  obtain ⟨d_Queue_init__, F_Queue_init__⟩ := cd.def_ 5 (d := dd_Queue_init__) rfl
  obtain ⟨d_Queue_entries, F_Queue_entries⟩ := cd.def_ 6 (d := dd_Queue_entries) rfl
  obtain ⟨d_Queue_need, F_Queue_need⟩ := cd.def_ 7 (d := dd_Queue_need) rfl
  obtain ⟨d_Queue_tune, F_Queue_tune⟩ := cd.def_ 8 (d := dd_Queue_tune) rfl
  obtain ⟨d_Queue_put, F_Queue_put⟩ := cd.def_ 9 (d := dd_Queue_put) rfl
  obtain ⟨d_Queue_remove, F_Queue_remove⟩ := cd.def_ 10 (d := dd_Queue_remove) rfl
  obtain ⟨d_Queue_move, F_Queue_move⟩ := cd.def_ 11 (d := dd_Queue_move) rfl
  obtain ⟨d_Queue_place, F_Queue_place⟩ := cd.def_ 12 (d := dd_Queue_place) rfl
  obtain ⟨d_Queue_twin, F_Queue_twin⟩ := cd.def_ 13 (d := dd_Queue_twin) rfl
  obtain ⟨d_Order_init__, F_Order_init__⟩ := cd.def_ 14 (d := dd_Order_init__) rfl
  obtain ⟨d_Order_set_again, F_Order_set_again⟩ := cd.def_ 15 (d := dd_Order_set_again) rfl
  obtain ⟨d_Order_set_mixed, F_Order_set_mixed⟩ := cd.def_ 16 (d := dd_Order_set_mixed) rfl
  obtain ⟨d_Order_put, F_Order_put⟩ := cd.def_ 17 (d := dd_Order_put) rfl
  obtain ⟨d_Order_remove, F_Order_remove⟩ := cd.def_ 18 (d := dd_Order_remove) rfl
  obtain ⟨d_Order_next_plain, F_Order_next_plain⟩ := cd.def_ 19 (d := dd_Order_next_plain) rfl
  obtain ⟨d_Order_next_mixed, F_Order_next_mixed⟩ := cd.def_ 20 (d := dd_Order_next_mixed) rfl
  obtain ⟨d_Order_after, F_Order_after⟩ := cd.def_ 21 (d := dd_Order_after) rfl
  obtain ⟨d_Order_skip, F_Order_skip⟩ := cd.def_ 22 (d := dd_Order_skip) rfl
  obtain ⟨d_Order_first, F_Order_first⟩ := cd.def_ 23 (d := dd_Order_first) rfl
  obtain ⟨d_Order_began, F_Order_began⟩ := cd.def_ 24 (d := dd_Order_began) rfl
  obtain ⟨d_Order_twin, F_Order_twin⟩ := cd.def_ 25 (d := dd_Order_twin) rfl
  obtain ⟨d_law_cell, F_law_cell⟩ := cd.def_ 26 (d := dd_law_cell) rfl
  obtain ⟨d_law_mix, F_law_mix⟩ := cd.def_ 27 (d := dd_law_mix) rfl
  obtain ⟨d_law_draw, F_law_draw⟩ := cd.def_ 28 (d := dd_law_draw) rfl
  obtain ⟨d_law_round, F_law_round⟩ := cd.def_ 29 (d := dd_law_round) rfl
  obtain ⟨d_law, F_law⟩ := cd.def_ 30 (d := dd_law) rfl
  refine ⟨{ c_RoadError := He.ga K "RoadError", c_BadNumber := He.ga K "BadNumber", c_BadEntry := He.ga K "BadEntry", c_BadWord := He.ga K "BadWord", c_Dice := He.ga K "Dice", c_Queue := He.ga K "Queue", c_Order := He.ga K "Order", f_wall := He.fAd K ("_wall", none), f_Dice_init__ := He.fAd K ("Dice", some "__init__"), f_Dice_below := He.fAd K ("Dice", some "below"), f_Dice_twin := He.fAd K ("Dice", some "twin"), f_mixed := He.fAd K ("mixed", none), f_Queue_init__ := He.fAd K ("Queue", some "__init__"), f_Queue_entries := He.fAd K ("Queue", some "entries"), f_Queue_need := He.fAd K ("Queue", some "need"), f_Queue_tune := He.fAd K ("Queue", some "tune"), f_Queue_put := He.fAd K ("Queue", some "put"), f_Queue_remove := He.fAd K ("Queue", some "remove"), f_Queue_move := He.fAd K ("Queue", some "move"), f_Queue_place := He.fAd K ("Queue", some "place"), f_Queue_twin := He.fAd K ("Queue", some "twin"), f_Order_init__ := He.fAd K ("Order", some "__init__"), f_Order_set_again := He.fAd K ("Order", some "set_again"), f_Order_set_mixed := He.fAd K ("Order", some "set_mixed"), f_Order_put := He.fAd K ("Order", some "put"), f_Order_remove := He.fAd K ("Order", some "remove"), f_Order_next_plain := He.fAd K ("Order", some "next_plain"), f_Order_next_mixed := He.fAd K ("Order", some "next_mixed"), f_Order_after := He.fAd K ("Order", some "after"), f_Order_skip := He.fAd K ("Order", some "skip"), f_Order_first := He.fAd K ("Order", some "first"), f_Order_began := He.fAd K ("Order", some "began"), f_Order_twin := He.fAd K ("Order", some "twin"), f_law_cell := He.fAd K ("_law_cell", none), f_law_mix := He.fAd K ("_law_mix", none), f_law_draw := He.fAd K ("_law_draw", none), f_law_round := He.fAd K ("_law_round", none), f_law := He.fAd K ("law", none), o_REPEATS := He.ga K "REPEATS", d_wall := d_wall, d_Dice_init__ := d_Dice_init__, d_Dice_below := d_Dice_below, d_Dice_twin := d_Dice_twin, d_mixed := d_mixed, d_Queue_init__ := d_Queue_init__, d_Queue_entries := d_Queue_entries, d_Queue_need := d_Queue_need, d_Queue_tune := d_Queue_tune, d_Queue_put := d_Queue_put, d_Queue_remove := d_Queue_remove, d_Queue_move := d_Queue_move, d_Queue_place := d_Queue_place, d_Queue_twin := d_Queue_twin, d_Order_init__ := d_Order_init__, d_Order_set_again := d_Order_set_again, d_Order_set_mixed := d_Order_set_mixed, d_Order_put := d_Order_put, d_Order_remove := d_Order_remove, d_Order_next_plain := d_Order_next_plain, d_Order_next_mixed := d_Order_next_mixed, d_Order_after := d_Order_after, d_Order_skip := d_Order_skip, d_Order_first := d_Order_first, d_Order_began := d_Order_began, d_Order_twin := d_Order_twin, d_law_cell := d_law_cell, d_law_mix := d_law_mix, d_law_draw := d_law_draw, d_law_round := d_law_round, d_law := d_law }, ?_⟩
  exact {
    z_len := He.free_ok X G (cd.fact 0 (f := .free "len") rfl),
    z_list := He.free_ok X G (cd.fact 1 (f := .free "list") rfl),
    z_range := He.free_ok X G (cd.fact 2 (f := .free "range") rfl),
    z_sorted := He.free_ok X G (cd.fact 3 (f := .free "sorted") rfl),
    gi_WHEEL := He.int_ok X G (cd.fact 4 (f := .int "WHEEL" 6075) rfl),
    gi_TIMES := He.int_ok X G (cd.fact 5 (f := .int "TIMES" 106) rfl),
    gi_MORE := He.int_ok X G (cd.fact 6 (f := .int "MORE" 1283) rfl),
    gi_MOST := He.int_ok X G (cd.fact 7 (f := .int "MOST" 60) rfl),
    gi_MOST_ENTRIES := He.int_ok X G (cd.fact 8 (f := .int "MOST_ENTRIES" 12) rfl),
    gi_REPEATS := He.glo_ok X G (cd.fact 9 (f := .glo "REPEATS") rfl),
    tu_REPEATS := fun H => He.tupB_ok (hex_at cx 62 (f := hx_tu_REPEATS)) H,
    g_RoadError := He.glo_ok X G (cd.fact 10 (f := .glo "RoadError") rfl),
    g_BadNumber := He.glo_ok X G (cd.fact 11 (f := .glo "BadNumber") rfl),
    g_BadEntry := He.glo_ok X G (cd.fact 12 (f := .glo "BadEntry") rfl),
    g_BadWord := He.glo_ok X G (cd.fact 13 (f := .glo "BadWord") rfl),
    g_Dice := He.glo_ok X G (cd.fact 14 (f := .glo "Dice") rfl),
    g_Queue := He.glo_ok X G (cd.fact 15 (f := .glo "Queue") rfl),
    g_Order := He.glo_ok X G (cd.fact 16 (f := .glo "Order") rfl),
    c_Dice := He.cls_ok (cd.fact 17 (f := .cls "Dice") rfl),
    M_Dice := He.mkr_ok (cd.fact 18 (f := .mkr "Dice") rfl),
    n_Dice_number := He.noat_ok (cd.fact 19 (f := .noat "Dice" "number") rfl),
    c_Queue := He.cls_ok (cd.fact 20 (f := .cls "Queue") rfl),
    M_Queue := He.mkr_ok (cd.fact 21 (f := .mkr "Queue") rfl),
    n_Queue_tunes := He.noat_ok (cd.fact 22 (f := .noat "Queue" "tunes") rfl),
    n_Queue_turn := He.noat_ok (cd.fact 23 (f := .noat "Queue" "turn") rfl),
    n_Queue_last := He.noat_ok (cd.fact 24 (f := .noat "Queue" "last") rfl),
    c_Order := He.cls_ok (cd.fact 25 (f := .cls "Order") rfl),
    M_Order := He.mkr_ok (cd.fact 26 (f := .mkr "Order") rfl),
    n_Order_queue := He.noat_ok (cd.fact 27 (f := .noat "Order" "queue") rfl),
    n_Order_dice := He.noat_ok (cd.fact 28 (f := .noat "Order" "dice") rfl),
    n_Order_is_mixed := He.noat_ok (cd.fact 29 (f := .noat "Order" "is_mixed") rfl),
    n_Order_again := He.noat_ok (cd.fact 30 (f := .noat "Order" "again") rfl),
    n_Order_deck := He.noat_ok (cd.fact 31 (f := .noat "Order" "deck") rfl),
    n_Order_is_gone := He.noat_ok (cd.fact 32 (f := .noat "Order" "is_gone") rfl),
    n_Order_behind := He.noat_ok (cd.fact 33 (f := .noat "Order" "behind") rfl),
    x_RoadError := (hex_at cx 0 (f := hx_x_RoadError)),
    k_RoadError := (hex_at cx 1 (f := hx_k_RoadError)),
    r_RoadError := (of_decide_eq_true (hex_at cx 2 (f := hx_r_RoadError))),
    t_RoadError := (of_decide_eq_true (hex_at cx 3 (f := hx_t_RoadError))),
    e_RoadError := ⟨(of_decide_eq_true (hex_at cx 4 (f := hx_e_RoadError_hg))), (of_decide_eq_true (hex_at cx 5 (f := hx_e_RoadError_hk))), (of_decide_eq_true (hex_at cx 2 (f := hx_r_RoadError))), (hex_at cx 6 (f := hx_e_RoadError_hd)), (of_decide_eq_true (hex_at cx 7 (f := hx_e_RoadError_ha))), (of_decide_eq_true (hex_at cx 60 (f := hx_e_hn))), (of_decide_eq_true (hex_at cx 61 (f := hx_e_ht))), (of_decide_eq_true (hex_at cx 8 (f := hx_e_RoadError_hm)))⟩,
    m_RoadError := (of_decide_eq_true (hex_at cx 9 (f := hx_m_RoadError))),
    i_RoadError_RoadError := (of_decide_eq_true (hex_at cx 10 (f := hx_i_RoadError_RoadError))),
    i_RoadError_BadNumber := (of_decide_eq_true (hex_at cx 11 (f := hx_i_RoadError_BadNumber))),
    i_RoadError_BadEntry := (of_decide_eq_true (hex_at cx 12 (f := hx_i_RoadError_BadEntry))),
    i_RoadError_BadWord := (of_decide_eq_true (hex_at cx 13 (f := hx_i_RoadError_BadWord))),
    i_RoadError_ValueError := (of_decide_eq_true (hex_at cx 14 (f := hx_i_RoadError_ValueError))),
    x_BadNumber := (hex_at cx 15 (f := hx_x_BadNumber)),
    k_BadNumber := (hex_at cx 16 (f := hx_k_BadNumber)),
    r_BadNumber := (of_decide_eq_true (hex_at cx 17 (f := hx_r_BadNumber))),
    t_BadNumber := (of_decide_eq_true (hex_at cx 18 (f := hx_t_BadNumber))),
    e_BadNumber := ⟨(of_decide_eq_true (hex_at cx 19 (f := hx_e_BadNumber_hg))), (of_decide_eq_true (hex_at cx 20 (f := hx_e_BadNumber_hk))), (of_decide_eq_true (hex_at cx 17 (f := hx_r_BadNumber))), (hex_at cx 21 (f := hx_e_BadNumber_hd)), (of_decide_eq_true (hex_at cx 22 (f := hx_e_BadNumber_ha))), (of_decide_eq_true (hex_at cx 60 (f := hx_e_hn))), (of_decide_eq_true (hex_at cx 61 (f := hx_e_ht))), (of_decide_eq_true (hex_at cx 23 (f := hx_e_BadNumber_hm)))⟩,
    m_BadNumber := (of_decide_eq_true (hex_at cx 24 (f := hx_m_BadNumber))),
    i_BadNumber_RoadError := (of_decide_eq_true (hex_at cx 25 (f := hx_i_BadNumber_RoadError))),
    i_BadNumber_BadNumber := (of_decide_eq_true (hex_at cx 26 (f := hx_i_BadNumber_BadNumber))),
    i_BadNumber_BadEntry := (of_decide_eq_true (hex_at cx 27 (f := hx_i_BadNumber_BadEntry))),
    i_BadNumber_BadWord := (of_decide_eq_true (hex_at cx 28 (f := hx_i_BadNumber_BadWord))),
    i_BadNumber_ValueError := (of_decide_eq_true (hex_at cx 29 (f := hx_i_BadNumber_ValueError))),
    x_BadEntry := (hex_at cx 30 (f := hx_x_BadEntry)),
    k_BadEntry := (hex_at cx 31 (f := hx_k_BadEntry)),
    r_BadEntry := (of_decide_eq_true (hex_at cx 32 (f := hx_r_BadEntry))),
    t_BadEntry := (of_decide_eq_true (hex_at cx 33 (f := hx_t_BadEntry))),
    e_BadEntry := ⟨(of_decide_eq_true (hex_at cx 34 (f := hx_e_BadEntry_hg))), (of_decide_eq_true (hex_at cx 35 (f := hx_e_BadEntry_hk))), (of_decide_eq_true (hex_at cx 32 (f := hx_r_BadEntry))), (hex_at cx 36 (f := hx_e_BadEntry_hd)), (of_decide_eq_true (hex_at cx 37 (f := hx_e_BadEntry_ha))), (of_decide_eq_true (hex_at cx 60 (f := hx_e_hn))), (of_decide_eq_true (hex_at cx 61 (f := hx_e_ht))), (of_decide_eq_true (hex_at cx 38 (f := hx_e_BadEntry_hm)))⟩,
    m_BadEntry := (of_decide_eq_true (hex_at cx 39 (f := hx_m_BadEntry))),
    i_BadEntry_RoadError := (of_decide_eq_true (hex_at cx 40 (f := hx_i_BadEntry_RoadError))),
    i_BadEntry_BadNumber := (of_decide_eq_true (hex_at cx 41 (f := hx_i_BadEntry_BadNumber))),
    i_BadEntry_BadEntry := (of_decide_eq_true (hex_at cx 42 (f := hx_i_BadEntry_BadEntry))),
    i_BadEntry_BadWord := (of_decide_eq_true (hex_at cx 43 (f := hx_i_BadEntry_BadWord))),
    i_BadEntry_ValueError := (of_decide_eq_true (hex_at cx 44 (f := hx_i_BadEntry_ValueError))),
    x_BadWord := (hex_at cx 45 (f := hx_x_BadWord)),
    k_BadWord := (hex_at cx 46 (f := hx_k_BadWord)),
    r_BadWord := (of_decide_eq_true (hex_at cx 47 (f := hx_r_BadWord))),
    t_BadWord := (of_decide_eq_true (hex_at cx 48 (f := hx_t_BadWord))),
    e_BadWord := ⟨(of_decide_eq_true (hex_at cx 49 (f := hx_e_BadWord_hg))), (of_decide_eq_true (hex_at cx 50 (f := hx_e_BadWord_hk))), (of_decide_eq_true (hex_at cx 47 (f := hx_r_BadWord))), (hex_at cx 51 (f := hx_e_BadWord_hd)), (of_decide_eq_true (hex_at cx 52 (f := hx_e_BadWord_ha))), (of_decide_eq_true (hex_at cx 60 (f := hx_e_hn))), (of_decide_eq_true (hex_at cx 61 (f := hx_e_ht))), (of_decide_eq_true (hex_at cx 53 (f := hx_e_BadWord_hm)))⟩,
    m_BadWord := (of_decide_eq_true (hex_at cx 54 (f := hx_m_BadWord))),
    i_BadWord_RoadError := (of_decide_eq_true (hex_at cx 55 (f := hx_i_BadWord_RoadError))),
    i_BadWord_BadNumber := (of_decide_eq_true (hex_at cx 56 (f := hx_i_BadWord_BadNumber))),
    i_BadWord_BadEntry := (of_decide_eq_true (hex_at cx 57 (f := hx_i_BadWord_BadEntry))),
    i_BadWord_BadWord := (of_decide_eq_true (hex_at cx 58 (f := hx_i_BadWord_BadWord))),
    i_BadWord_ValueError := (of_decide_eq_true (hex_at cx 59 (f := hx_i_BadWord_ValueError))),
    F_wall := fun_of F_wall,
    b_wall := FunD.bindsN F_wall (fun _ _ _ _ _ _ us hl => match us, hl with | [_], _ => rfl),
    g_wall := He.glo_ok X G (cd.fact 34 (f := .glo "_wall") rfl),
    k_wall := F_wall.kp,
    F_Dice_init__ := fun_of F_Dice_init__,
    b_Dice_init__ := FunD.bindsN F_Dice_init__ (fun _ _ _ _ _ _ us hl => match us, hl with | [_, _], _ => rfl),
    m_Dice_init__ := He.meth_ok (cd.fact 35 (f := .meth "Dice" "__init__") rfl),
    F_Dice_below := fun_of F_Dice_below,
    b_Dice_below := FunD.bindsN F_Dice_below (fun _ _ _ _ _ _ us hl => match us, hl with | [_, _], _ => rfl),
    m_Dice_below := He.meth_ok (cd.fact 36 (f := .meth "Dice" "below") rfl),
    F_Dice_twin := fun_of F_Dice_twin,
    b_Dice_twin := FunD.bindsN F_Dice_twin (fun _ _ _ _ _ _ us hl => match us, hl with | [_], _ => rfl),
    m_Dice_twin := He.meth_ok (cd.fact 37 (f := .meth "Dice" "twin") rfl),
    F_mixed := fun_of F_mixed,
    b_mixed := FunD.bindsN F_mixed (fun _ _ _ _ _ _ us hl => match us, hl with | [_, _], _ => rfl),
    g_mixed := He.glo_ok X G (cd.fact 38 (f := .glo "mixed") rfl),
    k_mixed := F_mixed.kp,
    F_Queue_init__ := fun_of F_Queue_init__,
    b_Queue_init__ := FunD.bindsN F_Queue_init__ (fun _ _ _ _ _ _ us hl => match us, hl with | [_], _ => rfl),
    m_Queue_init__ := He.meth_ok (cd.fact 39 (f := .meth "Queue" "__init__") rfl),
    F_Queue_entries := fun_of F_Queue_entries,
    b_Queue_entries := FunD.bindsN F_Queue_entries (fun _ _ _ _ _ _ us hl => match us, hl with | [_], _ => rfl),
    m_Queue_entries := He.meth_ok (cd.fact 40 (f := .meth "Queue" "entries") rfl),
    F_Queue_need := fun_of F_Queue_need,
    b_Queue_need := FunD.bindsN F_Queue_need (fun _ _ _ _ _ _ us hl => match us, hl with | [_, _], _ => rfl),
    m_Queue_need := He.meth_ok (cd.fact 41 (f := .meth "Queue" "need") rfl),
    F_Queue_tune := fun_of F_Queue_tune,
    b_Queue_tune := FunD.bindsN F_Queue_tune (fun _ _ _ _ _ _ us hl => match us, hl with | [_, _], _ => rfl),
    m_Queue_tune := He.meth_ok (cd.fact 42 (f := .meth "Queue" "tune") rfl),
    F_Queue_put := fun_of F_Queue_put,
    b_Queue_put := FunD.bindsN F_Queue_put (fun _ _ _ _ _ _ us hl => match us, hl with | [_, _, _], _ => rfl),
    m_Queue_put := He.meth_ok (cd.fact 43 (f := .meth "Queue" "put") rfl),
    F_Queue_remove := fun_of F_Queue_remove,
    b_Queue_remove := FunD.bindsN F_Queue_remove (fun _ _ _ _ _ _ us hl => match us, hl with | [_, _], _ => rfl),
    m_Queue_remove := He.meth_ok (cd.fact 44 (f := .meth "Queue" "remove") rfl),
    F_Queue_move := fun_of F_Queue_move,
    b_Queue_move := FunD.bindsN F_Queue_move (fun _ _ _ _ _ _ us hl => match us, hl with | [_, _, _], _ => rfl),
    m_Queue_move := He.meth_ok (cd.fact 45 (f := .meth "Queue" "move") rfl),
    F_Queue_place := fun_of F_Queue_place,
    b_Queue_place := FunD.bindsN F_Queue_place (fun _ _ _ _ _ _ us hl => match us, hl with | [_, _], _ => rfl),
    m_Queue_place := He.meth_ok (cd.fact 46 (f := .meth "Queue" "place") rfl),
    F_Queue_twin := fun_of F_Queue_twin,
    b_Queue_twin := FunD.bindsN F_Queue_twin (fun _ _ _ _ _ _ us hl => match us, hl with | [_], _ => rfl),
    m_Queue_twin := He.meth_ok (cd.fact 47 (f := .meth "Queue" "twin") rfl),
    F_Order_init__ := fun_of F_Order_init__,
    b_Order_init__ := FunD.bindsN F_Order_init__ (fun _ _ _ _ _ _ us hl => match us, hl with | [_, _], _ => rfl),
    m_Order_init__ := He.meth_ok (cd.fact 48 (f := .meth "Order" "__init__") rfl),
    F_Order_set_again := fun_of F_Order_set_again,
    b_Order_set_again := FunD.bindsN F_Order_set_again (fun _ _ _ _ _ _ us hl => match us, hl with | [_, _], _ => rfl),
    m_Order_set_again := He.meth_ok (cd.fact 49 (f := .meth "Order" "set_again") rfl),
    F_Order_set_mixed := fun_of F_Order_set_mixed,
    b_Order_set_mixed := FunD.bindsN F_Order_set_mixed (fun _ _ _ _ _ _ us hl => match us, hl with | [_, _, _], _ => rfl),
    m_Order_set_mixed := He.meth_ok (cd.fact 50 (f := .meth "Order" "set_mixed") rfl),
    F_Order_put := fun_of F_Order_put,
    b_Order_put := FunD.bindsN F_Order_put (fun _ _ _ _ _ _ us hl => match us, hl with | [_, _, _], _ => rfl),
    m_Order_put := He.meth_ok (cd.fact 51 (f := .meth "Order" "put") rfl),
    F_Order_remove := fun_of F_Order_remove,
    b_Order_remove := FunD.bindsN F_Order_remove (fun _ _ _ _ _ _ us hl => match us, hl with | [_, _, _], _ => rfl),
    m_Order_remove := He.meth_ok (cd.fact 52 (f := .meth "Order" "remove") rfl),
    F_Order_next_plain := fun_of F_Order_next_plain,
    b_Order_next_plain := FunD.bindsN F_Order_next_plain (fun _ _ _ _ _ _ us hl => match us, hl with | [_, _], _ => rfl),
    m_Order_next_plain := He.meth_ok (cd.fact 53 (f := .meth "Order" "next_plain") rfl),
    F_Order_next_mixed := fun_of F_Order_next_mixed,
    b_Order_next_mixed := FunD.bindsN F_Order_next_mixed (fun _ _ _ _ _ _ us hl => match us, hl with | [_, _], _ => rfl),
    m_Order_next_mixed := He.meth_ok (cd.fact 54 (f := .meth "Order" "next_mixed") rfl),
    F_Order_after := fun_of F_Order_after,
    b_Order_after := FunD.bindsN F_Order_after (fun _ _ _ _ _ _ us hl => match us, hl with | [_, _], _ => rfl),
    m_Order_after := He.meth_ok (cd.fact 55 (f := .meth "Order" "after") rfl),
    F_Order_skip := fun_of F_Order_skip,
    b_Order_skip := FunD.bindsN F_Order_skip (fun _ _ _ _ _ _ us hl => match us, hl with | [_, _], _ => rfl),
    m_Order_skip := He.meth_ok (cd.fact 56 (f := .meth "Order" "skip") rfl),
    F_Order_first := fun_of F_Order_first,
    b_Order_first := FunD.bindsN F_Order_first (fun _ _ _ _ _ _ us hl => match us, hl with | [_], _ => rfl),
    m_Order_first := He.meth_ok (cd.fact 57 (f := .meth "Order" "first") rfl),
    F_Order_began := fun_of F_Order_began,
    b_Order_began := FunD.bindsN F_Order_began (fun _ _ _ _ _ _ us hl => match us, hl with | [_, _], _ => rfl),
    m_Order_began := He.meth_ok (cd.fact 58 (f := .meth "Order" "began") rfl),
    F_Order_twin := fun_of F_Order_twin,
    b_Order_twin := FunD.bindsN F_Order_twin (fun _ _ _ _ _ _ us hl => match us, hl with | [_], _ => rfl),
    m_Order_twin := He.meth_ok (cd.fact 59 (f := .meth "Order" "twin") rfl),
    F_law_cell := fun_of F_law_cell,
    b_law_cell := FunD.bindsN F_law_cell (fun _ _ _ _ _ _ us hl => match us, hl with | [_, _], _ => rfl),
    g_law_cell := He.glo_ok X G (cd.fact 60 (f := .glo "_law_cell") rfl),
    k_law_cell := F_law_cell.kp,
    F_law_mix := fun_of F_law_mix,
    b_law_mix := FunD.bindsN F_law_mix (fun _ _ _ _ _ _ us hl => match us, hl with | [_, _], _ => rfl),
    g_law_mix := He.glo_ok X G (cd.fact 61 (f := .glo "_law_mix") rfl),
    k_law_mix := F_law_mix.kp,
    F_law_draw := fun_of F_law_draw,
    b_law_draw := FunD.bindsN F_law_draw (fun _ _ _ _ _ _ us hl => match us, hl with | [_, _, _], _ => rfl),
    g_law_draw := He.glo_ok X G (cd.fact 62 (f := .glo "_law_draw") rfl),
    k_law_draw := F_law_draw.kp,
    F_law_round := fun_of F_law_round,
    b_law_round := FunD.bindsN F_law_round (fun _ _ _ _ _ _ us hl => match us, hl with | [_, _], _ => rfl),
    g_law_round := He.glo_ok X G (cd.fact 63 (f := .glo "_law_round") rfl),
    k_law_round := F_law_round.kp,
    F_law := fun_of F_law,
    b_law := FunD.bindsN F_law (fun _ _ _ _ _ _ us hl => match us, hl with | [_], _ => rfl),
    g_law := He.glo_ok X G (cd.fact 64 (f := .glo "law") rfl),
    k_law := F_law.kp }
end TR
open PySem PySem.W PySem.Calls PyProof.Rows in
set_option maxRecDepth 100000 in
set_option maxHeartbeats 0 in
theorem PySem.Challenge.cw_tuneroad_k21_whole_rounds_holds : PySem.Challenge.rw_tuneroad_k21_whole_rounds.Holds := by
  w_on; o_law
  refine HandSHeadRun.head_any (r := OpenLaw.row PySem.Challenge.rw_tuneroad_k21_whole_rounds) (q := view (OpenLaw.row PySem.Challenge.rw_tuneroad_k21_whole_rounds).prog [24]) (H := TR.hhk) (ob := TR.hob) (M := 20000) (loose := TR.hnm) (d := HandSHeadRun.topDef (OpenLaw.row PySem.Challenge.rw_tuneroad_k21_whole_rounds).prog 24) (kwd := []) TR.hob_eq
    (by kernel_rfl) (fun s => by kernel_rfl) TR.hrun (by kernel_rfl) (by kernel_rfl) (by kernel_rfl) (by rfl) (by first | assumption | decide +kernel) (by decide +kernel) ⟨rfl, rfl, rfl, rfl, rfl, by decide +kernel⟩ ?hw ?hc
  case hw => w_witness2
  case hc =>
    refine TR.law_end (l := PySem.Challenge.rw_tuneroad_k21_whole_rounds) (n := 63) (k := 6) (x := "script") rfl (by decide) (by kernel_rfl) ⟨rfl, by decide, by decide⟩ ?F
    intro w mg fa h Y G hmg0
    obtain ⟨K, KX, c⟩ := Y
    have hmg : mg ("law" : PySem.Str) = some (.ref fa) := by
      have e : (HandSHeadRun.topDef (OpenLaw.row PySem.Challenge.rw_tuneroad_k21_whole_rounds).prog 24).name = ("law" : PySem.Str) := by kernel_rfl
      rw [← e]
      exact hmg0
    obtain ⟨A, T⟩ := TR.txt_of KX G c
    have e := hmg.symm.trans T.g_law
    cases e
    exact ⟨K, A.d_law, TR.sp_law K, KX, fun s v => TR.binds1 T.F_law (fun _ _ _ _ _ _ us hl => match us, hl with | [_], _ => rfl) s v, fun H a ns hl hO hS => TR.law_pre hl hO hS, fun base _ _ => TR.ok_law T⟩

