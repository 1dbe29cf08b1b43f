import PyProof.Rows.All
import Wide.All
import OpenK.AllK
import Wide.FinOn
import HandS.ForMost
import HandS.ForExc
import HandS.More
import HandS.Flow
import HandS.Style
import HandS.SetFor
import HandS.ExcIs
import HandS.ExcValue
import HandS.CallSlots
import HandS.Defaults
import HandS.Conv
import HandS.Zip
import HandS.IsInst
import HandS.Head0
import HandS.Head1
import HandS.Head2
import HandS.HeadEnd
import HandS.HeadHook1
import HandS.HeadHook2
import HandS.HeadHook3
import HandS.HeadHook4
import HandS.Flt
import HandS.Walk
import HandS.TupAny
import HandS.Deep
import PySem.Challenge.RW_tuneroad_k33_whole_sounds
set_option Elab.async false
set_option linter.all false
set_option maxRecDepth 100000
set_option maxHeartbeats 4000000
/-! TR: the ledger W (what is tracked at which address, no address twice; the tuples of H0 stand), readings that stop the walk, steps over them. -/
namespace TR
open PySem L2
abbrev Ent := Addr × HO
def isTup : HO → Bool
  | .tup _ => true
  | _ => false
structure W (H0 H : Hp) (L : List Ent) : Prop where
  nd : (L.map (·.1)).Nodup
  is_ : ∀ x ∈ L, H x.1 = some x.2
  tp : ∀ a xs, H0 a = some (.tup xs) → H a = some (.tup xs)
section
variable {H0 H H1 H' : Hp} {L L' R : List Ent} {p q : Addr} {o o' : HO} {i j : Nat}
theorem W.get (w : W H0 H L) (i : Nat) (h : L[i]? = some (p, o)) : H p = some o := w.is_ (p, o) (List.mem_of_getElem? h)
theorem W.now (w : W H0 H L) : W H H L := ⟨w.nd, w.is_, fun _ _ e => e⟩
theorem W.tr (w : W H0 H L) (v : W H H' L') : W H0 H' L' := ⟨v.nd, v.is_, fun a xs e => v.tp a xs (w.tp a xs e)⟩
theorem nd_get {α : Type} {l : List α} (hN : l.Nodup) {i j : Nat} {x : α} (a : l[i]? = some x) (b : l[j]? = some x) : i = j := by
  obtain ⟨h1, e1⟩ := List.getElem?_eq_some_iff.mp a
  obtain ⟨h2, e2⟩ := List.getElem?_eq_some_iff.mp b
  exact (List.getElem_inj hN).mp (e1.trans e2.symm)
theorem map_set_fst : ∀ (L : List Ent) (i : Nat) (p : Addr) (o o' : HO), L[i]? = some (p, o) → (L.set i (p, o')).map (·.1) = L.map (·.1)
  | [], _, _, _, _, h => by simp at h
  | x :: L, 0, p, o, o', h => by
    have e : x = (p, o) := Option.some.inj h
    subst e; rfl
  | x :: L, i + 1, p, o, o', h => by
    show x.1 :: (L.set i (p, o')).map (·.1) = x.1 :: L.map (·.1)
    rw [map_set_fst L i p o o' h]
theorem W.set (w : W H0 H L) (i : Nat) (o' : HO) (h : L[i]? = some (p, o)) (t : isTup o = false) : W H0 (upd H p o') (L.set i (p, o')) := by
  have hp := w.get i h
  refine ⟨by rw [map_set_fst L i p o o' h]; exact w.nd, fun x hx => ?_, fun a xs e => ?_⟩
  · obtain ⟨j, hj⟩ := List.getElem?_of_mem hx
    by_cases hij : i = j
    · subst hij
      obtain ⟨hl, _⟩ := List.getElem?_eq_some_iff.mp h
      rw [List.getElem?_set_self hl] at hj
      cases hj
      exact upd_same
    · rw [List.getElem?_set_ne hij] at hj
      have ne : x.1 ≠ p := fun e => hij (nd_get w.nd (x := p) (by rw [List.getElem?_map, h]; rfl) (by rw [List.getElem?_map, hj]; simp [e]))
      rw [upd_ne ne]
      exact w.is_ x (List.mem_of_getElem? hj)
  · have q := w.tp a xs e
    have ne : a ≠ p := fun z => by
      rw [z, hp] at q
      cases q
      cases t
    rw [upd_ne ne]
    exact q
theorem W.skip (w : W H0 H L) (hp : H p = none) : W H0 (upd H p o) L :=
  ⟨w.nd, fun x hx => by rw [upd_ne (ne_of_none (w.is_ x hx) hp)]; exact w.is_ x hx, fun a xs e => by rw [upd_ne (ne_of_none (w.tp a xs e) hp)]; exact w.tp a xs e⟩
theorem W.new (w : W H0 H L) (o : HO) (hp : H p = none) : W H0 (upd H p o) ((p, o) :: L) := by
  have w1 := w.skip (o := o) hp
  refine ⟨List.nodup_cons.mpr ⟨fun m => ?_, w.nd⟩, fun x hx => ?_, w1.tp⟩
  · obtain ⟨x, hx, e⟩ := List.mem_map.mp m
    have z := w.is_ x hx
    rw [show x.1 = p from e, hp] at z
    cases z
  · rcases List.mem_cons.mp hx with rfl | hx
    · exact upd_same
    · exact w1.is_ x hx
theorem W.sub (w : W H0 H L) (h : ∀ x ∈ L', x ∈ L) (hn : (L'.map (·.1)).Nodup) : W H0 H L' := ⟨hn, fun x hx => w.is_ x (h x hx), w.tp⟩
theorem W.perm (w : W H0 H L) (h : L.Perm L') : W H0 H L' := w.sub (fun x hx => h.mem_iff.mpr hx) ((h.map _).nodup_iff.mp w.nd)
theorem W.drop1 {x : Ent} (w : W H0 H (x :: L)) : W H0 H L := w.sub (fun y hy => List.mem_cons_of_mem _ hy) (List.nodup_cons.mp w.nd).2
theorem W.dropL (w : W H0 H (L ++ R)) : W H0 H R := w.sub (fun y hy => List.mem_append_right _ hy) (by have := w.nd; rw [List.map_append] at this; exact (List.nodup_append.mp this).2.1)
/-- of the first n entries these, in this turn; and the rest -/
theorem W.pick (w : W H0 H L) (n : Nat) (is : List Nat) (h : is.Nodup ∧ ∀ i ∈ is, i < n := by decide) : W H0 H (is.filterMap (fun i => L[i]?) ++ L.drop n) := by
  have inj : ∀ (i j : Nat) (x y : Ent), L[i]? = some x → L[j]? = some y → x.1 = y.1 → i = j := by
    intro i j x y hx hy e
    obtain ⟨hi, ex⟩ := List.getElem?_eq_some_iff.mp hx
    obtain ⟨hj, ey⟩ := List.getElem?_eq_some_iff.mp hy
    refine (List.getElem_inj (xs := L.map (·.1)) (h₀ := by rw [List.length_map]; exact hi) (h₁ := by rw [List.length_map]; exact hj) w.nd).mp ?_
    rw [List.getElem_map, List.getElem_map, ex, ey, e]
  refine w.sub ?_ ?_
  · intro x hx
    rcases List.mem_append.mp hx with q | q
    · obtain ⟨i, _, e⟩ := List.mem_filterMap.mp q
      exact List.mem_of_getElem? e
    · exact List.mem_of_mem_drop q
  · rw [List.map_append, List.nodup_append]
    refine ⟨?_, ?_, ?_⟩
    · show List.Pairwise (· ≠ ·) _
      rw [List.pairwise_map, List.pairwise_filterMap]
      exact List.Pairwise.imp (fun {i j} ne x hx y hy e => ne (inj i j x y hx hy e)) h.1
    · exact w.nd.sublist ((List.drop_sublist n L).map _)
    · intro a ha b hb e
      obtain ⟨x, hx, rfl⟩ := List.mem_map.mp ha
      obtain ⟨y, hy, rfl⟩ := List.mem_map.mp hb
      obtain ⟨i, hi, ei⟩ := List.mem_filterMap.mp hx
      obtain ⟨j, hj⟩ := List.getElem?_of_mem hy
      rw [List.getElem?_drop] at hj
      have := inj i (n + j) x y ei hj e
      have := h.2 i hi
      omega
/-- the segment [n, n + m) to the front -/
theorem W.rot (w : W H0 H L) (n m : Nat) : W H0 H ((L.drop n).take m ++ (L.take n ++ (L.drop n).drop m)) := by
  refine w.perm ?_
  have e : L = L.take n ++ ((L.drop n).take m ++ (L.drop n).drop m) := by rw [List.take_append_drop, List.take_append_drop]
  conv => lhs; rw [e]
  rw [← List.append_assoc, ← List.append_assoc]
  exact List.Perm.append_right _ List.perm_append_comm
/-- the first entry takes the place of the j-th one behind it -/
theorem W.repl {x : Ent} (w : W H0 H (x :: L)) (j : Nat) : W H0 H (L.set j x) := by
  have hx := (List.nodup_cons.mp w.nd)
  refine w.sub (fun y hy => ?_) ?_
  · rcases List.mem_or_eq_of_mem_set hy with h | h
    · exact List.mem_cons_of_mem _ h
    · rw [h]; exact List.mem_cons_self
  · rw [List.map_set]
    by_cases hj : j < (L.map (·.1)).length
    · rw [List.set_eq_take_append_cons_drop, if_pos hj]
      have e : L.map (·.1) = (L.map (·.1)).take j ++ (L.map (·.1)).drop j := (List.take_append_drop _ _).symm
      have n2 := hx.2
      rw [e] at n2
      obtain ⟨a1, a2, a3⟩ := List.nodup_append.mp n2
      have hm : ∀ z ∈ (L.map (·.1)).drop (j + 1), z ∈ (L.map (·.1)).drop j := fun z hz => by
        rw [← List.drop_drop] at hz
        exact List.mem_of_mem_drop hz
      refine List.nodup_append.mpr ⟨a1, List.nodup_cons.mpr ⟨fun z => hx.1 (List.mem_of_mem_drop z), ?_⟩, fun a ha b hb => ?_⟩
      · rw [← List.drop_drop]
        exact a2.sublist (List.drop_sublist _ _)
      · rcases List.mem_cons.mp hb with rfl | hb
        · exact fun z => hx.1 (by show x.1 ∈ _; rw [← z]; exact List.mem_of_mem_take ha)
        · exact a3 a ha b (hm b hb)
    · rw [List.set_eq_of_length_le (by omega)]
      exact hx.2
/-- the i-th entry to the front, and back -/
theorem perm_front {α : Type} : ∀ (L : List α) (i : Nat) (x : α), L[i]? = some x → L.Perm (x :: L.eraseIdx i)
  | [], _, _, h => by simp at h
  | y :: L, 0, x, h => by
    have e : y = x := Option.some.inj h
    subst e; exact List.Perm.refl _
  | y :: L, i + 1, x, h => by
    have ih := perm_front L i x h
    exact (ih.cons y).trans (List.Perm.swap x y _)
theorem perm_back {α : Type} : ∀ (L : List α) (i : Nat) (x x' : α), L[i]? = some x → (x' :: L.eraseIdx i).Perm (L.set i x')
  | [], _, _, _, h => by simp at h
  | y :: L, 0, x, x', h => List.Perm.refl _
  | y :: L, i + 1, x, x', h => by
    have ih := perm_back L i x x' h
    exact (List.Perm.swap y x' _).trans (ih.cons y)
theorem W.front {x : Ent} (w : W H0 H L) (i : Nat) (h : L[i]? = some x) : W H0 H (x :: L.eraseIdx i) := w.perm (perm_front L i x h)
theorem W.back {x x' : Ent} (w : W H0 H L) (i : Nat) (h : L[i]? = some x) (v : W H H' (x' :: L.eraseIdx i)) : W H0 H' (L.set i x') := (w.tr v).perm (perm_back L i x x' h)
theorem W.list {K : PySem.W.Frag} {xs : List V} (w : W H0 H L) (i : Nat) (h : L[i]? = some (p, .lst xs)) : SqL K H p xs := SqL.of (w.get i h)
end
theorem szL {n : Nat} (h : n ≤ 100000) : n < sizeLine := Nat.lt_of_le_of_lt h (by decide)
theorem szE {n : Nat} (h : n ≤ 100000) : n ≤ sizeLine := Nat.le_of_lt (szL h)

/-! ### readings that stop the walk -/
abbrev MRd := V → List V → Hp → VK → Prop
@[irreducible] def xApp : MRd := rAppend
@[irreducible] def xPop : MRd := rPop
@[irreducible] def xPopAt : MRd := rPopAt
@[irreducible] def xIns : MRd := fun x vs H Q => ∃ (l : Addr) (xs : List V) (i : Int) (y : V), x = .ref l ∧ vs = [.int i, y] ∧ H l = some (.lst xs) ∧ xs.length < sizeLine ∧ 0 ≤ i ∧ i < 2 ^ 63 ∧
    Q .non (upd H l (.lst (xs.take i.toNat ++ [y] ++ xs.drop i.toNat)))
@[irreducible] def xRem : MRd := rRemI
@[irreducible] def xExt : MRd := rExtend
@[irreducible] def xSetL : TSet := rSetL
/-- a new object -/
@[irreducible] def xNew (o : HO) (H : Hp) (Q : VK) : Prop := ∀ p, H p = none → Q (.ref p) (upd H p o)
@[irreducible] def xFldSt (K : PySem.W.Frag) (f : Str) (x y : V) (H : Hp) (Q : Hp → Prop) : Prop := ∃ a C dx fs, x = .ref a ∧ H a = some (.ins C dx fs) ∧ Cls K C ∧ NoAttr K C f ∧ fs.length < 1000 ∧ Q (upd H a (.ins C dx (putF f y fs)))
@[irreducible] def xDPut (x y v : V) (H : Hp) (Q : Hp → Prop) : Prop := ∃ a H', x = .ref a ∧ DPut H a y v H' ∧ Q H'
@[irreducible] def xMake (C : Addr) (sp : Sp) (E : XK) (vs : List V) (H : Hp) (Q : VK) : Prop := ∀ x dx, H x = none → H dx = none → dx ≠ x →
  sp (.ref x :: vs) (upd (upd H dx (.own x)) x (.ins C dx [])) (fun v H2 => v = .non ∧ Q (.ref x) H2) E
@[irreducible] def xCall (sp : Sp) (vs : List V) (H : Hp) (Q : VK) (E : XK) : Prop := sp vs H Q E
@[irreducible] def xFor (J : It) (g : TG) (tb : TS) (D : Ends) (σ : L2.St) (H : Hp) : Prop := ∃ W : Nat → Nat → L2.St → Hp → Prop, (∃ m, W 0 m σ H) ∧ ∀ i m σ H, W i m σ H →
  (J.stop i H ∧ D.nx σ H) ∨ (J.go i H ∧ ∃ N : L2.St → Hp → Prop, (∀ σ' H', N σ' H' → ∃ m', m' < m ∧ W (i + 1) m' σ' H') ∧ ∀ x H', J.yld i H x H' → g x σ H' fun σ2 H2 => tb { D with nx := N, ct := N, bk := D.nx } σ2 H2)
@[irreducible] def xWhile (c : TT) (tb : TS) (D : Ends) (σ : L2.St) (H : Hp) : Prop := tWhile c tb D σ H
@[irreducible] def xLc (J : It) (g : TG) (tt : TT) (te : TE) (vs : List Nat) (σ : L2.St) (H1 : Hp) (Q : VK) : Prop := ∀ D, H1 D = none → ∃ W : Nat → Nat → Hp → Prop, (∃ m, W 0 m (upd H1 D (.lst []))) ∧ ∀ i m H, W i m H →
  (J.stop i H ∧ Q (.ref D) H) ∨ (J.go i H ∧ ∃ Nx : Hp → Prop, (∀ H', Nx H' → ∃ m', m' < m ∧ W (i + 1) m' H') ∧ ∀ x H', J.yld i H x H' → g x (wipe σ vs) H' fun σ2 H2 => wipe σ2 vs = wipe σ vs ∧ tt σ2 H2 fun b H3 =>
    if b = true then te σ2 H3 fun y H4 => ∃ acc, H4 D = some (.lst acc) ∧ acc.length < sizeLine ∧ Nx (upd H4 D (.lst (acc ++ [y]))) else Nx H3)
/-- two ways; said behind it which one -/
@[irreducible] def xIf (b : Bool) (A B : Prop) : Prop := if b = true then A else B
theorem xIf_T {b : Bool} {A B : Prop} (hb : b = true) (h : A) : xIf b A B := by
  unfold xIf; rw [if_pos hb]; exact h
theorem xIf_F {b : Bool} {A B : Prop} (hb : b = false) (h : B) : xIf b A B := by
  unfold xIf; rw [hb, if_neg Bool.false_ne_true]; exact h
theorem xIf_2 {b : Bool} {A B : Prop} (h1 : b = true → A) (h2 : b = false → B) : xIf b A B := by
  cases b
  · exact xIf_F rfl (h2 rfl)
  · exact xIf_T rfl (h1 rfl)
theorem xIf_D {c : Prop} [Decidable c] {A B : Prop} (h1 : c → A) (h2 : ¬ c → B) : xIf (decide c) A B :=
  xIf_2 (fun h => h1 (of_decide_eq_true h)) (fun h => h2 (of_decide_eq_false h))
theorem xIf_N {c : Prop} [Decidable c] {A B : Prop} (h1 : ¬ c → A) (h2 : c → B) : xIf (!decide c) A B :=
  xIf_2 (fun h => h1 (by simpa using h)) (fun h => h2 (by simpa using h))
section
variable {X : Cx}
theorem my_append : MtM X "list.append" xApp := by unfold xApp; exact mt_append
theorem my_pop : MtM X "list.pop" xPop := by unfold xPop; exact mt_pop
theorem my_popAt : MtM X "list.pop" xPopAt := by unfold xPopAt; exact mt_popAt
theorem my_insert : MtR X "list.insert" xIns := by unfold xIns; exact mt_insert
theorem my_remove : MtM X "list.remove" xRem := by unfold xRem; exact mt_remove
theorem my_extend : MtM X "list.extend" xExt := by unfold xExt; exact mt_extend
theorem my_setL : PSet X xSetL := by unfold xSetL; exact set_list
theorem opr_le {f : Value → Value → Sem Value} {r r' : R2} (h : OpR X f r') (g : ∀ x y H Q, r x y H Q → r' x y H Q) : OpR X f r := fun pins s σ H x y v u Q I rx ry q => h pins s σ H x y v u Q I rx ry (g _ _ _ _ q)
theorem cr_le {f : Value} {r r' : List V → Hp → VK → Prop} (h : CallR X f r') (g : ∀ xs H Q, r xs H Q → r' xs H Q) : CallR X f r := fun pins s σ H xs us Q I rx q => h pins s σ H xs us Q I rx (g _ _ _ q)
theorem PE.le {e : Expr} {t t' : TE} (h : PE X e t') (g : ∀ σ H Q, t σ H Q → t' σ H Q) : PE X e t := ⟨fun pins s σ H Q I q => h.run pins s σ H Q I (g _ _ _ q)⟩
theorem PT.le {e : Expr} {t t' : TT} (h : PT X e t') (g : ∀ σ H Q, t σ H Q → t' σ H Q) : PT X e t := ⟨fun pins s σ H Q I q => h.run pins s σ H Q I (g _ _ _ q)⟩
theorem PS.le {e : Stmt} {t t' : TS} (h : PS X e t') (g : ∀ D σ H, t D σ H → t' D σ H) : PS X e t := ⟨fun pins s σ H D I q => h.run pins s σ H D I (g _ _ _ q)⟩
/-- lists, tuples displayed -/
def uLst (t : TA) : TE := fun σ H Q => t σ H fun xs H1 => xs.length ≤ sizeLine ∧ xNew (.lst xs) H1 Q
def uTup (t : TA) : TE := fun σ H Q => t σ H fun xs H1 => xs.length ≤ sizeLine ∧ xNew (.tup xs) H1 Q
theorem my_lst {es : List Expr} {t : TA} {pos : Pos} (h : PA X es t) : PE X (.List es pos) (uLst t) := by
  have e : uLst t = tLst t := by unfold uLst tLst xNew; rfl
  rw [e]; exact pe_lst h
theorem my_tup {es : List Expr} {t : TA} {pos : Pos} {x1} (h : PA X es t) : PE X (.Tuple es x1 pos) (uTup t) := by
  have e : uTup t = tTup t := by unfold uTup tTup xNew; rfl
  rw [e]; exact pe_tup h
def uDNew : TE := fun _ H Q => xNew (.dK []) H Q
theorem my_dnew {pos : Pos} : PE X (.Dict [] [] pos) uDNew := by
  have e : uDNew = tDNewK := by unfold uDNew tDNewK xNew; rfl
  rw [e]; exact pe_dnewK
def uCat : R2 := fun x y H Q => ∃ l b xs zs, x = .ref l ∧ y = .ref b ∧ H l = some (.lst xs) ∧ H b = some (.lst zs) ∧ xs.length + zs.length ≤ sizeLine ∧ xNew (.lst (xs ++ zs)) H Q
theorem my_cat : OpR X (binaryOp .Add) uCat := by
  have e : uCat = rCat := by unfold uCat rCat xNew; rfl
  rw [e]; exact op_cat
def uSlL (K : PySem.W.Frag) : V → Option Int → Option Int → Hp → VK → Prop := fun x lo hi H Q => ∃ a xs, x = .ref a ∧ SqL K H a xs ∧ xNew (.lst (cutV xs lo hi)) H Q
theorem my_sl : SlR X (uSlL X.K) := by
  have e : uSlL X.K = rSlL X.K := by unfold uSlL rSlL xNew; rfl
  rw [e]; exact sl_list
def uListOf (K : PySem.W.Frag) : List V → Hp → VK → Prop := fun xs H Q => ∃ p ys, xs = [.ref p] ∧ (SqL K H p ys ∨ SqT K H p ys) ∧ xNew (.lst ys) H Q
theorem my_listOf : CallR X (.type "list") (uListOf X.K) := by
  unfold uListOf xNew; exact call_list_of
def uFld (K : PySem.W.Frag) (ta tv : TE) (f : Str) : TS := fun D σ H => tv σ H fun y H1 => ta σ H1 fun x H2 => xFldSt K f x y H2 fun H3 => D.nx σ H3
theorem my_fld {o value : Expr} {ta tv : TE} {f : Str} {pos pos' : Pos} (ha : PE X o ta) (hv : PE X value tv) (hs : swapsWith value (some (.Attribute o f pos')) pos.line X.env = pure false := by rfl) : PS X (.Assign [.Attribute o f pos'] value pos) (uFld X.K ta tv f) := by
  have e : uFld X.K ta tv f = sFld X.K ta tv f := by unfold uFld sFld xFldSt; rfl
  rw [e]; exact ps_fld ha hv hs
def uDPut (td ty tv : TE) : TS := fun D σ H => tv σ H fun v H1 => td σ H1 fun x H2 => ty σ H2 fun y H3 => xDPut x y v H3 fun H4 => D.nx σ H4
theorem my_dput {o i value : Expr} {td ty tv : TE} {pos pos' : Pos} (hu : X.A.units + 1 < cLine) (ho : PE X o td) (hi : PE X i ty) (hv : PE X value tv) (hs : swapsWith value (some (.Subscript o i pos')) pos.line X.env = pure false := by rfl) :
    PS X (.Assign [.Subscript o i pos'] value pos) (uDPut td ty tv) := by
  have e : uDPut td ty tv = sDPut td ty tv := by unfold uDPut sDPut xDPut; rfl
  rw [e]; exact ps_dput hu ho hi hv hs
def uMake (C : Addr) (sp : Sp) (E : XK) (t : TA) : TE := fun σ H Q => t σ H fun vs H1 => xMake C sp E vs H1 Q
theorem uMake_eq (C : Addr) (sp : Sp) (E : XK) (t : TA) (σ : L2.St) (H : Hp) (Q : VK) : uMake C sp E t σ H Q = tMake C sp [] E t σ H Q := by
  unfold uMake tMake xMake; simp only [List.append_nil]
def uCall (sp : Sp) (E : XK) (t : TA) : TE := fun σ H Q => t σ H fun vs H1 => xCall sp vs H1 Q E
theorem uCall_eq (sp : Sp) (E : XK) (t : TA) (σ : L2.St) (H : Hp) (Q : VK) : uCall sp E t σ H Q = tCall sp [] E t σ H Q := by
  unfold uCall tCall xCall; simp only [List.append_nil]
def uMeth (C : Addr) (m : Str) (sp : Sp) (E : XK) (ta : TE) (t : TA) : TE := fun σ H Q => ta σ H fun x H1 => ∃ a dx fs, x = .ref a ∧ H1 a = some (.ins C dx fs) ∧ fs.lookup m = none ∧ t σ H1 fun vs H2 => xCall sp (x :: vs) H2 Q E
theorem uMeth_eq (C : Addr) (m : Str) (sp : Sp) (E : XK) (ta : TE) (t : TA) (σ : L2.St) (H : Hp) (Q : VK) : uMeth C m sp E ta t σ H Q = tMeth C m sp [] E ta t σ H Q := by
  unfold uMeth tMeth xCall; simp only [List.append_nil]
def uIfS (c : TT) (t u : TS) : TS := fun D σ H => c σ H fun b H1 => xIf b (t D σ H1) (u D σ H1)
theorem my_if {c : Expr} {a b : List Stmt} {tc : TT} {t u : TS} {pos : Pos} (hc : PT X c tc) (ha : PSs X a t) (hb : PSs X b u) : PS X (.If c a b pos) (uIfS tc t u) := by
  have e : uIfS tc t u = tIfS tc t u := by unfold uIfS tIfS xIf; rfl
  rw [e]; exact ps_if hc ha hb
def uIf (t : TT) (ta tb : TE) : TE := fun σ H Q => t σ H fun c H1 => xIf c (ta σ H1 Q) (tb σ H1 Q)
theorem my_ifExp {a b c : Expr} {tA : TT} {ta tb : TE} {pos : Pos} (hc : PT X c tA) (ha : PE X a ta) (hb : PE X b tb) : PE X (.IfExp c a b pos) (uIf tA ta tb) := by
  have e : uIf tA ta tb = tIf tA ta tb := by unfold uIf tIf xIf; rfl
  rw [e]; exact pe_ifExp hc ha hb
def uAnd (t u : TT) : TT := fun σ H Q => t σ H fun c H1 => xIf c (u σ H1 Q) (Q false H1)
def uOr (t u : TT) : TT := fun σ H Q => t σ H fun c H1 => xIf c (Q true H1) (u σ H1 Q)
theorem my_and {a b : Expr} {rest : List Expr} {tA tB' : TT} {pos : Pos} (ha : PT X a tA) (hb : PW X (.BoolOp .And (b :: rest) pos) tB') : PW X (.BoolOp .And (a :: b :: rest) pos) (uAnd tA tB') := by
  have e : uAnd tA tB' = tAnd tA tB' := by unfold uAnd tAnd xIf; rfl
  rw [e]; exact pw_and ha hb
theorem my_or {a b : Expr} {rest : List Expr} {tA tB' : TT} {pos : Pos} (ha : PT X a tA) (hb : PW X (.BoolOp .Or (b :: rest) pos) tB') : PW X (.BoolOp .Or (a :: b :: rest) pos) (uOr tA tB') := by
  have e : uOr tA tB' = tOr tA tB' := by unfold uOr tOr xIf; rfl
  rw [e]; exact pw_or ha hb
def uAndV (ta tb : TE) : TE := fun σ H Q => ta σ H fun x H1 => ∃ c, x = .bl c ∧ xIf c (tb σ H1 Q) (Q (.bl false) H1)
def uOrV (ta tb : TE) : TE := fun σ H Q => ta σ H fun x H1 => ∃ c, x = .bl c ∧ xIf c (Q (.bl true) H1) (tb σ H1 Q)
theorem my_andV {a b : Expr} {rest : List Expr} {ta tb : TE} {pos : Pos} (ha : PE X a ta) (hb : PE X (.BoolOp .And (b :: rest) pos) tb) : PE X (.BoolOp .And (a :: b :: rest) pos) (uAndV ta tb) := by
  have e : uAndV ta tb = tAndV ta tb := by unfold uAndV tAndV xIf; rfl
  rw [e]; exact pe_and ha hb
theorem my_orV {a b : Expr} {rest : List Expr} {ta tb : TE} {pos : Pos} (ha : PE X a ta) (hb : PE X (.BoolOp .Or (b :: rest) pos) tb) : PE X (.BoolOp .Or (a :: b :: rest) pos) (uOrV ta tb) := by
  have e : uOrV ta tb = tOrV ta tb := by unfold uOrV tOrV xIf; rfl
  rw [e]; exact pe_or ha hb
/-- a < b < c -/
def uChain (r r' : R2) (ta tb tc : TE) : TE := fun σ H Q => ta σ H fun x H1 => tb σ H1 fun y H2 => r x y H2 fun z H3 => ∃ k, z = .bl k ∧ xIf k (tc σ H3 fun u H4 => r' y u H4 Q) (Q (.bl false) H3)
def uFor (wi : TI) (g : TG) (tb : TS) : TS := fun D σ H => wi σ H fun J H1 => xFor J g tb D σ H1
theorem my_for {tg iter : Expr} {body : List Stmt} {wi : TI} {g : TG} {tb : TS} {pos : Pos} (hp : PassesOwn (model X.prog X.w) X.A X.env X.xe) (hc : X.calm = true) (hi : PI X tg iter wi) (hg : PG X tg g) (hb : PSs X body tb)
    (hs : ∀ x, foldedSetIterable iter X.env x = pure x := by intro _; rfl) : PS X (.For tg iter body [] pos) (uFor wi g tb) := by
  have e : uFor wi g tb = tFor wi g tb := by unfold uFor tFor xFor; rfl
  rw [e]; exact ps_for hp hc hi hg hb hs
def uWhile (c : TT) (tb : TS) : TS := fun D σ H => xWhile c tb D σ H
theorem my_while {c : Expr} {body : List Stmt} {tc : TT} {tb : TS} {pos : Pos} (hp : PassesOwn (model X.prog X.w) X.A X.env X.xe) (hc : PT X c tc) (hb : PSs X body tb) : PS X (.While c body [] pos) (uWhile tc tb) := by
  have e : uWhile tc tb = tWhile tc tb := by unfold uWhile xWhile; rfl
  rw [e]; exact ps_while hp hc hb
end
theorem permC {L L' : List Ent} (h : ∀ (_ : BEq Ent) (_ : LawfulBEq Ent) (a : Ent), L.count a = L'.count a) : L.Perm L' := by
  classical
  exact List.perm_iff_count.mpr fun a => h inferInstance inferInstance a
theorem W.subl {H0 H : Hp} {L L' : List Ent} (w : W H0 H L) (h : L'.Sublist L) : W H0 H L' := w.sub (fun x hx => h.subset hx) (w.nd.sublist (h.map _))
end TR
namespace TR
open PySem L2
section
variable {X : Cx} {CX : CXT} {k : Nat} {f C : Addr} {fd : FuncData} {ps : List Str} {sp : Sp} {E : XK} {x m : Str} {p pos apos : Pos} {e o : Expr} {es : List Expr} {ta : TE} {t : TA}
theorem my_call (F : FnOk X.prog X.w X.K X.mg X.base CX k f fd ps sp) (hr : Room k X.A) (hg : Gl X x) (hm : X.mg x = some (.ref f)) (hk : PySem.W.keepIn X.K (.ref f) = true) (hb : Binds X.K fd ps []) (hx : Passes CX X E)
    (ha : PA X (e :: es) t) (hdb : (x == ("__debug__" : Str)) = false := by decide) (he : starEach (e :: es) X.env = (false, eval e X.env) :: starEach es X.env := by rfl) (hpl : (backTo pos (starEach es X.env)).any (·.1) = false := by rfl) :
    PE X (.Call (.Name x p) (e :: es) [] pos) (uCall sp E t) := PE.le (pe_call F hr hg hm hk hb .nil hx ha hdb he hpl) fun σ H Q q => by rw [← uCall_eq]; exact q
theorem my_call0 (F : FnOk X.prog X.w X.K X.mg X.base CX k f fd ps sp) (hr : Room k X.A) (hg : Gl X x) (hm : X.mg x = some (.ref f)) (hk : PySem.W.keepIn X.K (.ref f) = true) (hb : Binds X.K fd ps []) (hx : Passes CX X E)
    (hdb : (x == ("__debug__" : Str)) = false := by decide) : PE X (.Call (.Name x p) [] [] pos) (uCall sp E tNil) := PE.le (pe_call0 F hr hg hm hk hb .nil hx hdb) fun σ H Q q => by rw [← uCall_eq]; exact q
theorem my_meth {pl : Sem Bool} (he : PE X o ta) (c : Cls X.K C) (hm : Meth X.K C m f) (F : FnOk X.prog X.w X.K X.mg X.base CX k f fd ps sp) (hr : Room k X.A) (hb : Binds X.K fd ps []) (hx : Passes CX X E) (ha : PA X (e :: es) t)
    (hst : starEach (e :: es) X.env = (false, eval e X.env) :: starEach es X.env := by rfl) (hpl : (backTo pos (starEach es X.env)).any (·.1) = false := by rfl)
    (ht : eval (.Call (.Attribute o m apos) (e :: es) [] pos) X.env = (do
      let ov ← eval o X.env
      standAt apos.atName
      let (f, first) ← holding [ov] (getMethod ov m pl)
      callWith pos f first (backTo pos (starEach (e :: es) X.env)) (backToKw pos (keywordEach [] X.env))) := by rfl) :
    PE X (.Call (.Attribute o m apos) (e :: es) [] pos) (uMeth C m sp E ta t) := PE.le (pe_meth he c hm F hr hb .nil hx ha hst hpl ht) fun σ H Q q => by rw [← uMeth_eq]; exact q
theorem my_meth0 {pl : Sem Bool} (he : PE X o ta) (c : Cls X.K C) (hm : Meth X.K C m f) (F : FnOk X.prog X.w X.K X.mg X.base CX k f fd ps sp) (hr : Room k X.A) (hb : Binds X.K fd ps []) (hx : Passes CX X E)
    (ht : eval (.Call (.Attribute o m apos) [] [] pos) X.env = (do
      let ov ← eval o X.env
      standAt apos.atName
      let (f, first) ← holding [ov] (getMethod ov m pl)
      callWith pos f first (backTo pos (starEach [] X.env)) (backToKw pos (keywordEach [] X.env))) := by rfl) :
    PE X (.Call (.Attribute o m apos) [] [] pos) (uMeth C m sp E ta tNil) := PE.le (pe_meth0 he c hm F hr hb .nil hx ht) fun σ H Q q => by rw [← uMeth_eq]; exact q
theorem my_make (M : Mk X.K C f) (F : FnOk X.prog X.w X.K X.mg X.base CX k f fd ps sp) (hr : Room (k + 1) X.A) (hg : Gl X x) (hm : X.mg x = some (.ref C)) (hb : Binds X.K fd ps []) (hx : Passes CX X E)
    (ha : PA X (e :: es) t) (hdb : (x == ("__debug__" : Str)) = false := by decide) (he : starEach (e :: es) X.env = (false, eval e X.env) :: starEach es X.env := by rfl) (hpl : (backTo pos (starEach es X.env)).any (·.1) = false := by rfl) :
    PE X (.Call (.Name x p) (e :: es) [] pos) (uMake C sp E t) := PE.le (pe_make M F hr hg hm hb .nil hx ha hdb he hpl) fun σ H Q q => by rw [← uMake_eq]; exact q
theorem my_make0 (M : Mk X.K C f) (F : FnOk X.prog X.w X.K X.mg X.base CX k f fd ps sp) (hr : Room (k + 1) X.A) (hg : Gl X x) (hm : X.mg x = some (.ref C)) (hb : Binds X.K fd ps []) (hx : Passes CX X E)
    (hdb : (x == ("__debug__" : Str)) = false := by decide) : PE X (.Call (.Name x p) [] [] pos) (uMake C sp E tNil) := PE.le (pe_make0 M F hr hg hm hb .nil hx hdb) fun σ H Q q => by rw [← uMake_eq]; exact q
end
section
variable {X : Cx} {a b c : Expr} {ta tb tc te : TE} {r r' : R2} {op op' : CmpOp} {pos : Pos}
theorem uChain_eq : uChain r r' ta tb tc = tChain r r' ta tb tc := by unfold uChain tChain xIf; rfl
theorem my_chain (ho : OpR X (compareOp op) r) (ho' : OpR X (compareOp op') r') (ha : PE X a ta) (hb : PE X b tb) (hc : PE X c tc)
    (hm : lastMarks [op, op'] [b, c] = false := by with_unfolding_all rfl) : PE X (.Compare a [op, op'] [b, c] pos) (uChain r r' ta tb tc) := by rw [uChain_eq]; exact pe_chain ho ho' ha hb hc hm
theorem my_chainT (ho : OpR X (compareOp op) r) (ho' : OpR X (compareOp op') r') (ha : PE X a ta) (hb : PE X b tb) (hc : PE X c tc)
    (hm : lastMarks [op, op'] [b, c] = false := by with_unfolding_all rfl) : PT X (.Compare a [op, op'] [b, c] pos) (tTest (uChain r r' ta tb tc)) := by rw [uChain_eq]; exact pt_chain ho ho' ha hb hc hm
/-- a part that has a value and leaves the heap as it is -/
def Still (t : TE) : Prop := ∀ σ H Q, t σ H Q → ∃ v, Q v H ∧ ∀ Q' : VK, Q' v H → t σ H Q'
theorem still_c {v : V} : Still (tC v) := fun _ _ _ q => ⟨v, q, fun _ q' => q'⟩
theorem still_v {i : Nat} : Still (tVar i) := fun _ _ _ ⟨v, e, q⟩ => ⟨v, q, fun _ q' => ⟨v, e, q'⟩⟩
theorem still_fld {K : PySem.W.Frag} {f : Str} (h : Still ta) : Still (tFld K ta f) := fun σ H Q q => by
  obtain ⟨v, ⟨a, C, dx, fs, u, e, e1, e2, e3, e4, q⟩, k⟩ := h σ H _ q
  exact ⟨u, q, fun Q' q' => k _ ⟨a, C, dx, fs, u, e, e1, e2, e3, e4, q'⟩⟩
def rLenQ (K : PySem.W.Frag) : List V → Hp → VK → Prop := fun xs H Q => ∃ p ys, xs = [.ref p] ∧ (SqL K H p ys ∨ SqT K H p ys) ∧ Q (.int ys.length) H
theorem my_lenQ : CallR X (.builtin "len") (rLenQ X.K) := call_len_seq
theorem still_len {K : PySem.W.Frag} (h : Still ta) : Still (tCB (rLenQ K) (tCons ta tNil)) := fun σ H Q q => by
  obtain ⟨v, ⟨p, ys, e, e1, q⟩, k⟩ := h σ H _ q
  exact ⟨_, q, fun Q' q' => k _ ⟨p, ys, e, e1, q'⟩⟩
def rLenSQ : List V → Hp → VK → Prop := fun xs H Q => ∃ z, xs = [.str z] ∧ z.length ≤ sizeLine ∧ Q (.int z.length) H
theorem my_lenSQ : CallR X (.builtin "len") rLenSQ := call_len_str
theorem still_lenS (h : Still ta) : Still (tCB rLenSQ (tCons ta tNil)) := fun σ H Q q => by
  obtain ⟨v, ⟨z, e, e1, q⟩, k⟩ := h σ H _ q
  exact ⟨_, q, fun Q' q' => k _ ⟨z, e, e1, q'⟩⟩
/-- a <= b <= c of ints, all three still -/
def uChI (f g : Int → Int → Bool) (ta tb tc : TE) : TE := fun σ H Q => ta σ H fun x _ => tb σ H fun y _ => tc σ H fun z _ => ∃ i j l, x = .int i ∧ y = .int j ∧ z = .int l ∧ Q (.bl (f i j && g j l)) H
theorem uChI_le {f g : Int → Int → Bool} (sa : Still ta) (sb : Still tb) (sc : Still tc) (σ : L2.St) (H : Hp) (Q : VK) (q : uChI f g ta tb tc σ H Q) :
    uChain (rI0 fun i j => .bl (f i j)) (rI0 fun i j => .bl (g i j)) ta tb tc σ H Q := by
  obtain ⟨x, q, ka⟩ := sa σ H _ q
  obtain ⟨y, q, kb⟩ := sb σ H _ q
  obtain ⟨z, ⟨i, j, l, rfl, rfl, rfl, q⟩, kc⟩ := sc σ H _ q
  refine ka _ (kb _ ⟨i, j, rfl, rfl, _, rfl, ?_⟩)
  refine xIf_2 (fun h => kc _ ⟨j, l, rfl, rfl, ?_⟩) (fun h => ?_)
  · rw [h, Bool.true_and] at q; exact q
  · rw [h, Bool.false_and] at q; exact q
theorem my_chI {f g : Int → Int → Bool} (ho : OpR X (compareOp op) (rI0 fun i j => .bl (f i j))) (ho' : OpR X (compareOp op') (rI0 fun i j => .bl (g i j))) (ha : PE X a ta) (hb : PE X b tb) (hc : PE X c tc) (sa : Still ta) (sb : Still tb) (sc : Still tc)
    (hm : lastMarks [op, op'] [b, c] = false := by with_unfolding_all rfl) : PE X (.Compare a [op, op'] [b, c] pos) (uChI f g ta tb tc) := PE.le (my_chain ho ho' ha hb hc hm) (uChI_le sa sb sc)
theorem my_chIT {f g : Int → Int → Bool} (ho : OpR X (compareOp op) (rI0 fun i j => .bl (f i j))) (ho' : OpR X (compareOp op') (rI0 fun i j => .bl (g i j))) (ha : PE X a ta) (hb : PE X b tb) (hc : PE X c tc) (sa : Still ta) (sb : Still tb) (sc : Still tc)
    (hm : lastMarks [op, op'] [b, c] = false := by with_unfolding_all rfl) : PT X (.Compare a [op, op'] [b, c] pos) (tTest (uChI f g ta tb tc)) :=
  PT.le (my_chainT ho ho' ha hb hc hm) fun σ H Q q => uChI_le sa sb sc σ H _ q
def uRevL (K : PySem.W.Frag) (te : TE) : TE := fun σ H Q => te σ H fun x H1 => ∃ a xs, x = .ref a ∧ SqL K H1 a xs ∧ xNew (.lst xs.reverse) H1 Q
theorem my_revL {e : Expr} {k : Nat} {p1 p2 p3 : Pos} (he : PE X e te) : PE X (.Subscript e (.Slice none none (some (.UnaryOp .USub (.Constant (.int 1) k p1) p2)) p3) pos) (uRevL X.K te) := by
  have e : uRevL X.K te = tRevL X.K te := by unfold uRevL tRevL xNew; rfl
  rw [e]; exact pe_revL he
def uLstRg (te : L2.St → Hp → (Int → Int → Hp → Prop) → Prop) : TE := fun σ H Q => te σ H fun a b H1 => RgOk a b ∧ xNew (.lst (rgV a b)) H1 Q
theorem my_listRg {e : Expr} {te : L2.St → Hp → (Int → Int → Hp → Prop) → Prop} {p : Pos} (hc : X.calm = true) (hg : Gl X "list") (hm : X.mg "list" = none) (he : PRg X e te) (na : starEach [e] X.env = (false, eval e X.env) :: starEach [] X.env := by rfl) : PE X (.Call (.Name "list" p) [e] [] pos) (uLstRg te) := by
  have e' : uLstRg te = tLstRg te := by unfold uLstRg tLstRg xNew; rfl
  rw [e']; exact pe_listRg hc hg hm he na
def uLc (wi : TI) (g : TG) (tt : TT) (te : TE) (vs : List Nat) : TE := fun σ H Q => wi σ H fun J H1 => xLc J g tt te vs σ H1 Q
theorem uLc_eq (wi : TI) (g : TG) (tt : TT) (te : TE) (vs : List Nat) : uLc wi g tt te vs = tLc wi g tt te vs := by unfold uLc tLc xLc; rfl
end
/-! ### what leaves a def -/
section
variable {P : Program} {w : World} {K : PySem.W.Frag} {mg : Str → Option Value} {base : Heap} {N : List Str} {qual : Str} {sc : Scope} {f : Addr} {cd : Value} {A : Around} {outer : List Env} {s : Shared} {H : Hp} {E : XK}
theorem passE : Passes (L2.CX P w) (cxOf (L2.CX P w) P w K mg base N qual sc f cd A outer s H E) E := passes_call (takes_of rfl rfl rfl rfl) fun _ _ _ _ h => h
theorem ownE : PassesOwn (model P w) (A.deeper (PyProof.Rows.envOfC qual sc s.heap.objs.size f cd)) (PyProof.Rows.envOfC qual sc s.heap.objs.size f cd) (cxOf (L2.CX P w) P w K mg base N qual sc f cd A outer s H E).xe := passes_of (X := cxOf (L2.CX P w) P w K mg base N qual sc f cd A outer s H E) rfl
theorem takesE : Takes (cxOf (L2.CX P w) P w K mg base N qual sc f cd A outer s H E) (fun cls d _ H => E cls d H) := takes_of rfl rfl rfl rfl
end
/-- a def of the text -/
theorem fun_of {K : PySem.W.Frag} {x qual : Str} {st : Stmt} {f : Addr} {fd : FuncData} (F : FunD K x qual (defArgs st) (defBody st) (defScope st) [] [] f fd) : Fun K x qual st f fd := by
  obtain ⟨⟨oc, od, dV, kV, doc, pm, an, cdv, ct, osl, e, lk, cd, dd, kk⟩, kp⟩ := F
  refine ⟨⟨oc, od, kV, doc, pm, an, cdv, ct, osl, ?_, lk, cd⟩, kp⟩
  rcases dd with ⟨_, rfl⟩ | ⟨h, _⟩
  · exact e
  · exact absurd rfl h
theorem ix_of {n : Nat} {z : Int} {j : Nat} (e : z = (j : Int)) (h : j < n) : ixN n z = some j := by
  unfold ixN
  rw [e, if_pos (by omega), if_pos (by omega)]
  simp
/-! ### steps -/
section
variable {H0 H : Hp} {L : List Ent} {l : Addr} {xs zs : List V} {y : V} {Q : VK} {QH : Hp → Prop} {o : HO}
theorem st_new (w : W H0 H L) (k : ∀ p H', W H0 H' ((p, o) :: L) → Q (.ref p) H') : xNew o H Q := by
  unfold xNew; exact fun p hp => k p _ (w.new o hp)
theorem st_tup (w : W H0 H L) (k : ∀ p H', H' p = some (.tup xs) → W H0 H' L → Q (.ref p) H') : xNew (.tup xs) H Q := by
  unfold xNew; exact fun p hp => k p _ upd_same (w.skip hp)
theorem st_app (w : W H0 H L) (i : Nat) (h : L[i]? = some (l, .lst xs)) (hz : xs.length < sizeLine) (k : ∀ H', W H0 H' (L.set i (l, .lst (xs ++ [y]))) → Q .non H') : xApp (.ref l) [y] H Q := by
  unfold xApp; exact ⟨l, xs, y, rfl, rfl, w.get i h, hz, k _ (w.set i _ h rfl)⟩
theorem st_pop (w : W H0 H L) (i : Nat) (h : L[i]? = some (l, .lst xs)) (hy : xs[xs.length - 1]? = some y) (k : ∀ H', W H0 H' (L.set i (l, .lst xs.dropLast)) → Q y H') : xPop (.ref l) [] H Q := by
  unfold xPop; exact ⟨l, xs, y, rfl, rfl, w.get i h, hy, k _ (w.set i _ h rfl)⟩
theorem st_pop0 (w : W H0 H L) (i : Nat) (h : L[i]? = some (l, .lst (y :: xs))) (k : ∀ H', W H0 H' (L.set i (l, .lst xs)) → Q y H') : xPopAt (.ref l) [.int 0] H Q := by
  unfold xPopAt
  refine ⟨l, y :: xs, 0, 0, y, rfl, rfl, w.get i h, by decide, by decide, ?_, rfl, k _ (w.set i _ h rfl)⟩
  show seqIndex? 0 (xs.length + 1) = some 0
  unfold seqIndex?
  simp
theorem st_ins (w : W H0 H L) (i : Nat) {n : Int} (h : L[i]? = some (l, .lst xs)) (hz : xs.length < sizeLine) (h0 : 0 ≤ n) (h1 : n < 2 ^ 63) (k : ∀ H', W H0 H' (L.set i (l, .lst (xs.take n.toNat ++ [y] ++ xs.drop n.toNat))) → Q .non H') : xIns (.ref l) [.int n, y] H Q := by
  unfold xIns; exact ⟨l, xs, n, y, rfl, rfl, w.get i h, hz, h0, h1, k _ (w.set i _ h rfl)⟩
theorem find_first {ns : List Int} {n : Int} (hm : n ∈ ns) : ∃ j, ns[j]? = some n ∧ (∀ m, m < j → ns[m]? ≠ some n) ∧ ns.eraseIdx j = ns.erase n := by
  induction ns with
  | nil => cases hm
  | cons a r ih =>
    by_cases e : a = n
    · subst e
      exact ⟨0, rfl, fun m hm => absurd hm (Nat.not_lt_zero m), by simp⟩
    · obtain ⟨j, h1, h2, h3⟩ := ih ((List.mem_cons.mp hm).resolve_left fun z => e z.symm)
      refine ⟨j + 1, h1, fun m hm => ?_, ?_⟩
      · cases m with
        | zero => exact fun z => e (Option.some.inj z)
        | succ m => exact h2 m (Nat.lt_of_succ_lt_succ hm)
      · rw [List.eraseIdx_cons_succ, h3, List.erase_cons_tail (by simpa using e)]
theorem st_rem (w : W H0 H L) (i : Nat) {ns : List Int} {n : Int} (h : L[i]? = some (l, .lst (ns.map V.int))) (hm : n ∈ ns) (k : ∀ H', W H0 H' (L.set i (l, .lst ((ns.erase n).map V.int))) → Q .non H') : xRem (.ref l) [.int n] H Q := by
  obtain ⟨j, h1, h2, h3⟩ := find_first hm
  unfold xRem
  refine ⟨l, ns, n, j, rfl, rfl, w.get i h, h1, h2, ?_⟩
  rw [h3]
  exact k _ (w.set i _ h rfl)
theorem st_setL (w : W H0 H L) (i : Nat) {n : Int} {j : Nat} (h : L[i]? = some (l, .lst xs)) (hj : ixN xs.length n = some j) (k : ∀ H', W H0 H' (L.set i (l, .lst (xs.set j y))) → QH H') : xSetL (.ref l) (.int n) y H QH := by
  unfold xSetL; exact ⟨l, xs, n, j, rfl, rfl, w.get i h, hj, k _ (w.set i _ h rfl)⟩
theorem st_fld {K : PySem.W.Frag} {C dx : Addr} {f : Str} {fs : List (Str × V)} (w : W H0 H L) (i : Nat) (h : L[i]? = some (l, .ins C dx fs)) (c : Cls K C) (n : NoAttr K C f) (hz : fs.length < 1000)
    (k : ∀ H', W H0 H' (L.set i (l, .ins C dx (putF f y fs))) → QH H') : xFldSt K f (.ref l) y H QH := by
  unfold xFldSt; exact ⟨l, C, dx, fs, rfl, w.get i h, c, n, hz, k _ (w.set i _ h rfl)⟩
theorem st_dput {key : Key} {kvs : List (Key × V)} {kv : V} (w : W H0 H L) (i : Nat) (h : L[i]? = some (l, .dK kvs)) (hk : kv = kV key) (hz : kvs.length < sizeLine) (k : ∀ H', W H0 H' (L.set i (l, .dK (putK kvs key y))) → QH H') : xDPut (.ref l) kv y H QH := by
  subst hk
  unfold xDPut; exact ⟨l, _, rfl, DPut.k (w.get i h) hz, k _ (w.set i _ h rfl)⟩
theorem st_make {C : Addr} {sp : Sp} {E : XK} {vs : List V} (w : W H0 H L) (k : ∀ x dx H', W H0 H' ((x, .ins C dx []) :: L) → sp (.ref x :: vs) H' (fun v H2 => v = .non ∧ Q (.ref x) H2) E) : xMake C sp E vs H Q := by
  unfold xMake; exact fun x dx hx hdx ne => k x dx _ ((w.skip hdx).new _ (by rw [upd_ne (Ne.symm ne)]; exact hx))
theorem st_call {sp : Sp} {E : XK} {vs : List V} (h : sp vs H Q E) : xCall sp vs H Q E := by unfold xCall; exact h
theorem st_forR {lo : Int} {n : Nat} {g : TG} {tb : TS} {D : Ends} {σ : L2.St} (Pv : Nat → L2.St → Hp → Prop) (h0 : Pv 0 σ H)
    (hs : ∀ i σ H, i < n → Pv i σ H → g (.int (lo + i)) σ H fun σ2 H2 => tb { D with nx := Pv (i + 1), ct := Pv (i + 1), bk := D.nx } σ2 H2) (hd : ∀ σ H, Pv n σ H → D.nx σ H) : xFor (Itr lo n) g tb D σ H := by
  unfold xFor; exact for_range Pv h0 hs hd
theorem st_forRC {lo c : Int} {n : Nat} {g : TG} {tb : TS} {D : Ends} {σ : L2.St} (Pv : Nat → L2.St → Hp → Prop) (h0 : Pv 0 σ H)
    (hs : ∀ i σ H, i < n → Pv i σ H → g (.int (lo + (i : Nat) * c)) σ H fun σ2 H2 => tb { D with nx := Pv (i + 1), ct := Pv (i + 1), bk := D.nx } σ2 H2) (hd : ∀ σ H, Pv n σ H → D.nx σ H) : xFor (Itc lo c n) g tb D σ H := by
  unfold xFor; exact for_rangeC Pv h0 hs hd
theorem st_forL {K : PySem.W.Frag} {a : Addr} {g : TG} {tb : TS} {D : Ends} {σ : L2.St} (Pv : Nat → L2.St → Hp → Prop) (h0 : Pv 0 σ H) (hl : ∀ i σ H, i ≤ xs.length → Pv i σ H → SqL K H a xs)
    (hs : ∀ i x σ H, xs[i]? = some x → Pv i σ H → g x σ H fun σ2 H2 => tb { D with nx := Pv (i + 1), ct := Pv (i + 1), bk := D.nx } σ2 H2) (hd : ∀ σ H, Pv xs.length σ H → D.nx σ H) : xFor (Itl K a) g tb D σ H := by
  unfold xFor; exact for_list Pv h0 hl hs hd
theorem st_forT {K : PySem.W.Frag} {a : Addr} {g : TG} {tb : TS} {D : Ends} {σ : L2.St} (Pv : Nat → L2.St → Hp → Prop) (h0 : Pv 0 σ H) (hl : ∀ i σ H, i ≤ xs.length → Pv i σ H → SqT K H a xs)
    (hs : ∀ i x σ H, xs[i]? = some x → Pv i σ H → g x σ H fun σ2 H2 => tb { D with nx := Pv (i + 1), ct := Pv (i + 1), bk := D.nx } σ2 H2) (hd : ∀ σ H, Pv xs.length σ H → D.nx σ H) : xFor (Itt K a) g tb D σ H := by
  unfold xFor; exact for_tup Pv h0 hl hs hd
/-- while: W, by a number that falls -/
theorem st_while {c : TT} {tb : TS} {D : Ends} {σ : L2.St} (Wv : Nat → L2.St → Hp → Prop) (m0 : Nat) (h0 : Wv m0 σ H)
    (hs : ∀ m σ H, Wv m σ H → c σ H fun b H1 => xIf b (tb { D with nx := fun σ' H' => ∃ m', m' < m ∧ Wv m' σ' H', ct := fun σ' H' => ∃ m', m' < m ∧ Wv m' σ' H', bk := D.nx } σ H1) (D.nx σ H1))
    (mono : ∀ σ H Q Q', (∀ b H1, Q b H1 → Q' b H1) → c σ H Q → c σ H Q') : xWhile c tb D σ H := by
  unfold xWhile
  refine ⟨Wv, ⟨m0, h0⟩, fun m σ H hw => mono σ H _ _ (fun b H1 q => ?_) (hs m σ H hw)⟩
  unfold xIf at q
  cases b with
  | true => exact ⟨_, fun _ _ z => z, q⟩
  | false => exact q
end
end TR
namespace TR
open PySem L2
section
variable {X : Cx} {x : Str} {pos : Pos}
theorem my_globI {i : Int} (h : ∃ t, X.mg x = some (.int i t)) (hg : Gl X x) (hd : (x == ("__debug__" : Str)) = false := by decide) : PE X (.Name x pos) (tC (.int i)) := by
  obtain ⟨t, h⟩ := h
  exact pe_glob hg h ⟨t, rfl⟩ hd
theorem my_globS {z : Str} (h : ∃ t, X.mg x = some (.str z t)) (hg : Gl X x) (hd : (x == ("__debug__" : Str)) = false := by decide) : PE X (.Name x pos) (tC (.str z)) := by
  obtain ⟨t, h⟩ := h
  exact pe_glob hg h ⟨t, rfl⟩ hd
theorem my_globR {a : Addr} (h : X.mg x = some (.ref a)) (hg : Gl X x) (hd : (x == ("__debug__" : Str)) = false := by decide) : PE X (.Name x pos) (tC (.ref a)) := pe_glob hg h rfl hd
end
theorem nb_t {a b : Prop} [Decidable a] [Decidable b] (h : (!(decide a && decide b)) = true) : ¬ (a ∧ b) := fun ⟨x, y⟩ => by
  rw [decide_eq_true x, decide_eq_true y] at h; cases h
theorem nb_f {a b : Prop} [Decidable a] [Decidable b] (h : (!(decide a && decide b)) = false) : a ∧ b := by
  by_cases x : a
  · by_cases y : b
    · exact ⟨x, y⟩
    · rw [decide_eq_true x, decide_eq_false y] at h; cases h
  · rw [decide_eq_false x] at h; cases h
theorem de_t {i j : Int} (h : decide (V.int i = V.int j) = true) : i = j := V.int.inj (of_decide_eq_true h)
theorem de_f {i j : Int} (h : decide (V.int i = V.int j) = false) : i ≠ j := fun z => of_decide_eq_false h (by rw [z])
/-- where the script stands: an entry of the ledger, or the written part -/
def Scr (K : PySem.W.Frag) (a : Addr) (ns : List Int) (R : List Ent) : Prop := ∀ H0 H, W H0 H R → SqL K H a (ns.map V.int)
theorem Scr.cons {K : PySem.W.Frag} {a : Addr} {ns : List Int} {R : List Ent} {x : Ent} (s : Scr K a ns R) : Scr K a ns (x :: R) := fun _ _ w => s _ _ w.drop1
theorem Scr.app {K : PySem.W.Frag} {a : Addr} {ns : List Int} {R L : List Ent} (s : Scr K a ns R) : Scr K a ns (L ++ R) := fun _ _ w => s _ _ w.dropL
@[irreducible] def sp_law (K : PySem.W.Frag) : Sp := fun vs H Q _ => ∃ (a : Addr) (ns : List Int) (R : List Ent), vs = [.ref a] ∧ Scr K a ns R ∧ W H H R ∧ ns.length ≤ 63 ∧ ∀ H', Q (.bl true) H'
theorem of_law {K : PySem.W.Frag} {vs : List V} {H : Hp} {Q : VK} {E : XK} (h :  ∃ (a : Addr) (ns : List Int) (R : List Ent), vs = [.ref a] ∧ Scr K a ns R ∧ W H H R ∧ ns.length ≤ 63 ∧ ∀ H', Q (.bl true) H') : sp_law K vs H Q E := by unfold sp_law; exact h
theorem law_pre {K : PySem.W.Frag} {H : Hp} {a : Addr} {ns : List Int} (hl : ns.length ≤ 63) (hO : Only H) (hS : SqL K H a (ns.map V.int)) : sp_law K [.ref a] H (fun v _ => v = .bl true) fun _ _ _ => False := by
  unfold sp_law
  rcases hS with (h | ⟨o, h⟩) | h
  · exact ⟨a, ns, [(a, .lst (ns.map V.int))], rfl, fun H0 H' w => SqL.of (w.get 0 rfl), ⟨by simp, fun x hx => by rw [List.mem_singleton.mp hx]; exact h, fun _ _ e => e⟩, hl, fun _ => rfl⟩
  · exact ⟨a, ns, [(a, .frz o (.lst (ns.map V.int)))], rfl, fun H0 H' w => .inl (.inr ⟨o, w.get 0 rfl⟩), ⟨by simp, fun x hx => by rw [List.mem_singleton.mp hx]; exact h, fun _ _ e => e⟩, hl, fun _ => rfl⟩
  · exact ⟨a, ns, [], rfl, fun H0 H' w => .inr h, ⟨by simp, fun x hx => (nomatch hx), fun _ _ e => e⟩, hl, fun _ => rfl⟩
theorem binds1 {K : PySem.W.Frag} {x qual : Str} {st : Stmt} {f : Addr} {fd : FuncData} {p : Str} (F : Fun K x qual st f fd)
    (h : ∀ (kV doc pm : Value) (an : Option Addr) (cdv ct : Value) (us : List Value), us.length = [p].length → bindArgs (PySem.W.fnOf x qual (defArgs st) (defBody st) (defScope st) .none kV doc pm an cdv ct) ⟨us, []⟩ = pure ([p].zip us)) (s : Shared) (v : Value) : BindsTo s fd ⟨[v], []⟩ [(p, v)] := by
  obtain ⟨oc, od, kV, doc, pm, an, cdv, ct, osl, rfl, lk, hcd⟩ := F.ex
  exact .of_eq (h kV doc pm an cdv ct [v] rfl)
open PySem.Spec PyProof.Rows in
theorem law_end {l : PySem.W.OpenLaw} {n k : Nat} {q : Program} {loose : List Str} {XP : (Str → Option Value) → Heap → Prop} {YP : World → Heap → Prop} {d : DefRec} {x : Str}
    (hn : l.most = some n) (hn2 : n ≤ sizeLine) (hdf : d.params.defaults = []) (hr : Room k callerA)
    (F : ∀ (w : World) (mg : Str → Option Value) (fa : Addr) (h : Heap), YP w h → h.Ns mainGlobals mg → mg d.name = some (.ref fa) →
      ∃ (K : PySem.W.Frag) (fd : FuncData) (sp : Sp), K.In h ∧ (∀ (s : Shared) (u : Value), BindsTo s fd ⟨[u], []⟩ [(x, u)]) ∧
        (∀ (H : Hp) (a : Addr) (ns : List Int), ns.length ≤ n → Only H → SqL K H a (ns.map V.int) → sp [.ref a] H (fun v _ => v = .bl true) fun _ _ _ => False) ∧
        ∀ base : Heap, K.In base → base.Ns mainGlobals mg → FnOk l.prog w K mg base (L2.CX l.prog w) k fa fd [x] sp) :
    PySem.W.WalkO q loose XP YP l.row.toRowW d [] (fun f vs => PySem.call f vs) := by
  refine Att.attach_call hn hdf fun w s₀ s₁ mg mb fa o pm cd doc a vs ns G Y ho hd hcd hmg hobj hints hlen hg => ?_
  obtain ⟨K, fd, sp, KX, hb, hsp, hF⟩ := F w mg fa _ Y G.T.g hmg
  refine law_call KX G.T.g G.T.b G.T.builtins G.T.nolimit hg hobj hints (Nat.le_trans hlen hn2) hr hF hb (fun H hO hS => hsp H a ns hlen hO hS) fun H e s' h => ?_
  obtain ⟨_, _, _, _, _, _, _, _, _, _, _, _, z⟩ := h
  exact z.elim
end TR
namespace TR
open PySem PySem.Spec PyProof.Rows L2
/-! ### an exception that was caught and is held by a name behind the suite -/
def ExH (cls : Value) (d : Option Addr) (a : Addr) : HO :=
  .ext fun h => ∃ (oe : Obj) (vs : Array Value), h.get? a = some oe ∧ Zc cls d oe ∧ oe.data = .fields vs
section
variable {X : Cx} {pins : List (Addr × Obj)} {σ : L2.St} {H : Hp} {s : Shared}
/-- an untracked exception of ours comes to be tracked -/
theorem inv_track {a : Addr} {oe : Obj} {vs : Array Value} {cls : Value} {d : Option Addr} (I : Inv X pins σ H s)
    (ha : s.heap.get? a = some oe) (z : Zc cls d oe) (hv : oe.data = .fields vs) (na : H a = none)
    (nL : X.env.locals ≠ a) (n0 : ∀ o, X.s_0.heap.get? a = some o → a ∈ X.ex) (np : ∀ p ∈ X.pn ++ pins, p.1 ≠ a) :
    Inv X pins σ (upd H a (ExH cls d a)) s := by
  have keepN : ∀ b, H b = none → b ≠ a → upd H a (ExH cls d a) b = none := fun b hb ne => by
    rw [upd_ne ne]
    exact hb
  have keepS : ∀ b o, H b = some o → upd H a (ExH cls d a) b = some o := fun b o hb => by
    rw [upd_ne (ne_of_none hb na)]
    exact hb
  have obj : ObjOk X.prog X.w (upd H a (ExH cls d a)) s.heap a (ExH cls d a) :=
    ⟨⟨oe, vs, ha, z, hv⟩, ⟨oe, ha⟩, fun _ _ ⟨o, v, q, r⟩ k => ⟨o, v, k o q, r⟩⟩
  constructor
  · exact I.ok
  · exact I.os
  · exact I.bare
  · constructor
    · exact I.base.keep
    · exact I.base.slot
    · intro b o e n hx
      refine keepN b (I.base.free b o e n hx) fun q => ?_
      subst q
      exact hx (n0 o e)
    · exact I.base.there
    · exact fun b xs e => keepS b _ (I.base.tups b xs e)
    · exact fun b o u e => keepS b _ (I.base.frzs b o u e)
    · intro b ps e
      obtain ⟨m, q⟩ := I.base.tbls b ps e
      exact ⟨m, keepS b _ q⟩
  · exact I.loc
  · exact I.cell
  · exact keepN _ I.free nL
  · intro x c e
    refine keepN c (I.freeC x c e) fun q => ?_
    obtain ⟨v, o, ho, hd⟩ := I.cell x c e
    rw [q, ha] at ho
    cases ho
    rw [hv] at hd
    cases hd
  · intro p hp
    obtain ⟨h1, h2, h3⟩ := I.pin p hp
    exact ⟨h1, keepN p.1 h2 (np p hp), h3⟩
  · exact HOk.laidN I.hok (fun _ _ q => q) na obj
  · exact I.len
end
/-- what is wished of an exception of the body: it is of the clause's class; behind the suite it is held in slot j -/
def wHeld (K : PySem.W.Frag) (c : Value) (i j : Nat) (D : Ends) : WX := fun cls d σ H =>
  PySem.W.exmOne K cls c = some true ∧ ∀ a, H a = none → D.nx (((σ.set i (some (.ref a))).set j (some (.ref a))).set i none) (upd H a (ExH cls d a))
section
variable {X : Cx} {x n m : Str} {c : Value} {i j : Nat} {body : List Stmt} {np pos pos' hp ep ap : Pos} {tb : WX → TS}
/-- try: body / except x as n: m = n -/
theorem my_tryHeld (hs : X.stack = X.env :: X.outer) (hf : X.env.frame = some X.env.locals) (hN : X.N.Nodup)
    (hi : X.N[i]? = some n) (hln : X.env.kindOf n = some .local) (hj : X.N[j]? = some m) (hlm : X.env.kindOf m = some .local) (hij : i ≠ j)
    (hc : Names X x c) (hdb : (n == ("__debug__" : Str)) = false) (hcd : (n == ("__classdict__" : Str)) = false)
    (hsw : ∀ (a : Addr) (pn : List (Addr × Obj)), swapsWith (.Name n ep) (some (.Name m hp)) ap.line (X.suite a pn).env = pure false)
    (hb : ∀ (W : WX) (pn : List (Addr × Obj)) (xe : Value → Shared → Prop), Takes (X.tr pn xe) W →
      PassesOwn (model X.prog X.w) X.A X.env xe → PSs (X.tr pn xe) body (tb W)) :
    PS X (.Try body [.ExceptHandler (some (.Name x np)) (some n) [.Assign [.Name m hp] (.Name n ep) ap] pos'] [] [] pos)
      (fun D σ H => tb (wHeld X.K c i j D) D σ H) := by
  constructor
  intro pins s σ H D I h
  have ok := I.ok
  have frm : X.A.frames = some (X.env :: X.outer) := by
    rw [ok.frames, hs]
  apply wpAny_Try_except
  have key : ∀ xe : Value → Shared → Prop, Takes (X.tr (X.pn ++ pins) xe) (wHeld X.K c i j D) → PassesOwn (model X.prog X.w) X.A X.env xe →
      wpAny (model X.prog X.w) X.A (execs body X.env) (fun f s₁ => match f with
        | .next => wpAny (model X.prog X.w) X.A (execs [] X.env) (SP X pins D) X.xe s₁
        | f => SP X pins D f s₁) xe s := by
    intro xe tk po
    apply wpAny_mono ((hb _ _ xe tk po).run [] s σ H D (I.toTry _) h)
    · intro f s1 sp
      cases f with
      | next =>
        obtain ⟨σ1, H1, J1, q1⟩ := sp
        exact wpAny_execs_nil ⟨σ1, H1, J1.ofTry ok, q1⟩
      | brk =>
        obtain ⟨σ1, H1, J1, q1⟩ := sp
        exact ⟨σ1, H1, J1.ofTry ok, q1⟩
      | cont =>
        obtain ⟨σ1, H1, J1, q1⟩ := sp
        exact ⟨σ1, H1, J1.ofTry ok, q1⟩
      | ret u =>
        obtain ⟨v, σ1, H1, J1, r1, q1⟩ := sp
        exact ⟨v, σ1, H1, J1.ofTry ok, r1, q1⟩
    · exact fun _ _ z => z
  refine key _ (fun u s' xx => ?_) PassesOwn.looking
  · obtain ⟨a, B, sI, pins1, σ1, H1, cls, d, rfl, J1, nb, up, sky, na, os, ag, hm, wish⟩ := xx
    have J : Inv X pins σ1 H1 sI := J1.ofTry ok
    rw [hs] at sky nb
    refine Sky.land Zc.steady frm hf sky fun h3 fl up3 => ?_
    have newB : B.get? a = none := fl.2.1
    obtain ⟨o3, v3, g3, z3, d3⟩ := fl.there
    have nfr : a ∉ frs (X.env :: X.outer) := by
      intro q
      obtain ⟨_, o, e, no⟩ := fl.2.2.1.mem q
      rw [g3] at e
      cases e
      exact no _ d3
    have nL : a ≠ X.env.locals := by
      intro q
      refine nfr (List.mem_filterMap.mpr ⟨X.env, List.mem_cons_self, ?_⟩)
      rw [hf, q]
    have nF : a ∉ X.fs := by
      intro q
      obtain ⟨e, he, z⟩ := List.mem_filterMap.mp q
      exact nfr (List.mem_filterMap.mpr ⟨e, List.mem_cons_of_mem _ he, z⟩)
    have notI : ∀ o, sI.heap.get? a ≠ some o := by
      intro o e
      have := nb a o e nfr
      rw [newB] at this
      cases this
    have J3 : Inv X pins σ1 H1 { s' with heap := h3 } := by
      rw [← hs] at nb
      exact J.landed nb fl.1 (up.trans up3) os ag
    have S3 := J3.suite g3 d3 na nL nF
    apply wpAny_handleBy_cons (codeAny_handlers_test ?_) (by intro q; cases q)
    have LT : PySem.W.Looks (model X.prog X.w) h3 (typeOf (.ref a)) cls := by
      intro A Q E s k q
      apply wpAny_typeOf_ref (k _ _ g3)
      rw [z3.1]
      exact q
    have LM := PySem.W.exm_one (M := model X.prog X.w) J3.kIn LT hm
    have look : ∀ {Q : Value → Shared → Prop} {E : Value → Shared → Prop}, Q c { s' with heap := h3 } →
        wpAny (model X.prog X.w) (X.A.mark (some (.ref a))) (eval (.Name x np) X.env) Q E { s' with heap := h3 } := by
      intro Q E q
      obtain ⟨hg, hd1, h1 | ⟨h1, h2, h4⟩⟩ := hc
      · exact ld_glob S3 hg h1 q hd1
      · exact ld_blt S3 hg h1 h2 q h4 hd1
    apply look
    apply LM.here
    apply codeAny_handlers_suite_as
    apply HandSPX.lands_againZ fl
    intro h4 fl4 up4
    have J4 : Inv X pins σ1 H1 { s' with heap := h4 } := by
      rw [← hs] at nb
      exact J.landed nb fl4.1 ((up.trans up3).trans up4) os ag
    obtain ⟨o4, v4, g4, z4, d4⟩ := fl4.there
    have S4 := J4.suite g4 d4 na nL nF
    refine store_ok (X := X.suite a _) (v := .ref a) S4 hN hi (.inl hln) rfl (fun s5 S5 => ?_) (.inr hln)
    -- the suite: m = n
    have su : PSs (X.suite a ((a, o4) :: (X.pn ++ pins))) [.Assign [.Name m hp] (.Name n ep) ap] (tAsg (tVar i) (gName j)) :=
      pss_one (ps_set hN hj (.inl hlm) (pe_var hi (.inl hln) hdb hcd) (hsw a _) (.inr hlm))
    have slot : ((σ1.set i (some (V.ref a))) : L2.St)[i]? = some (some (V.ref a)) := by
      have : i < σ1.length := by
        rw [J.len]
        exact (List.getElem?_eq_some_iff.mp hi).1
      rw [List.getElem?_set_self this]
    have red : tAsg (tVar i) (gName j) { nx := fun σ6 H6 => σ6 = (σ1.set i (some (.ref a))).set j (some (.ref a)) ∧ H6 = H1, rt := fun _ _ => False } (σ1.set i (some (.ref a))) H1 :=
      ⟨_, slot, rfl, rfl⟩
    apply wpAny_mono (su.run [] s5 _ H1 _ S5 red)
    · intro f s6 sp
      cases f with
      | next =>
        obtain ⟨σ6, H6, S6, rfl, rfl⟩ := sp
        refine gone_ok (X := X.suite a _) S6 hN hi hln fun s7 S7 => ?_
        obtain ⟨g7, _, _, _, _⟩ := S7.pin (a, o4) (List.mem_append_left _ List.mem_cons_self)
        have J7 : Inv X pins _ H6 s7 := S7.unsuite ok
        refine ⟨_, _, inv_track J7 g7 z4 d4 na (Ne.symm nL) ?_ ?_, wish a na⟩
        · intro o e
          apply Classical.byContradiction
          intro nx
          obtain ⟨o', q⟩ := J.base.there a o e nx
          exact notI o' q
        · intro p hp q
          obtain ⟨e, _⟩ := J.pin p hp
          rw [q] at e
          exact notI _ e
      | brk =>
        obtain ⟨_, _, _, z⟩ := sp
        exact z.elim
      | cont =>
        obtain ⟨_, _, _, z⟩ := sp
        exact z.elim
      | ret u =>
        obtain ⟨_, _, _, _, _, z⟩ := sp
        exact z.elim
    · exact fun _ _ z => z.elim
end
section
variable {X : Cx}
/-- isinstance(e, c), e a held exception -/
def rIsH (K : PySem.W.Frag) : List V → Hp → VK → Prop := fun xs H Q =>
  ∃ (a D : Addr) (c : V) (cv : Value) (b : Bool), xs = [.ref a, c] ∧ H a = some (ExH (.ref D) none a) ∧ ExcC K D ∧ (∀ u, RelV c u → u = cv) ∧ PySem.W.kitOne K (.ref D) cv = some b ∧ Q (.bl b) H
theorem my_isi : CallR X (.builtin "isinstance") (rIsH X.K) := by
  intro pins s σ H xs us Q I r h
  obtain ⟨a, D, c, cv, b, rfl, ha, C, hcv, e, q⟩ := h
  obtain ⟨u, v, rfl, ru, rv⟩ := r.two
  cases ru
  cases hcv _ rv
  obtain ⟨⟨oe, vs, g, hz, hv⟩, _, _⟩ := I.hok a _ ha
  have J : PySem.W.InstAt s.heap a oe D none := by
    obtain ⟨oc, od, dt, sl⟩ := oe
    obtain ⟨h1, h2⟩ := hz
    simp only at h1 h2 hv
    subst h1 h2 hv
    exact ⟨g, rfl, rfl, trivial⟩
  have kit := PySem.W.handS_kitx_exc (x := a) (ox := oe) C.hg C.hk C.hs C.hd C.ha C.hn C.ht C.hm
  apply PySem.W.kia_one kit I.kIn J e (fun z => nomatch z)
  intro tk
  exact ⟨.bl b, H, I.kept (t' := tk) fun _ _ z => z, rfl, q⟩
/-- xs.count(y), flat things -/
def rCntV (K : PySem.W.Frag) : V → List V → Hp → VK → Prop := fun x xs H Q =>
  ∃ (p : Addr) (ys : List V) (y : V), x = .ref p ∧ xs = [y] ∧ SqL K H p ys ∧ flatV y = true ∧ ys.all flatV = true ∧ Q (.int (ys.countP fun z => eqV z y : Nat)) H
theorem cnt_eqU {y : V} : ∀ {xs : List V} {us : List Value}, Vals xs us → xs.all flatV = true → us.countP (eqU y) = xs.countP fun z => eqV z y
  | _, _, .nil, _ => rfl
  | x :: xs, u :: us, .cons r t, f => by
    obtain ⟨f1, f2⟩ := Bool.and_eq_true_iff.mp (show (flatV x && xs.all flatV) = true from f)
    rw [List.countP_cons, List.countP_cons, cnt_eqU t f2, eqU_of r f1]
theorem my_count : MtR X "list.count" (rCntV X.K) := by
  intro pins s σ H x xs v us Q I rx rxs h
  obtain ⟨p, ys, y, rfl, rfl, hs, fy, fys, q⟩ := h
  cases rx
  obtain ⟨u, rfl, ry⟩ := rxs.one
  obtain ⟨its, rv, ⟨ob, n, ho, hc, hdn, hd⟩, hlen⟩ := I.list hs
  obtain ⟨cls, dd, data, sl⟩ := ob
  simp only at hc hd
  subst hc hd
  refine call_meets PySem.F.slot_list_count ⟨_, ho, rfl⟩ PySem.F.entry_list_count (PySem.F.args_list_count_2 _ _) (SeqAt.list_countAt p its.toArray n dd sl u (eqU y)) ⟨ho, ?_, ?_⟩
  · intro z hz
    exact mem_eqAt ry fy rv fys z (by simpa using hz)
  · have e : its.toArray.toList.countP (eqU y) = ys.countP fun z => eqV z y := by
      simpa using cnt_eqU (y := y) rv fys
    refine ⟨.int _, H, I.tok _, ⟨s.toks, ?_⟩, q⟩
    show Value.int (its.toArray.toList.countP (eqU y) : Nat) s.toks = _
    rw [e]
end
end TR
namespace TR
open PySem PySem.Spec PyProof.Rows L2
/-! ### calls in a try's body: what is raised is wished for at the slots -/
section
variable {X : Cx} {CX : CXT} {k : Nat} {f C : Addr} {fd : FuncData} {ps : List Str} {sp : Sp} {W : WX} {x m : Str} {p pos apos : Pos} {e o : Expr} {es : List Expr} {ta : TE} {t : TA}
def uCallS (sp : Sp) (W : WX) (t : TA) : TE := fun σ H Q => t σ H fun vs H1 => xCall sp vs H1 Q (WE W σ)
def uMethS (C : Addr) (m : Str) (sp : Sp) (W : WX) (ta : TE) (t : TA) : TE := fun σ H Q => ta σ H fun x H1 => ∃ a dx fs, x = .ref a ∧ H1 a = some (.ins C dx fs) ∧ fs.lookup m = none ∧ t σ H1 fun vs H2 => xCall sp (x :: vs) H2 Q (WE W σ)
def uMakeS (C : Addr) (sp : Sp) (W : WX) (t : TA) : TE := fun σ H Q => t σ H fun vs H1 => xMake C sp (WE W σ) vs H1 Q
theorem my_callS (F : FnOk X.prog X.w X.K X.mg X.base (L2.CX X.prog X.w) k f fd ps sp) (hr : Room k X.A) (hg : Gl X x) (hm : X.mg x = some (.ref f))
    (hk : PySem.W.keepIn X.K (.ref f) = true) (hb : Binds X.K fd ps []) (tk : Takes X W) (ha : PA X (e :: es) t)
    (hdb : (x == ("__debug__" : Str)) = false := by decide) (he : starEach (e :: es) X.env = (false, eval e X.env) :: starEach es X.env := by rfl)
    (hpl : (backTo pos (starEach es X.env)).any (·.1) = false := by rfl) : PE X (.Call (.Name x p) (e :: es) [] pos) (uCallS sp W t) := by
  refine PE.le (pe_callS (E := WE W) F hr hg hm hk hb (fun σ => passAt tk σ) ha hdb he hpl) ?_
  intro σ H Q q
  unfold uCallS xCall at q
  exact q
theorem my_methS {pl : Sem Bool} (he : PE X o ta) (c : Cls X.K C) (hm : Meth X.K C m f) (F : FnOk X.prog X.w X.K X.mg X.base (L2.CX X.prog X.w) k f fd ps sp)
    (hr : Room k X.A) (hb : Binds X.K fd ps []) (tk : Takes X W) (ha : PA X (e :: es) t)
    (hst : starEach (e :: es) X.env = (false, eval e X.env) :: starEach es X.env := by rfl) (hpl : (backTo pos (starEach es X.env)).any (·.1) = false := by rfl)
    (ht : eval (.Call (.Attribute o m apos) (e :: es) [] pos) X.env = (do
      let ov ← eval o X.env
      standAt apos.atName
      let (f, first) ← holding [ov] (getMethod ov m pl)
      callWith pos f first (backTo pos (starEach (e :: es) X.env)) (backToKw pos (keywordEach [] X.env))) := by rfl) :
    PE X (.Call (.Attribute o m apos) (e :: es) [] pos) (uMethS C m sp W ta t) := by
  constructor
  intro pins s σ H Q I h
  apply PySem.W.methodCall_KW (pl := pl) _ ht
  apply thn (he.run pins s σ H _ I h)
  rintro u s1 ⟨y, H1, I1, ry, a, dx, fs, rfl, ea, lk, q⟩
  cases ry
  apply getmeth_ok I1 ea c hm lk
  apply PySem.W.callWith_K (first := [.ref a]) (h₀ := X.base) I.ok.mod.kin hm.kp _ hst hpl
  apply thn (ha.run pos pins s1 σ H1 _ I1 q)
  rintro us s2 ⟨vs, H2, I2, r, q2⟩
  refine ⟨I2.kIn, ?_⟩
  unfold xCall at q2
  exact run_fnS (E := WE W) (us := .ref a :: us) (vs := .ref a :: vs) F hr hb (passAt tk σ) I2 (.cons rfl r) q2
theorem my_meth0S {pl : Sem Bool} (he : PE X o ta) (c : Cls X.K C) (hm : Meth X.K C m f) (F : FnOk X.prog X.w X.K X.mg X.base (L2.CX X.prog X.w) k f fd ps sp)
    (hr : Room k X.A) (hb : Binds X.K fd ps []) (tk : Takes X W)
    (ht : eval (.Call (.Attribute o m apos) [] [] pos) X.env = (do
      let ov ← eval o X.env
      standAt apos.atName
      let (f, first) ← holding [ov] (getMethod ov m pl)
      callWith pos f first (backTo pos (starEach [] X.env)) (backToKw pos (keywordEach [] X.env))) := by rfl) :
    PE X (.Call (.Attribute o m apos) [] [] pos) (uMethS C m sp W ta tNil) := by
  constructor
  intro pins s σ H Q I h
  apply PySem.W.methodCall_KW (pl := pl) _ ht
  apply thn (he.run pins s σ H _ I h)
  rintro u s1 ⟨y, H1, I1, ry, a, dx, fs, rfl, ea, lk, q⟩
  cases ry
  apply getmeth_ok I1 ea c hm lk
  have q2 : xCall sp [.ref a] H1 Q (WE W σ) := q
  unfold xCall at q2
  exact PySem.W.callWith_K0 (first := [.ref a]) I1.kIn hm.kp (run_fnS (E := WE W) (us := [.ref a]) (vs := [.ref a]) F hr hb (passAt tk σ) I1 (.cons rfl .nil) q2)
theorem my_makeS (M : Mk X.K C f) (F : FnOk X.prog X.w X.K X.mg X.base (L2.CX X.prog X.w) k f fd ps sp) (hr : Room (k + 1) X.A) (hg : Gl X x) (hm : X.mg x = some (.ref C))
    (hb : Binds X.K fd ps []) (tk : Takes X W) (ha : PA X (e :: es) t)
    (hdb : (x == ("__debug__" : Str)) = false := by decide) (he : starEach (e :: es) X.env = (false, eval e X.env) :: starEach es X.env := by rfl)
    (hpl : (backTo pos (starEach es X.env)).any (·.1) = false := by rfl) : PE X (.Call (.Name x p) (e :: es) [] pos) (uMakeS C sp W t) := by
  constructor
  intro pins s σ H Q I h
  apply wpAny_Call_Name_kw
  apply ld_glob I hg hm _ hdb
  apply PySem.W.callWith_K (h₀ := X.base) I.ok.mod.kin M.kp _ he hpl
  apply thn (ha.run pos pins s σ H _ I h)
  rintro us s1 ⟨vs, H1, I1, r, q⟩
  refine ⟨I1.kIn, ?_⟩
  unfold xMake at q
  have fr := I1.hok.fresh (Nat.le_refl s1.heap.objs.size)
  have fr1 := I1.hok.fresh (Nat.le_succ s1.heap.objs.size)
  have J := Inv.made (C := C) I1
  have q1 := q (s1.heap.objs.size + 1) s1.heap.objs.size fr1 fr (Nat.ne_of_lt (Nat.lt_succ_self _))
  have rs : Vals (V.ref (s1.heap.objs.size + 1) :: vs) (Value.ref (s1.heap.objs.size + 1) :: us) := .cons rfl r
  have ln : (Value.ref (s1.heap.objs.size + 1) :: us).length = ps.length := rs.length.symm.trans (F.len _ _ _ _ q1)
  have bd := hb _ (Value.ref (s1.heap.objs.size + 1) :: us) J.kIn (by rw [List.append_nil]; exact ln)
  rw [List.append_nil] at bd
  have go := F.run _ X.stack _ _ ⟨Value.ref (s1.heap.objs.size + 1) :: us, []⟩ _ _ _ _ (hr.make C us []) (J.env0.make C us []) bd rs q1
  apply wpAny_call
  apply make_map (f := f) I1.kIn M.makes M.init (beq_iff_eq.mp M.fn)
  apply codeAny_mono go
  intro rt s' hq
  cases rt with
  | error e => exact passAt tk σ pins _ _ e s' J hq
  | ok fl =>
    cases fl with
    | ret u =>
      obtain ⟨v, H2, I2, rv, rfl, q2⟩ := J.after hq
      exact ⟨rv, ⟨V.ref (s1.heap.objs.size + 1), H2, I2, rfl, q2⟩⟩
    | next => exact hq.elim
    | brk => exact hq.elim
    | cont => exact hq.elim
end
/-! ### index -/
@[irreducible] def xIndex (K : PySem.W.Frag) : MRd := rIndex K
theorem my_index {X : Cx} : MtR X "list.index" (xIndex X.K) := by unfold xIndex; exact mt_index
theorem st_idx {K : PySem.W.Frag} {H : Hp} {a : Addr} {ys : List V} {y : V} {Q : VK} (j : Nat) (z : V) (hs : SqL K H a ys) (fy : flatV y = true) (fs : ys.all flatV = true) (hz : ys[j]? = some z) (he : eqV z y = true)
    (hno : ∀ m u, m < j → ys[m]? = some u → eqV u y = false) (k : Q (.int j) H) : xIndex K (.ref a) [y] H Q := by
  unfold xIndex; exact ⟨a, ys, y, j, z, rfl, rfl, hs, fy, fs, hz, he, hno, k⟩
theorem flat_ints (ns : List Int) : (ns.map V.int).all flatV = true := by
  rw [List.all_map]; exact List.all_eq_true.mpr fun _ _ => rfl
theorem st_idxI {K : PySem.W.Frag} {H : Hp} {a : Addr} {ns : List Int} {n : Int} {Q : VK} (hs : SqL K H a (ns.map V.int)) (hm : n ∈ ns) (k : Q (.int (ns.idxOf n)) H) : xIndex K (.ref a) [.int n] H Q := by
  have hl := List.idxOf_lt_length_iff.mpr hm
  refine st_idx (ns.idxOf n) (.int n) hs rfl (flat_ints ns) ?_ (by show (n == n) = true; exact beq_self_eq_true n) ?_ k
  · rw [List.getElem?_map, List.getElem?_eq_getElem hl, List.getElem_idxOf hl]; rfl
  · intro m u hm' hu
    rw [List.getElem?_map] at hu
    cases e : ns[m]? with
    | none => rw [e] at hu; cases hu
    | some x =>
      rw [e] at hu
      cases hu
      show (x == n) = false
      obtain ⟨hml, ex⟩ := List.getElem?_eq_some_iff.mp e
      rw [← ex]
      exact List.not_of_lt_findIdx hm'
theorem st_idxV {K : PySem.W.Frag} {H : Hp} {a : Addr} {ns : List Int} {n : Int} {y : V} {Q : VK} (hs : SqL K H a (ns.map V.int)) (hv : y = .int n) (hm : n ∈ ns) (k : Q (.int (ns.idxOf n)) H) : xIndex K (.ref a) [y] H Q := by subst hv; exact st_idxI hs hm k
theorem inV_ints (ns : List Int) (n : Int) : inV (.int n) (ns.map V.int) = decide (n ∈ ns) := by
  unfold inV
  rw [List.any_map]
  by_cases h : n ∈ ns
  · rw [decide_eq_true h]
    exact List.any_eq_true.mpr ⟨n, h, by show (n == n) = true; exact beq_self_eq_true n⟩
  · rw [decide_eq_false h]
    refine Bool.eq_false_iff.mpr fun z => h ?_
    obtain ⟨x, hx, e⟩ := List.any_eq_true.mp z
    have e2 : (x == n) = true := e
    rw [← eq_of_beq e2]
    exact hx
theorem inV_non (ns : List Int) : inV .non (ns.map V.int) = false := by
  unfold inV
  rw [List.any_map]
  exact Bool.eq_false_iff.mpr fun z => by
    obtain ⟨x, _, e⟩ := List.any_eq_true.mp z
    cases e
end TR
namespace TR
open PySem L2
/-! ### data at any depth -/
structure Sh (k : Nat) (d : PyData) : Prop where
  lay : d.canLay0 = true
  dep : d.depth ≤ k
theorem Sh.shaped {k : Nat} {d : PyData} (h : Sh k d) (hk : k ≤ 64) : SeqAt.shaped d = true := by
  unfold SeqAt.shaped
  rw [h.lay, decide_eq_true (Nat.le_trans h.dep hk)]
  rfl
theorem Sh.mono {j k : Nat} {d : PyData} (h : Sh j d) (hk : j ≤ k) : Sh k d := ⟨h.lay, Nat.le_trans h.dep hk⟩
theorem sh_non {k : Nat} : Sh k .none := ⟨by simp only [PyData.canLay0], by simp only [PyData.depth]; exact Nat.zero_le _⟩
theorem sh_bl {k : Nat} (b : Bool) : Sh k (.bool b) := ⟨by simp only [PyData.canLay0], by simp only [PyData.depth]; exact Nat.zero_le _⟩
theorem sh_int {k : Nat} (i : Int) : Sh k (.int i) := ⟨by simp only [PyData.canLay0], by simp only [PyData.depth]; exact Nat.zero_le _⟩
theorem sh_str {k : Nat} {x : Str} (h : PyData.strOk x = true) : Sh k (.str x) := ⟨by simp only [PyData.canLay0]; exact h, by simp only [PyData.depth]; exact Nat.zero_le _⟩
theorem sh_all {k : Nat} : ∀ {ds : List PyData}, (∀ d ∈ ds, Sh k d) → PyData.canLayAll0 ds = true ∧ PyData.depthAll ds ≤ k
  | [], _ => ⟨by simp only [PyData.canLayAll0], by simp only [PyData.depthAll]; exact Nat.zero_le _⟩
  | d :: ds, h => by
    have h1 := h d List.mem_cons_self
    have h2 := sh_all fun e he => h e (List.mem_cons_of_mem _ he)
    refine ⟨?_, ?_⟩
    · simp only [PyData.canLayAll0]
      rw [h1.lay, h2.1]
      rfl
    · simp only [PyData.depthAll]
      exact Nat.max_le.mpr ⟨h1.dep, h2.2⟩
theorem sh_list {k : Nat} {ds : List PyData} (h : ∀ d ∈ ds, Sh k d) : Sh (k + 1) (.list ds) := by
  obtain ⟨h1, h2⟩ := sh_all h
  exact ⟨by simp only [PyData.canLay0]; exact h1, by simp only [PyData.depth]; omega⟩
theorem sh_tup {k : Nat} {ds : List PyData} (h : ∀ d ∈ ds, Sh k d) : Sh (k + 1) (.tuple ds) := by
  obtain ⟨h1, h2⟩ := sh_all h
  exact ⟨by simp only [PyData.canLay0]; exact h1, by simp only [PyData.depth]; omega⟩
theorem sh_nil {k : Nat} : ∀ d ∈ ([] : List PyData), Sh k d := fun _ h => nomatch h
theorem sh_cons {k : Nat} {d : PyData} {ds : List PyData} (h : Sh k d) (h2 : ∀ d ∈ ds, Sh k d) : ∀ e ∈ d :: ds, Sh k e := fun e he => by
  rcases List.mem_cons.mp he with rfl | he
  · exact h
  · exact h2 e he
theorem sh_ints {k : Nat} (ns : List Int) : ∀ d ∈ ns.map PyData.int, Sh k d := fun d hd => by
  obtain ⟨i, _, rfl⟩ := List.mem_map.mp hd
  exact sh_int i
theorem dpAll_ints {K : PySem.W.Frag} {H : Hp} : ∀ ns : List Int, DpAll K H (ns.map V.int) (ns.map PyData.int)
  | [] => .nil
  | n :: ns => .cons (.int n) (dpAll_ints ns)
theorem dp_ints {K : PySem.W.Frag} {H : Hp} {a : Addr} {ns : List Int} (h : SqL K H a (ns.map V.int)) : Dp K H (.ref a) (.list (ns.map PyData.int)) := .lst h (dpAll_ints ns)
@[irreducible] def xEqD (K : PySem.W.Frag) : R2 := rEqD K
@[irreducible] def xNeD (K : PySem.W.Frag) : R2 := rNeD K
section
variable {X : Cx}
theorem my_eqD (hu : X.A.units + 64 < cLine) : OpR X (compareOp .Eq) (xEqD X.K) := by unfold xEqD; exact op_eqD hu
theorem my_neD (hu : X.A.units + 64 < cLine) : OpR X (compareOp .NotEq) (xNeD X.K) := by unfold xNeD; exact op_neD hu
end
section
variable {K : PySem.W.Frag} {H : Hp} {x y : V} {d e : PyData} {Q : VK} {k : Nat}
theorem st_eqD (hx : Dp K H x d) (hy : Dp K H y e) (s : Sh 64 d) (s2 : Sh 64 e) (h : Q (.bl (PyData.eqv d e)) H) : xEqD K x y H Q := by
  unfold xEqD; exact ⟨d, e, hx, hy, s.shaped (Nat.le_refl _), s2.shaped (Nat.le_refl _), h⟩
theorem st_neD (hx : Dp K H x d) (hy : Dp K H y e) (s : Sh 64 d) (s2 : Sh 64 e) (h : Q (.bl (!PyData.eqv d e)) H) : xNeD K x y H Q := by
  unfold xNeD; exact ⟨d, e, hx, hy, s.shaped (Nat.le_refl _), s2.shaped (Nat.le_refl _), h⟩
theorem st_eqS (hx : Dp K H x d) (hy : Dp K H y d) (s : Sh 64 d) (h : Q (.bl true) H) : xEqD K x y H Q := st_eqD hx hy s s (by rw [SeqAt.eqv_refl d s.lay]; exact h)
theorem st_neS (hx : Dp K H x d) (hy : Dp K H y d) (s : Sh 64 d) (h : Q (.bl false) H) : xNeD K x y H Q := st_neD hx hy s s (by rw [SeqAt.eqv_refl d s.lay]; exact h)
end
theorem sorted_same {a b : List Int} (hp : a.Perm b) (ha : a.Pairwise (· ≤ ·)) (hb : b.Pairwise (· ≤ ·)) : a = b :=
  hp.eq_of_pairwise (fun _ _ _ _ h1 h2 => Int.le_antisymm h1 h2) ha hb
/-- the ints a .. b - 1 -/
def rgI (a b : Int) : List Int := (List.range (b - a).toNat).map fun (i : Nat) => a + (i : Int)
theorem rgV_eq (a b : Int) : rgV a b = (rgI a b).map V.int := by unfold rgV rgI; rw [List.map_map]; rfl
theorem rgI_len (a b : Int) : (rgI a b).length = (b - a).toNat := by unfold rgI; rw [List.length_map, List.length_range]
theorem rgI_sorted (a b : Int) : (rgI a b).Pairwise (· ≤ ·) := by
  unfold rgI
  rw [List.pairwise_map]
  exact List.pairwise_lt_range.imp fun h => by omega
/-! ### sorted, repeated lists, comprehensions -/
@[irreducible] def xSorted (K : PySem.W.Frag) : List V → Hp → VK → Prop := rSorted K
@[irreducible] def xRep : R2 := rRep
section
variable {X : Cx}
theorem my_sorted : CallR X (.builtin "sorted") (xSorted X.K) := by unfold xSorted; exact cr_sorted
theorem my_rep : OpR X (binaryOp .Mult) xRep := by unfold xRep; exact op_rep
theorem my_lc {elt tg iter : Expr} {ifs : List Expr} {scope : Scope} {own : List (Str × Nat)} {pos : Pos} {wi : TI} {g : TG} {tt : TT} {te : TE} (hc : X.calm = true) (hN : X.N.Nodup) (hi : PI X tg iter wi) (ok : BlkOk X.N X.env.scope scope own)
    (hg : ∀ (s : Shared) (H : Hp) (C : Addr) (cl : List (Str × Addr)) (fp : List Addr), PG (X.blk s H scope (compEnvC scope cl C X.env) fp) tg g)
    (ht : ∀ (s : Shared) (H : Hp) (C : Addr) (cl : List (Str × Addr)) (fp : List Addr), PTs (X.blk s H scope (compEnvC scope cl C X.env) fp) ifs tt)
    (he : ∀ (s : Shared) (H : Hp) (C : Addr) (cl : List (Str × Addr)) (fp : List Addr), PE (X.blk s H scope (compEnvC scope cl C X.env) fp) elt te) (hs : ∀ x, foldedSetIterable iter X.env x = pure x := by intro _; rfl) :
    PE X (.ListComp elt [⟨tg, iter, ifs, 0⟩] scope pos) (uLc wi g tt te (own.map (·.2))) := by rw [uLc_eq]; exact pe_lc hc hN hi ok hg ht he hs
theorem my_setLc {i : Nat} {y : Str} {py : Pos} {elt tg iter : Expr} {ifs : List Expr} {scope : Scope} {own : List (Str × Nat)} {pos spos : Pos} {wi : TI} {g : TG} {tt : TT} {te : TE} (hc : X.calm = true) (hN : X.N.Nodup) (hy : X.N[i]? = some y) (hyl : X.env.scope.names.lookup y = some .local)
    (hsw : swapsWith (.ListComp elt [⟨tg, iter, ifs, 0⟩] scope pos) (some (.Name y py)) spos.line X.env = pure true) (hi : PI X tg iter wi) (ok : BlkOk X.N X.env.scope scope own)
    (hg : ∀ (s : Shared) (H : Hp) (C : Addr) (cl : List (Str × Addr)) (fp : List Addr), PG (X.blk s H scope (compEnvC scope cl C X.env) fp) tg g)
    (ht : ∀ (s : Shared) (H : Hp) (C : Addr) (cl : List (Str × Addr)) (fp : List Addr), PTs (X.blk s H scope (compEnvC scope cl C X.env) fp) ifs tt)
    (he : ∀ (s : Shared) (H : Hp) (C : Addr) (cl : List (Str × Addr)) (fp : List Addr), PE (X.blk s H scope (compEnvC scope cl C X.env) fp) elt te) (hs : ∀ x, foldedSetIterable iter X.env x = pure x := by intro _; rfl) :
    PS X (.Assign [.Name y py] (.ListComp elt [⟨tg, iter, ifs, 0⟩] scope pos) spos) (tAsg (uLc wi g tt te (own.map (·.2))) (gName i)) := by rw [uLc_eq]; exact ps_setLc hc hN hy hyl hsw hi ok hg ht he hs
end
section
variable {X : Cx} {sB : Shared} {HB : Hp} {scB : Scope} {envB : Env} {fpB : List Addr}
theorem ix_listB : IxR (X.blk sB HB scB envB fpB) (rIxL X.K) := ix_list
theorem op_in_seqB : OpR (X.blk sB HB scB envB fpB) (compareOp .In) (rIn X.K false) := op_in_seq
theorem op_notIn_seqB : OpR (X.blk sB HB scB envB fpB) (compareOp .NotIn) (rIn X.K true) := op_notIn_seq
theorem pg_tupB {es : List Expr} {t : TGs} {k n : Nat} {pos : Pos} (hc : (X.blk sB HB scB envB fpB).calm = true) (h : PGs (X.blk sB HB scB envB fpB) es t)
    (hn : (assignEach es (X.blk sB HB scB envB fpB).env).length = n := by rfl) (hst : (assignEach es (X.blk sB HB scB envB fpB).env).findIdx? (·.1) = none := by rfl) : PG (X.blk sB HB scB envB fpB) (.Tuple es k pos) (gTup X.K n t) := pg_tup hc h hn hst
theorem pe_fldB {o : Expr} {ta : TE} {f : Str} {pos : Pos} (ha : PE (X.blk sB HB scB envB fpB) o ta) (hb : attributeBase o f (X.blk sB HB scB envB fpB).env (eval o (X.blk sB HB scB envB fpB).env) = eval o (X.blk sB HB scB envB fpB).env := by rfl) : PE (X.blk sB HB scB envB fpB) (.Attribute o f pos) (tFld X.K ta f) := pe_fld ha hb
theorem my_lenQB : CallR (X.blk sB HB scB envB fpB) (.builtin "len") (rLenQ X.K) := my_lenQ
end
section
variable {K : PySem.W.Frag} {H0 H : Hp} {L : List Ent} {a : Addr} {xs : List V} {g : TG} {tt : TT} {te : TE} {vs : List Nat} {σ : L2.St} {Q : VK}
theorem st_sorted {ns : List Int} (w : W H0 H L) (hs : SqL K H a (ns.map V.int)) (hl : ns.length < 64) (k : ∀ (ns' : List Int) p H', ns'.Perm ns → ns'.Pairwise (· ≤ ·) → W H0 H' ((p, .lst (ns'.map V.int)) :: L) → Q (.ref p) H') : xSorted K [.ref a] H Q := by
  unfold xSorted; exact ⟨a, ns, rfl, hs, hl, fun ns' p h1 h2 hp => k ns' p _ h1 h2 (w.new _ hp)⟩
theorem st_rep {n : Int} (w : W H0 H L) (i : Nat) (h : L[i]? = some (a, .lst xs)) (h0 : 0 ≤ n) (h1 : n ≤ 1000) (hz : xs.length * n.toNat ≤ 10000) (k : ∀ p H', W H0 H' ((p, .lst (List.replicate n.toNat xs).flatten) :: L) → Q (.ref p) H') : xRep (.ref a) (.int n) H Q := by
  unfold xRep; exact ⟨a, n, xs, rfl, rfl, w.get i h, by omega, by omega, szE (by omega), fun p hp => k p _ (w.new _ hp)⟩
/-- a comprehension's turn has an item -/
@[irreducible] def xAcc (D : Addr) (P : Hp → Prop) (y : V) (H : Hp) : Prop := ∃ acc, H D = some (.lst acc) ∧ acc.length < sizeLine ∧ P (upd H D (.lst (acc ++ [y])))
theorem st_acc {D : Addr} {acc : List V} {y : V} {P : Hp → Prop} (w : W H0 H L) (i : Nat) (h : L[i]? = some (D, .lst acc)) (hz : acc.length < sizeLine) (k : ∀ H', W H0 H' (L.set i (D, .lst (acc ++ [y]))) → P H') : xAcc D P y H := by
  unfold xAcc; exact ⟨acc, w.get i h, hz, k _ (w.set i _ h rfl)⟩
/-- one turn -/
abbrev LcTurn (g : TG) (tt : TT) (te : TE) (vs : List Nat) (σ : L2.St) (D : Addr) (P : Hp → Prop) (x : V) (H : Hp) : Prop :=
  g x (wipe σ vs) H fun σ2 H2 => wipe σ2 vs = wipe σ vs ∧ tt σ2 H2 fun b H3 => xIf b (te σ2 H3 fun y H4 => xAcc D P y H4) (P H3)
theorem st_lcL (Pv : Addr → Nat → Hp → Prop) (w : W H0 H L) (h0 : ∀ D H', W H0 H' ((D, .lst []) :: L) → Pv D 0 H') (hl : ∀ D i H, i ≤ xs.length → Pv D i H → SqL K H a xs)
    (hs : ∀ D i x H, xs[i]? = some x → Pv D i H → LcTurn g tt te vs σ D (Pv D (i + 1)) x H) (hd : ∀ D H, Pv D xs.length H → Q (.ref D) H) : xLc (Itl K a) g tt te vs σ H Q := by
  unfold LcTurn xIf xAcc at hs
  unfold xLc; exact fun D hD => lc_list (Pv D) (h0 D _ (w.new _ hD)) (hl D) (hs D) (hd D)
theorem st_lcR {lo : Int} {n : Nat} (Pv : Addr → Nat → Hp → Prop) (w : W H0 H L) (h0 : ∀ D H', W H0 H' ((D, .lst []) :: L) → Pv D 0 H')
    (hs : ∀ D i H, i < n → Pv D i H → LcTurn g tt te vs σ D (Pv D (i + 1)) (.int (lo + (i : Int))) H) (hd : ∀ D H, Pv D n H → Q (.ref D) H) : xLc (Itr lo n) g tt te vs σ H Q := by
  unfold LcTurn xIf xAcc at hs
  unfold xLc; exact fun D hD => lc_range (Pv D) (h0 D _ (w.new _ hD)) (hs D) (hd D)
theorem st_lcT (Pv : Addr → Nat → Hp → Prop) (w : W H0 H L) (h0 : ∀ D H', W H0 H' ((D, .lst []) :: L) → Pv D 0 H') (hl : ∀ D i H, i ≤ xs.length → Pv D i H → SqT K H a xs)
    (hs : ∀ D i x H, xs[i]? = some x → Pv D i H → LcTurn g tt te vs σ D (Pv D (i + 1)) x H) (hd : ∀ D H, Pv D xs.length H → Q (.ref D) H) : xLc (Itt K a) g tt te vs σ H Q := by
  unfold LcTurn xIf xAcc at hs
  unfold xLc; exact fun D hD => lc_tup (Pv D) (h0 D _ (w.new _ hD)) (hl D) (hs D) (hd D)
end
end TR
namespace TR
open PySem PySem.Spec PyProof.Rows L2
/-! ### texts: sorted keys, joined signs, comprehensions over a text -/
@[irreducible] def xSortD : V → Hp → VK → Prop := fun x H Q => ∃ (a : Addr) (kvs : List (Key × V)) (ks : List Str), x = .ref a ∧ H a = some (.dK kvs) ∧ kvs.map (·.1) = ks.map Sum.inr ∧ ks.length < 64 ∧
  ∀ ys p, ys.Perm ks → sortedS ys = true → H p = none → Q (.ref p) (upd H p (.lst (ys.map V.str)))
def uSortD (td : TE) : TE := fun σ H Q => td σ H fun x H1 => xSortD x H1 Q
@[irreducible] def xJoin (K : PySem.W.Frag) : V → List V → Hp → VK → Prop := fun x xs H Q => ∃ a p, ∃ ys : List Str, x = .str a ∧ xs = [.ref p] ∧ (SqL K H p (ys.map V.str) ∨ SqT K H p (ys.map V.str)) ∧
  (ys.map (·.length)).sum + ys.length * a.length ≤ 16777216 ∧ Q (.str (Txt.join a ys)) H
@[irreducible] def xIxS : R2 := rIxS
section
variable {X : Cx}
theorem my_ixS : IxR X xIxS := by unfold xIxS; exact ix_str
theorem my_join {o e : Expr} {to te : TE} {apos pos : Pos} (ho : PE X o to) (he : PE X e te) (hs : starEach [e] X.env = [(false, eval e X.env)] := by rfl) (hbase : attributeBase o "join" X.env (eval o X.env) = eval o X.env := by rfl) (hline : (apos.endLine == pos.line) = true := by rfl) :
    PE X (.Call (.Attribute o "join" apos) [e] [] pos) (tM1 (xJoin X.K) to te) := by
  unfold xJoin; exact pe_join ho he hs hbase hline
theorem my_dget2 {o e f : Expr} {td ty tx : TE} {apos cpos : Pos} (hu : X.A.units + 1 < cLine) (ho : PE X o td) (he : PE X e ty) (hf : PE X f tx)
    (base : attributeBase o "get" X.env (eval o X.env) = eval o X.env := by rfl)
    (few : ((backTo cpos (starEach [e, f] X.env)).all (fun x => !x.1) && (backToKw cpos (keywordEach [] X.env)).all (fun x => x.1.isSome)
      && decide (([e, f] : List Expr).length + ([] : List Keyword).length + (if ([] : List Keyword).isEmpty then 0 else 1) < 30)) = true := by rfl)
    (line : (apos.endLine == cpos.line) = true := by rfl)
    (trees : backTo cpos (starEach [e, f] X.env) = [(false, eval e X.env), (false, eval f X.env)] := by rfl) : PE X (.Call (.Attribute o "get" apos) [e, f] [] cpos) (tDGet2 td ty tx) :=
  pe_dget2 hu ho he hf ⟨base, few, line, trees⟩
theorem my_sortedKeys {o : Expr} {td : TE} {p pos apos cpos : Pos} (hcalm : X.calm = true) (hg : Gl X "sorted") (hm : X.mg "sorted" = none) (ho : PE X o td)
    (hbase : attributeBase o "keys" X.env (eval o X.env) = eval o X.env := by rfl) (hline : (apos.endLine == cpos.line) = true := by rfl)
    (he : starEach [.Call (.Attribute o "keys" apos) [] [] cpos] X.env = (false, eval (.Call (.Attribute o "keys" apos) [] [] cpos) X.env) :: starEach [] X.env := by rfl) :
    PE X (.Call (.Name "sorted" p) [.Call (.Attribute o "keys" apos) [] [] cpos] [] pos) (uSortD td) := by
  refine ⟨fun pins s σ H Q I h => ?_⟩
  refine wpAny_Call_Name_kw (ld_blt I hg hm (u := .builtin "sorted") (by decide +kernel) ?_ (by decide) (by decide))
  refine PyProof.Rows.callWith_builtin1 ?_ he rfl
  rw [he]
  refine Calls.spliced_cons ?_
  refine wpAny_Call_method (T := "dict") (id := "dict.keys") hbase rfl hline F.plainAttrs_dict F.slot_dict_keys F.type_dict_keys (thn (ho.run pins s σ H _ I h) fun u s1 ⟨x, H1, I1, rx, q⟩ => ?_)
  unfold xSortD at q
  obtain ⟨a, kvs, ks, ex, hd, hks, h64, q⟩ := q
  subst ex
  obtain rfl : u = Value.ref a := rx
  obtain ⟨z, lo, vs, rel, dd⟩ := dk_of I1.hok hd
  refine ⟨dd.typeIs, dd.mapOf.noDict, ?_⟩
  obtain ⟨ep, hat⟩ := dd.dictAt
  have I2 : Inv X pins σ H1 { s1 with heap := s1.heap.push { cls := .type "dict_keys", data := .fields #[.ref a] } } := I1.kept (t' := s1.toks) fun b ob q => Heap.get?_push_of_some _ q
  refine method_meetsIn F.slot_dict_keys F.entry_dict_keys rfl (PySem.evalArgs_none ⟨rfl, dd.typeIs, F.args_dict_keys_1 _, _, PySem.W.kdl_meets_keys (mixKind X.prog X.w) a lo, ⟨vs, dd⟩, ?_⟩)
  refine Calls.spliced_nil ?_
  have hkeys : vs.map (·.1) = ks.map Sum.inr := rel.keys.symm.trans hks
  have hl : vs.length = ks.length := by
    have e := congrArg List.length hkeys
    rw [List.length_map, List.length_map] at e
    exact e
  have h16 : vs.length ≤ sizeLine := by rw [hl, sizeLine_eq]; omega
  have hat2 := hat.push { cls := .type "dict_keys", data := .fields #[.ref a] }
  refine Calls.call_function_entry PyProof.Rows.kind_sorted PyProof.Rows.plain_sorted PyProof.Rows.entry_sorted (PyProof.Rows.args_sorted1 _) ?_
  unfold Builtin.«sorted»
  refine wpAny_bind (m := checkCount "sorted" 1 1 _) (wpAny_pure ?_)
  refine wpAny_bind (PySem.W.kdu_collect (A := X.A.in1) (PySem.W.kdl_keys (knd := mixKind X.prog X.w) (kvs := vs) (ep := ep)) (I2.ok.hd hcalm) ⟨⟨_, Heap.get?_push_size _ rfl, rfl, rfl⟩, hat2⟩ h16 fun h' tk acc hk hacc => ?_)
  have hal : acc.toList.length = ks.length := by rw [Array.length_toList, hacc.1, hl]
  have hS : StrsAre acc.toList ks := strs_at hal fun j v e => by
    obtain ⟨k, x, e1, e2⟩ := hacc.2 j v (by rw [← Array.getElem?_toList]; exact e)
    have e3 : (vs.map (·.1))[j]? = some k := by rw [List.getElem?_map, e1]; all_goals rfl
    rw [hkeys, List.getElem?_map] at e3
    cases e4 : ks[j]? with
    | none => rw [e4] at e3; cases e3
    | some y =>
      rw [e4] at e3
      have e5 : Sum.inr y = k := Option.some.inj e3
      subst e5
      obtain ⟨t, ev⟩ := Value.isStrOf_shape (x := y) (v := v) e2
      exact ⟨y, t, rfl, ev⟩
  have I3 : Inv X pins σ H1 { s1 with heap := h', toks := tk } := I2.kept (t' := tk) hk
  refine wpAny_bind (wpAny_newList ?_ (by rw [hal, sizeLine_eq]; omega))
  have hoL : (h'.push (seqObj "list" acc.toList.toArray 0)).get? h'.objs.size = some (seqObj "list" acc.toList.toArray 0) := Heap.get?_push_size _ rfl
  show wpAny _ _ _ _ _ { s1 with heap := h'.push (seqObj "list" acc.toList.toArray 0), toks := tk }
  refine wpAny_bind (wpAny_holding (wpAny_call_entry PyProof.Rows.slot_list_sort ⟨_, hoL, rfl⟩ PyProof.Rows.entry_list_sort
    (list_sort_treeK strKind_oneLt (s := { s1 with heap := h'.push (seqObj "list" acc.toList.toArray 0), toks := tk }) hoL hS.keysOf (fun v₁ v₂ rest e => keyKind_strs (by rw [← e]; exact hS)) (by rw [hal]; exact h64) fun st' hp hs => ⟨_, rfl, ?_⟩)
    (PyProof.Rows.args_list_sort _)))
  obtain ⟨ys, g1, g2, g3⟩ := sorted_out_str hS hp hs
  obtain ⟨e', he'⟩ := PyProof.Rows.sortedHeap_at (vs := acc.toList) (out := (arrOf st').map (·.2)) hoL
  have hlen : (ys.map V.str).length ≤ sizeLine := by
    rw [List.length_map, g2.length_eq]
    exact Nat.le_trans (Nat.le_of_lt h64) (by decide)
  refine wpAny_pure ⟨_, rfl, .ref h'.objs.size, upd H1 h'.objs.size (.lst (ys.map V.str)), I3.laid (t' := tk) (fun b u e => ?_) (Nat.le_refl _)
    (show ObjOk X.prog X.w _ _ _ (.lst (ys.map V.str)) from ⟨hlen, ((arrOf st').map (·.2)).toList, e', vals_of_strs g1, by rw [Array.toArray_toList]; exact he'⟩), rfl, q ys _ g2 g3 (I3.hok.fresh (Nat.le_refl _))⟩
  have hb : b < h'.objs.size := Heap.lt_size e
  rw [PyProof.Rows.sortedHeap_old (Nat.ne_of_lt hb) (by rw [size_push']; exact Nat.lt_succ_of_lt hb)]
  exact Heap.get?_push_of_some _ e
end
section
variable {K : PySem.W.Frag} {H0 H : Hp} {L : List Ent} {a : Addr} {g : TG} {tt : TT} {te : TE} {vs : List Nat} {σ : L2.St} {Q : VK}
theorem st_sortD {kvs : List (Key × V)} {ks : List Str} (w : W H0 H L) (i : Nat) (h : L[i]? = some (a, .dK kvs)) (hk : kvs.map (·.1) = ks.map Sum.inr) (hl : ks.length < 64)
    (k : ∀ ys p H', ys.Perm ks → sortedS ys = true → W H0 H' ((p, .lst (ys.map V.str)) :: L) → Q (.ref p) H') : xSortD (.ref a) H Q := by
  unfold xSortD; exact ⟨a, kvs, ks, rfl, w.get i h, hk, hl, fun ys p h1 h2 hp => k ys p _ h1 h2 (w.new _ hp)⟩
theorem st_join {x : Str} {ys : List Str} (hs : SqL K H a (ys.map V.str)) (hl : (ys.map (·.length)).sum + ys.length * x.length ≤ 16777216) (k : Q (.str (Txt.join x ys)) H) : xJoin K (.str x) [.ref a] H Q := by
  unfold xJoin; exact ⟨x, a, ys, rfl, rfl, .inl hs, hl, k⟩
theorem st_ixS {z : Str} {i : Int} {j c : Nat} (hz : z.length ≤ sizeLine) (e : i = (j : Int)) (h : z.cps.toList[j]? = some c) (k : Q (.str ⟨#[c]⟩) H) : xIxS (.str z) (.int i) H Q := by
  unfold xIxS
  refine ⟨z, i, c, rfl, rfl, hz, ?_, k⟩
  unfold atI
  rw [ix_of e (List.getElem?_eq_some_iff.mp h).1]
  exact h
theorem st_lcS {x : Str} (Pv : Addr → Nat → Hp → Prop) (w : W H0 H L) (h0 : ∀ D H', W H0 H' ((D, .lst []) :: L) → Pv D 0 H')
    (hs : ∀ D i c H, x.cps.toList[i]? = some c → Pv D i H → LcTurn g tt te vs σ D (Pv D (i + 1)) (.str ⟨#[c]⟩) H) (hd : ∀ D H, Pv D x.cps.toList.length H → Q (.ref D) H) : xLc (Its x) g tt te vs σ H Q := by
  unfold LcTurn xIf xAcc at hs
  unfold xLc
  refine fun D hD => ⟨fun i m H => m = x.cps.toList.length - i ∧ i ≤ x.cps.toList.length ∧ Pv D i H, ⟨x.cps.toList.length, by simp, Nat.zero_le _, h0 D _ (w.new _ hD)⟩, ?_⟩
  rintro i m H ⟨rfl, hi, p⟩
  have es : x.cps.size = x.cps.toList.length := by simp
  by_cases hlt : i < x.cps.toList.length
  · refine .inr ⟨(by show i < x.cps.size; omega), Pv D (i + 1), fun H' p' => ⟨x.cps.toList.length - (i + 1), by omega, rfl, hlt, p'⟩, fun y H' yy => ?_⟩
    obtain ⟨e, c, hc, rfl⟩ := yy
    subst e
    exact hs D i c _ (by rw [Array.getElem?_toList]; exact hc) p
  · have e : i = x.cps.toList.length := by omega
    subst e
    exact .inl ⟨(by show x.cps.size ≤ _; omega), hd D H p⟩
end
/-- two rows in the order that hold the same texts are the same -/
theorem risingS_iff : ∀ (p : Str) (l : List Str), risingS p l = true → (p :: l).Pairwise (fun a b => ltCps b.cps.toList a.cps.toList = false)
  | p, [], _ => List.pairwise_singleton _ _
  | p, x :: r, h => by
    unfold risingS at h
    obtain ⟨h1, h2⟩ := Bool.and_eq_true_iff.mp h
    have h3 := risingS_iff x r h2
    refine List.pairwise_cons.mpr ⟨fun y hy => ?_, h3⟩
    have h1' : ltCps x.cps.toList p.cps.toList = false := by simpa using h1
    rcases List.mem_cons.mp hy with rfl | hy
    · exact h1'
    · have h4 := List.rel_of_pairwise_cons h3 hy
      rw [ltCps_eq] at h1' h4 ⊢
      have a1 := of_decide_eq_false h1'
      have a2 := of_decide_eq_false h4
      exact decide_eq_false (List.not_lt.mpr (List.le_trans (List.not_lt.mp a1) (List.not_lt.mp a2)))
theorem sortedS_iff : ∀ {l : List Str}, sortedS l = true → l.Pairwise (fun a b => ltCps b.cps.toList a.cps.toList = false)
  | [], _ => .nil
  | x :: r, h => risingS_iff x r h
theorem sortedS_same {a b : List Str} (hp : a.Perm b) (ha : sortedS a = true) (hb : sortedS b = true) : a = b :=
  hp.eq_of_pairwise (fun x y _ _ h1 h2 => by
    rw [ltCps_eq] at h1 h2
    have a1 := of_decide_eq_false h1
    have a2 := of_decide_eq_false h2
    have e := List.le_antisymm (List.not_lt.mp a2) (List.not_lt.mp a1)
    cases x with | mk cx => cases y with | mk cy => exact congrArg Str.mk (Array.toList_inj.mp e.symm)) (sortedS_iff ha) (sortedS_iff hb)
theorem dpAll_strs {K : PySem.W.Frag} {H : Hp} : ∀ ns : List Str, DpAll K H (ns.map V.str) (ns.map PyData.str)
  | [] => .nil
  | n :: ns => .cons (.str n) (dpAll_strs ns)
theorem dp_strs {K : PySem.W.Frag} {H : Hp} {a : Addr} {ns : List Str} (h : SqL K H a (ns.map V.str)) : Dp K H (.ref a) (.list (ns.map PyData.str)) := .lst h (dpAll_strs ns)
theorem sh_strs {k : Nat} {ns : List Str} (h : ∀ x ∈ ns, PyData.strOk x = true) : ∀ d ∈ ns.map PyData.str, Sh k d := fun d hd => by
  obtain ⟨i, hi, rfl⟩ := List.mem_map.mp hd
  exact sh_str (h i hi)
theorem inV_strs (ns : List Str) (n : Str) : inV (.str n) (ns.map V.str) = decide (n ∈ ns) := by
  unfold inV
  rw [List.any_map]
  by_cases h : n ∈ ns
  · rw [decide_eq_true h]
    exact List.any_eq_true.mpr ⟨n, h, by show (n == n) = true; exact beq_self_eq_true n⟩
  · rw [decide_eq_false h]
    refine Bool.eq_false_iff.mpr fun z => h ?_
    obtain ⟨x, hx, e⟩ := List.any_eq_true.mp z
    have e2 : (x == n) = true := e
    rw [← eq_of_beq e2]
    exact hx
end TR
namespace TR
open PySem L2
/-! ### dicts displayed -/
@[irreducible] def xDisp (p : Addr) (ps : List (V × V)) (H : Hp) (Q : VK) : Prop := H p = some (.dK []) ∧ ∃ kvs : List (Key × V), ps = kvs.map (fun kv => (kV kv.1, kv.2)) ∧ kvs.length ≤ 15 ∧ Q (.ref p) (upd H p (.dK (mergeK [] kvs)))
def uDisp (trs : List (TE × TE)) : TE := fun σ H Q => xNew (.dK []) H fun v H1 => ∃ p, v = .ref p ∧ tPairs trs σ H1 fun ps H2 => xDisp p ps H2 Q
theorem tPairs_imp : ∀ {trs : List (TE × TE)} {σ : L2.St} {H : Hp} {Q Q' : List (V × V) → Hp → Prop}, Q = Q' → tPairs trs σ H Q → tPairs trs σ H Q' := fun e h => e ▸ h
theorem my_disp {X : Cx} {pos : Pos} {keys : List (Option Expr)} {values : List Expr} {trs : List (TE × TE)} (h : PPs X pos keys values trs) (hall : keys.all (·.isSome) = true) (hl : keys.length = values.length) (h0 : keys ≠ [])
    (h15 : keys.length ≤ 15) : PE X (.Dict keys values pos) (uDisp trs) := by
  refine PE.le (pe_disp h hall hl h0 h15) fun σ H Q q => ?_
  unfold uDisp xNew at q
  intro p hp
  obtain ⟨p', e, q2⟩ := q p hp
  cases e
  unfold xDisp at q2
  exact q2
theorem st_disp {H0 H : Hp} {L : List Ent} {p : Addr} {ps : List (V × V)} {Q : VK} (w : W H0 H L) (i : Nat) (h : L[i]? = some (p, .dK [])) (kvs : List (Key × V)) (e : ps = kvs.map (fun kv => (kV kv.1, kv.2))) (hl : kvs.length ≤ 15)
    (k : ∀ H', W H0 H' (L.set i (p, .dK (mergeK [] kvs))) → Q (.ref p) H') : xDisp p ps H Q := by
  unfold xDisp
  exact ⟨w.get i h, kvs, e, hl, k _ (w.set i _ h rfl)⟩
section
variable {K : PySem.W.Frag} {H : Hp} {a b : Addr} {ns : List Int} {Q : VK}
theorem st_eqN (hx : SqL K H a (ns.map V.int)) (hy : SqL K H b []) (k : Q (.bl (decide (ns = []))) H) : xEqD K (.ref a) (.ref b) H Q :=
  st_eqD (dp_ints hx) (dp_ints (ns := []) hy) (sh_list (sh_ints _)) (sh_list (sh_ints [])) (by rw [show PyData.eqv (.list (ns.map PyData.int)) (.list (List.map PyData.int [])) = decide (ns = []) from by cases ns <;> rfl]; exact k)
theorem st_neN (hx : SqL K H a (ns.map V.int)) (hy : SqL K H b []) (k : Q (.bl (!decide (ns = []))) H) : xNeD K (.ref a) (.ref b) H Q :=
  st_neD (dp_ints hx) (dp_ints (ns := []) hy) (sh_list (sh_ints _)) (sh_list (sh_ints [])) (by rw [show PyData.eqv (.list (ns.map PyData.int)) (.list (List.map PyData.int [])) = decide (ns = []) from by cases ns <;> rfl]; exact k)
end
end TR
namespace TR
open PySem PySem.Spec PyProof.Rows L2
/-! ### d.copy(), d.update(e), min of three, slices of tuples, walks over keys -/
def mn2 (i j : Int) : Int := if j < i then j else i
theorem mergeK_len : ∀ (more kvs : List (Key × V)), (mergeK kvs more).length ≤ kvs.length + more.length
  | [], kvs => Nat.le_refl _
  | p :: more, kvs => by
    have h := mergeK_len more (putK kvs p.1 p.2)
    have h2 := length_putK kvs p.1 p.2
    show (mergeK (putK kvs p.1 p.2) more).length ≤ _
    rw [List.length_cons]
    omega
section
variable {X : Cx}
def rDCopy : V → List V → Hp → VK → Prop := fun x vs H Q => ∃ (a : Addr) (kvs : List (Key × V)), x = .ref a ∧ vs = [] ∧ H a = some (.dK kvs) ∧ ∀ p, H p = none → Q (.ref p) (upd H p (.dK kvs))
theorem mt_dcopy : MtR X "dict.copy" rDCopy := by
  intro pins s σ H x vs v us Q I rx rv h
  obtain ⟨a, kvs, ex, ev, e, q⟩ := h
  subst ex
  subst ev
  obtain rfl : v = Value.ref a := rx
  have hus := rv.zero
  subst hus
  obtain ⟨z, hd, ws, rel, dd⟩ := dk_of I.hok e
  have hm : (s.heap.objs.size == sysModules) = false := beq_eq_false_iff_ne.mpr (Nat.ne_of_gt I.big)
  refine call_meetsIn PySem.F.slot_dict_copy dd.typeIs PySem.F.entry_dict_copy (PySem.F.args_dict_copy_1 _) (meets_dict_copy (mixKind X.prog X.w) a hd) ⟨ws, dd, by rw [← rel.length]; exact z, fun h' d1 d2 hs => ?_⟩
  exact ⟨.ref s.heap.objs.size, upd H s.heap.objs.size (.dK kvs), I.laid (t' := s.toks) hs (Nat.le_refl _) (show ObjOk X.prog X.w _ _ _ (.dK kvs) from ⟨z, hm, ws, rel, d1⟩), rfl, q _ (I.hok.fresh (Nat.le_refl _))⟩
def rDUpd : V → List V → Hp → VK → Prop := fun x vs H Q => ∃ (a b : Addr) (kvs more : List (Key × V)), x = .ref a ∧ vs = [.ref b] ∧ a ≠ b ∧ H a = some (.dK kvs) ∧ H b = some (.dK more) ∧ kvs.length + more.length ≤ 1000 ∧ Q .non (upd H a (.dK (mergeK kvs more)))
theorem mt_dupd : MtR X "dict.update" rDUpd := by
  intro pins s σ H x vs v us Q I rx rv h
  obtain ⟨a, b, kvs, more, ex, ev, ne, ea, eb, hl, q⟩ := h
  subst ex
  subst ev
  obtain rfl : v = Value.ref a := rx
  obtain ⟨u, eu, ru⟩ := vals1 rv
  subst eu
  obtain rfl : u = Value.ref b := ru
  obtain ⟨z, hd, ws, rel, dd⟩ := dk_of I.hok ea
  obtain ⟨z2, hd2, ws2, rel2, dd2⟩ := dk_of I.hok eb
  have hz : kvs.length + more.length ≤ sizeLine := szE (by omega)
  refine call_meetsIn PySem.F.slot_dict_update dd.typeIs PySem.F.entry_dict_update (PySem.F.args_dict_update_2 _ _) (meets_dict_update (mixKind X.prog X.w) a b ne hd2) ⟨ws, ws2, dd, dd2, by rw [← rel.length, ← rel2.length]; exact hz, fun h' d1 d2 hs => ?_⟩
  have he : ∃ q, h'.get? a = some q := let ⟨q, _, _, hq, _⟩ := d1; ⟨q, hq⟩
  refine ⟨.non, _, d_write (t' := s.toks) I (by rw [ea]; exact True.intro) hs he (dk_new (Nat.le_trans (mergeK_len more kvs) hz) hd (KV.merge rel2 rel) d1), rfl, q⟩
@[irreducible] def xDCopy : MRd := rDCopy
@[irreducible] def xDUpd : MRd := rDUpd
theorem my_dcopy {o : Expr} {td : TE} {apos cpos : Pos} (ho : PE X o td) (hbase : attributeBase o "copy" X.env (eval o X.env) = eval o X.env := by rfl) (hline : (apos.endLine == cpos.line) = true := by rfl) :
    PE X (.Call (.Attribute o "copy" apos) [] [] cpos) (tBM0 X.K "dict" xDCopy td) := by
  unfold xDCopy; exact pe_bm0 PySem.F.plainAttrs_dict PySem.F.slot_dict_copy PySem.F.type_dict_copy mt_dcopy ho hbase hline
theorem my_dupdate {o e : Expr} {td te : TE} {apos cpos : Pos} (ho : PE X o td) (he : PE X e te) (hbase : attributeBase o "update" X.env (eval o X.env) = eval o X.env := by rfl)
    (hfew : ((backTo cpos (starEach [e] X.env)).all (fun x => !x.1) && (backToKw cpos (keywordEach [] X.env)).all (fun x => x.1.isSome)
      && decide (([e] : List Expr).length + ([] : List Keyword).length + (if ([] : List Keyword).isEmpty then 0 else 1) < 30)) = true := by rfl)
    (hline : (apos.endLine == cpos.line) = true := by rfl) (hs : starEach [e] X.env = (false, eval e X.env) :: starEach [] X.env := by rfl) (hplain : (backTo cpos (starEach [] X.env)).any (·.1) = false := by rfl) :
    PE X (.Call (.Attribute o "update" apos) [e] [] cpos) (tBM X.K "dict" xDUpd td (tCons te tNil)) := by
  unfold xDUpd; exact pe_bm PySem.F.plainAttrs_dict PySem.F.slot_dict_update PySem.F.type_dict_update mt_dupd ho (pa_cons he pa_nil hs) hbase hfew hline hs hplain
theorem my_min3 (hc : X.calm = true) : CallR X (.builtin "min") (fun xs H Q => ∃ i j k : Int, xs = [.int i, .int j, .int k] ∧ Q (.int (mn2 (mn2 i j) k)) H) := by
  refine cr_le (call_min3Nu hc) fun xs H Q q => ?_
  obtain ⟨i, j, k, rfl, q⟩ := q
  refine ⟨.int i, .int j, .int k, .int (mn2 (mn2 i j) k), rfl, ?_, q⟩
  have e2 : ∀ a b : Int, nuMin2 (.int a) (.int b) = some (.int (mn2 a b)) := by
    intro a b
    show some (if decide (b < a) = true then V.int b else V.int a) = _
    unfold mn2
    by_cases h : b < a
    · rw [if_pos h, decide_eq_true h, if_pos rfl]
    · rw [if_neg h, decide_eq_false h, if_neg Bool.false_ne_true]
  show (nuMin2 (.int i) (.int j)).bind (fun m => nuMin2 m (.int k)) = _
  rw [e2]
  exact e2 _ _
def uSlT (K : PySem.W.Frag) : V → Option Int → Option Int → Hp → VK → Prop := fun x lo hi H Q => ∃ a xs, x = .ref a ∧ SqT K H a xs ∧ ¬ (HT.sIx xs.length 0 lo = 0 ∧ HT.sIx xs.length xs.length hi = xs.length) ∧ xNew (.tup (cutV xs lo hi)) H Q
theorem my_slT : SlR X (uSlT X.K) := by
  have e : uSlT X.K = rSlT X.K := by unfold uSlT rSlT xNew; rfl
  rw [e]; exact sl_tup
/-! a walk over a dict's keys -/
@[irreducible] def xForK (i : Nat) (g : TG) (tb : TS) (D : Ends) (σ : L2.St) (H : Hp) : Prop := tLock (tFor (iKeysM (tVar i)) g tb) D σ H
def uForK (i : Nat) (g : TG) (tb : TS) : TS := fun D σ H => xForK i g tb D σ H
theorem my_forK {tg e : Expr} {body : List Stmt} {i : Nat} {g : TG} {tb : TS} {pos apos cpos : Pos} (hp : PassesOwn (model X.prog X.w) X.A X.env X.xe) (hc : X.calm = true) (hi : PI X tg (.Call (.Attribute e "keys" apos) [] [] cpos) (iKeysM (tVar i))) (hg : PG X tg g) (hb : PSs X body tb)
    (hs : ∀ x, foldedSetIterable (.Call (.Attribute e "keys" apos) [] [] cpos) X.env x = pure x := by intro _; rfl) : PS X (.For tg (.Call (.Attribute e "keys" apos) [] [] cpos) body [] pos) (uForK i g tb) := by
  have e1 : uForK i g tb = tLock (tFor (iKeysM (tVar i)) g tb) := by unfold uForK xForK; rfl
  rw [e1]; exact ps_lock (ps_for hp hc hi hg hb hs)
end
section
variable {H0 H : Hp} {L : List Ent} {l : Addr} {Q : VK} {QH : Hp → Prop}
theorem st_dcopy {kvs : List (Key × V)} (w : W H0 H L) (i : Nat) (h : L[i]? = some (l, .dK kvs)) (k : ∀ p H', W H0 H' ((p, .dK kvs) :: L) → Q (.ref p) H') : xDCopy (.ref l) [] H Q := by
  unfold xDCopy; exact ⟨l, kvs, rfl, rfl, w.get i h, fun p hp => k p _ (w.new _ hp)⟩
theorem st_dupd {kvs more : List (Key × V)} {b : Addr} (w : W H0 H L) (i j : Nat) (h : L[i]? = some (l, .dK kvs)) (hb : L[j]? = some (b, .dK more)) (hij : i ≠ j) (hz : kvs.length + more.length ≤ 1000) (k : ∀ H', W H0 H' (L.set i (l, .dK (mergeK kvs more))) → Q .non H') : xDUpd (.ref l) [.ref b] H Q := by
  unfold xDUpd
  refine ⟨l, b, kvs, more, rfl, rfl, fun z => hij ?_, w.get i h, w.get j hb, hz, k _ (w.set i _ h rfl)⟩
  subst z
  exact nd_get w.nd (x := l) (by rw [List.getElem?_map, h]; rfl) (by rw [List.getElem?_map, hb]; rfl)
theorem st_forK {kvs : List (Key × V)} {i j : Nat} {g : TG} {tb : TS} {D : Ends} {σ : L2.St} (Pv : Obj → Nat → L2.St → Hp → Prop) (w : W H0 H L) (hj : L[j]? = some (l, .dK kvs)) (hσ : σ[i]? = some (some (.ref l)))
    (h0 : ∀ od H', W H0 H' (L.set j (l, .frz od (.dK kvs))) → Pv od 0 σ H') (hl : ∀ od n σ H, Pv od n σ H → H l = some (.frz od (.dK kvs)))
    (hs : ∀ od n k v σ H rt bk, kvs[n]? = some (k, v) → Pv od n σ H → g (kV k) σ H fun σ2 H2 => tb ⟨Pv od (n + 1), rt, bk, Pv od (n + 1)⟩ σ2 H2)
    (hd : ∀ od σ H, Pv od kvs.length σ H → D.nx σ (upd H l (.dK kvs))) : xForK i g tb D σ H := by
  unfold xForK
  refine ⟨l, .dK kvs, w.get j hj, True.intro, fun od => ?_⟩
  refine ⟨.ref l, hσ, l, od, kvs, rfl, upd_same, ?_⟩
  refine for_it (walk_keys (kvs := kvs)) (Pv od) (h0 od _ (w.set j _ hj rfl)) (fun n σ H _ p => hl od n σ H p) ?_ ?_
  · rintro n x σ2 H2 H3 hn p ⟨rfl, k, v, e, rfl⟩
    exact hs od n k v σ2 _ _ _ e p
  · intro σ2 H2 p
    exact ⟨hl od _ σ2 H2 p, hd od σ2 H2 p⟩
end
end TR
namespace TR
open PySem PySem.Spec PyProof.Rows L2
/-! ### the head's facts: what the module's names reach, level by level -/
def grow1 (g : Addr → Option Obj) (as : List Addr) : List Addr := as.flatMap fun a => match g a with
  | some o => He.refsD o
  | none => []
/-- forced, so that it is reckoned once -/
def frL {α : Type} (l : List Addr) (k : List Addr → α) : α := match l with
  | [] => k []
  | a :: r => HandSHeadRun.frNat a fun a => frL r fun r => k (a :: r)
theorem frL_eq {α : Type} : ∀ (l : List Addr) (k : List Addr → α), frL l k = k l
  | [], _ => rfl
  | a :: r, k => by
    show HandSHeadRun.frNat a (fun a => frL r fun r => k (a :: r)) = k (a :: r)
    rw [HandSHeadRun.frNat_eq, frL_eq r]
def asM (g : Addr → Option Obj) : List Addr := frL (grow1 g [mainGlobals]) fun l1 => frL (grow1 g l1).eraseDups fun l2 => frL (grow1 g l2).eraseDups fun l3 => frL (grow1 g l3).eraseDups fun l4 => mainGlobals :: (l1 ++ (l2 ++ (l3 ++ l4)))
abbrev AlM : Type := He.AlD × Bool
def obsK (fa : List He.Fa) (fn : List He.DefD) (ex : PySem.W.Frag → Bool) (K : PySem.W.Frag) : AlM := (He.obsD fa fn K, ex K)
def obsM (fa : List He.Fa) (fn : List He.DefD) (ex : PySem.W.Frag → Bool) (g : Addr → Option Obj) : AlM := frL (asM g) fun as => obsK fa fn ex (He.frG g as)
structure SaysM (fa : List He.Fa) (fn : List He.DefD) (ex : PySem.W.Frag → Bool) (K : PySem.W.Frag) : Prop where
  d : He.SaysD fa fn K
  more : ex K = true
theorem saysM_of {fa : List He.Fa} {fn : List He.DefD} {ex : PySem.W.Frag → Bool} {h : Heap} (e : obsM fa fn ex h.get? = (He.valD fn, true)) : ∃ K : PySem.W.Frag, K.In h ∧ SaysM fa fn ex K := by
  unfold obsM at e
  rw [frL_eq] at e
  exact ⟨_, He.frG_in, congrArg (fun z : AlM => z.1) e, congrArg (fun z : AlM => z.2) e⟩
def hookM (fa : List He.Fa) (fn : List He.DefD) (ex : PySem.W.Frag → Bool) : PySem.W.Hook where
  α := AlM
  obs := fun s => obsM fa fn ex s.heap.get?
  val := fun _ => (He.valD fn, true)
  says := fun _ h => ∃ K : PySem.W.Frag, K.In h ∧ SaysM fa fn ex K
  of := fun _ _ e => saysM_of e
  keeps := fun _ _ _ ⟨K, hK, c⟩ k => ⟨K, PySem.W.Frag.In.keeps hK k, c⟩
theorem obsM_eq {fa : List He.Fa} {fn : List He.DefD} {ex : PySem.W.Frag → Bool} {g : Addr → Option Obj} {s : Shared} (h : ∀ a, g a = s.heap.get? a) : obsM fa fn ex g = (hookM fa fn ex).obs s := by
  have e : g = s.heap.get? := funext h
  rw [e] <;> rfl
/-- two looks at one run -/
theorem map2 {α β γ : Type} {o : Option α} {f : α → β} {g : α → γ} {b : β} {c : γ} (h1 : o.map f = some b) (h2 : o.map g = some c) : o.map (fun s => (f s, g s)) = some (b, c) := by
  cases o with
  | none => cases h1
  | some s =>
    cases h1
    cases h2
    rfl
theorem run_split {r : PySem.W.OpenRow} {q : Program} {H : PySem.W.Hook} {ob : PySem.W.SharedT → H.α} {M : Nat} {loose : List PySem.Str} {w : World}
    (h1 : ∀ os : OsState, (HandSHeadRun.endF (HandSHeadRun.stepQ (HandSHeadRun.denQ HandSHeadRun.tabQ) r.prog w) M r.prog w os).map (fun s => (HandSHeadRun.looksF r.prog (PySem.W.boot_heap w.params) s.abs, HandSHeadRun.seenQ q loose (PySem.importedModules r.prog.main.body) (fun s => PySem.W.xlAt q [] s && PySem.W.recOk r.toRowW.records s) s.abs)) = some (true, PySem.W.openGood q loose))
    (h2 : ∀ os : OsState, (HandSHeadRun.endF (HandSHeadRun.stepQ (HandSHeadRun.denQ HandSHeadRun.tabQ) r.prog w) M r.prog w os).map ob = some (H.val w)) : HandSHeadRun.RunEq r q H ob M loose w := by
  intro os
  have e := map2 (h1 os) (h2 os)
  cases o : HandSHeadRun.endF (HandSHeadRun.stepQ (HandSHeadRun.denQ HandSHeadRun.tabQ) r.prog w) M r.prog w os with
  | none => rw [o] at e; cases e
  | some s =>
    rw [o] at e
    have e1 := Option.some.inj e
    obtain ⟨e2, e3⟩ := Prod.mk.inj e1
    obtain ⟨e4, e5⟩ := Prod.mk.inj e2
    exact congrArg some (Prod.ext e4 (Prod.ext e5 e3))
end TR
namespace TR
open PySem L2
def top (i : Nat) : Stmt := PySem.Challenge.pw_tuneroad_k33_whole_sounds.main.body.getD i (.Pass ⟨0, 0, 0, 0⟩)
abbrev s_wall : Stmt := top 0
abbrev N_wall : List Str := ["k"]
abbrev P_wall : List Str := ["k"]
theorem sc_wall : FnScope N_wall P_wall (defScope s_wall) := ⟨rfl, rfl, rfl, by decide +kernel, rfl, by decide +kernel, by decide +kernel⟩
abbrev s_Dice_init__ : Stmt := inClass (top 12) 0
abbrev N_Dice_init__ : List Str := ["self", "seed"]
abbrev P_Dice_init__ : List Str := ["self", "seed"]
theorem sc_Dice_init__ : FnScope N_Dice_init__ P_Dice_init__ (defScope s_Dice_init__) := ⟨rfl, rfl, rfl, by decide +kernel, rfl, by decide +kernel, by decide +kernel⟩
abbrev s_Dice_below : Stmt := inClass (top 12) 1
abbrev N_Dice_below : List Str := ["self", "many"]
abbrev P_Dice_below : List Str := ["self", "many"]
theorem sc_Dice_below : FnScope N_Dice_below P_Dice_below (defScope s_Dice_below) := ⟨rfl, rfl, rfl, by decide +kernel, rfl, by decide +kernel, by decide +kernel⟩
abbrev s_Dice_twin : Stmt := inClass (top 12) 2
abbrev N_Dice_twin : List Str := ["self"]
abbrev P_Dice_twin : List Str := ["self"]
theorem sc_Dice_twin : FnScope N_Dice_twin P_Dice_twin (defScope s_Dice_twin) := ⟨rfl, rfl, rfl, by decide +kernel, rfl, by decide +kernel, by decide +kernel⟩
abbrev s_mixed : Stmt := top 13
abbrev N_mixed : List Str := ["dice", "some", "found", "k", "other"]
abbrev P_mixed : List Str := ["dice", "some"]
theorem sc_mixed : FnScope N_mixed P_mixed (defScope s_mixed) := ⟨rfl, rfl, rfl, by decide +kernel, rfl, by decide +kernel, by decide +kernel⟩
abbrev s_Queue_init__ : Stmt := inClass (top 16) 0
abbrev N_Queue_init__ : List Str := ["self"]
abbrev P_Queue_init__ : List Str := ["self"]
theorem sc_Queue_init__ : FnScope N_Queue_init__ P_Queue_init__ (defScope s_Queue_init__) := ⟨rfl, rfl, rfl, by decide +kernel, rfl, by decide +kernel, by decide +kernel⟩
abbrev s_Queue_entries : Stmt := inClass (top 16) 1
abbrev N_Queue_entries : List Str := ["self"]
abbrev P_Queue_entries : List Str := ["self"]
theorem sc_Queue_entries : FnScope N_Queue_entries P_Queue_entries (defScope s_Queue_entries) := ⟨rfl, rfl, rfl, by decide +kernel, rfl, by decide +kernel, by decide +kernel⟩
abbrev s_Queue_need : Stmt := inClass (top 16) 2
abbrev N_Queue_need : List Str := ["self", "entry"]
abbrev P_Queue_need : List Str := ["self", "entry"]
theorem sc_Queue_need : FnScope N_Queue_need P_Queue_need (defScope s_Queue_need) := ⟨rfl, rfl, rfl, by decide +kernel, rfl, by decide +kernel, by decide +kernel⟩
abbrev s_Queue_tune : Stmt := inClass (top 16) 3
abbrev N_Queue_tune : List Str := ["self", "entry"]
abbrev P_Queue_tune : List Str := ["self", "entry"]
theorem sc_Queue_tune : FnScope N_Queue_tune P_Queue_tune (defScope s_Queue_tune) := ⟨rfl, rfl, rfl, by decide +kernel, rfl, by decide +kernel, by decide +kernel⟩
abbrev s_Queue_put : Stmt := inClass (top 16) 4
abbrev N_Queue_put : List Str := ["self", "name", "place"]
abbrev P_Queue_put : List Str := ["self", "name", "place"]
theorem sc_Queue_put : FnScope N_Queue_put P_Queue_put (defScope s_Queue_put) := ⟨rfl, rfl, rfl, by decide +kernel, rfl, by decide +kernel, by decide +kernel⟩
abbrev s_Queue_remove : Stmt := inClass (top 16) 5
abbrev N_Queue_remove : List Str := ["self", "entry"]
abbrev P_Queue_remove : List Str := ["self", "entry"]
theorem sc_Queue_remove : FnScope N_Queue_remove P_Queue_remove (defScope s_Queue_remove) := ⟨rfl, rfl, rfl, by decide +kernel, rfl, by decide +kernel, by decide +kernel⟩
abbrev s_Queue_move : Stmt := inClass (top 16) 6
abbrev N_Queue_move : List Str := ["self", "entry", "place"]
abbrev P_Queue_move : List Str := ["self", "entry", "place"]
theorem sc_Queue_move : FnScope N_Queue_move P_Queue_move (defScope s_Queue_move) := ⟨rfl, rfl, rfl, by decide +kernel, rfl, by decide +kernel, by decide +kernel⟩
abbrev s_Queue_place : Stmt := inClass (top 16) 7
abbrev N_Queue_place : List Str := ["self", "entry"]
abbrev P_Queue_place : List Str := ["self", "entry"]
theorem sc_Queue_place : FnScope N_Queue_place P_Queue_place (defScope s_Queue_place) := ⟨rfl, rfl, rfl, by decide +kernel, rfl, by decide +kernel, by decide +kernel⟩
abbrev s_Queue_twin : Stmt := inClass (top 16) 8
abbrev N_Queue_twin : List Str := ["self", "found"]
abbrev P_Queue_twin : List Str := ["self"]
theorem sc_Queue_twin : FnScope N_Queue_twin P_Queue_twin (defScope s_Queue_twin) := ⟨rfl, rfl, rfl, by decide +kernel, rfl, by decide +kernel, by decide +kernel⟩
abbrev s_Order_init__ : Stmt := inClass (top 19) 0
abbrev N_Order_init__ : List Str := ["self", "seed"]
abbrev P_Order_init__ : List Str := ["self", "seed"]
theorem sc_Order_init__ : FnScope N_Order_init__ P_Order_init__ (defScope s_Order_init__) := ⟨rfl, rfl, rfl, by decide +kernel, rfl, by decide +kernel, by decide +kernel⟩
abbrev s_Order_set_again : Stmt := inClass (top 19) 1
abbrev N_Order_set_again : List Str := ["self", "word"]
abbrev P_Order_set_again : List Str := ["self", "word"]
theorem sc_Order_set_again : FnScope N_Order_set_again P_Order_set_again (defScope s_Order_set_again) := ⟨rfl, rfl, rfl, by decide +kernel, rfl, by decide +kernel, by decide +kernel⟩
abbrev s_Order_set_mixed : Stmt := inClass (top 19) 2
abbrev N_Order_set_mixed : List Str := ["self", "is_mixed", "entry"]
abbrev P_Order_set_mixed : List Str := ["self", "is_mixed", "entry"]
theorem sc_Order_set_mixed : FnScope N_Order_set_mixed P_Order_set_mixed (defScope s_Order_set_mixed) := ⟨rfl, rfl, rfl, by decide +kernel, rfl, by decide +kernel, by decide +kernel⟩
abbrev s_Order_put : Stmt := inClass (top 19) 3
abbrev N_Order_put : List Str := ["self", "name", "place", "found"]
abbrev P_Order_put : List Str := ["self", "name", "place"]
theorem sc_Order_put : FnScope N_Order_put P_Order_put (defScope s_Order_put) := ⟨rfl, rfl, rfl, by decide +kernel, rfl, by decide +kernel, by decide +kernel⟩
abbrev s_Order_remove : Stmt := inClass (top 19) 4
abbrev N_Order_remove : List Str := ["self", "entry", "now", "later"]
abbrev P_Order_remove : List Str := ["self", "entry", "now"]
theorem sc_Order_remove : FnScope N_Order_remove P_Order_remove (defScope s_Order_remove) := ⟨rfl, rfl, rfl, by decide +kernel, rfl, by decide +kernel, by decide +kernel⟩
abbrev s_Order_next_plain : Stmt := inClass (top 19) 5
abbrev N_Order_next_plain : List Str := ["self", "entry", "every", "place"]
abbrev P_Order_next_plain : List Str := ["self", "entry"]
theorem sc_Order_next_plain : FnScope N_Order_next_plain P_Order_next_plain (defScope s_Order_next_plain) := ⟨rfl, rfl, rfl, by decide +kernel, rfl, by decide +kernel, by decide +kernel⟩
abbrev s_Order_next_mixed : Stmt := inClass (top 19) 6
abbrev N_Order_next_mixed : List Str := ["self", "entry"]
abbrev P_Order_next_mixed : List Str := ["self", "entry"]
theorem sc_Order_next_mixed : FnScope N_Order_next_mixed P_Order_next_mixed (defScope s_Order_next_mixed) := ⟨rfl, rfl, rfl, by decide +kernel, rfl, by decide +kernel, by decide +kernel⟩
abbrev s_Order_after : Stmt := inClass (top 19) 7
abbrev N_Order_after : List Str := ["self", "entry"]
abbrev P_Order_after : List Str := ["self", "entry"]
theorem sc_Order_after : FnScope N_Order_after P_Order_after (defScope s_Order_after) := ⟨rfl, rfl, rfl, by decide +kernel, rfl, by decide +kernel, by decide +kernel⟩
abbrev s_Order_skip : Stmt := inClass (top 19) 8
abbrev N_Order_skip : List Str := ["self", "entry"]
abbrev P_Order_skip : List Str := ["self", "entry"]
theorem sc_Order_skip : FnScope N_Order_skip P_Order_skip (defScope s_Order_skip) := ⟨rfl, rfl, rfl, by decide +kernel, rfl, by decide +kernel, by decide +kernel⟩
abbrev s_Order_first : Stmt := inClass (top 19) 9
abbrev N_Order_first : List Str := ["self"]
abbrev P_Order_first : List Str := ["self"]
theorem sc_Order_first : FnScope N_Order_first P_Order_first (defScope s_Order_first) := ⟨rfl, rfl, rfl, by decide +kernel, rfl, by decide +kernel, by decide +kernel⟩
abbrev s_Order_began : Stmt := inClass (top 19) 10
abbrev N_Order_began : List Str := ["self", "entry"]
abbrev P_Order_began : List Str := ["self", "entry"]
theorem sc_Order_began : FnScope N_Order_began P_Order_began (defScope s_Order_began) := ⟨rfl, rfl, rfl, by decide +kernel, rfl, by decide +kernel, by decide +kernel⟩
abbrev s_Order_twin : Stmt := inClass (top 19) 11
abbrev N_Order_twin : List Str := ["self", "found"]
abbrev P_Order_twin : List Str := ["self"]
theorem sc_Order_twin : FnScope N_Order_twin P_Order_twin (defScope s_Order_twin) := ⟨rfl, rfl, rfl, by decide +kernel, rfl, by decide +kernel, by decide +kernel⟩
abbrev s_Player_init__ : Stmt := inClass (top 23) 0
abbrev N_Player_init__ : List Str := ["self", "shelf", "overlap", "seed"]
abbrev P_Player_init__ : List Str := ["self", "shelf", "overlap", "seed"]
theorem sc_Player_init__ : FnScope N_Player_init__ P_Player_init__ (defScope s_Player_init__) := ⟨rfl, rfl, rfl, by decide +kernel, rfl, by decide +kernel, by decide +kernel⟩
abbrev s_Player_long : Stmt := inClass (top 23) 1
abbrev N_Player_long : List Str := ["self", "entry"]
abbrev P_Player_long : List Str := ["self", "entry"]
theorem sc_Player_long : FnScope N_Player_long P_Player_long (defScope s_Player_long) := ⟨rfl, rfl, rfl, by decide +kernel, rfl, by decide +kernel, by decide +kernel⟩
abbrev s_Player_add : Stmt := inClass (top 23) 2
abbrev N_Player_add : List Str := ["self", "name", "place"]
abbrev P_Player_add : List Str := ["self", "name", "place"]
theorem sc_Player_add : FnScope N_Player_add P_Player_add (defScope s_Player_add) := ⟨rfl, rfl, rfl, by decide +kernel, rfl, by decide +kernel, by decide +kernel⟩
abbrev s_Player_remove : Stmt := inClass (top 23) 3
abbrev N_Player_remove : List Str := ["self", "entry", "one"]
abbrev P_Player_remove : List Str := ["self", "entry"]
theorem sc_Player_remove : FnScope N_Player_remove P_Player_remove (defScope s_Player_remove) := ⟨rfl, rfl, rfl, by decide +kernel, rfl, by decide +kernel, by decide +kernel⟩
abbrev s_Player_move : Stmt := inClass (top 23) 4
abbrev N_Player_move : List Str := ["self", "entry", "place"]
abbrev P_Player_move : List Str := ["self", "entry", "place"]
theorem sc_Player_move : FnScope N_Player_move P_Player_move (defScope s_Player_move) := ⟨rfl, rfl, rfl, by decide +kernel, rfl, by decide +kernel, by decide +kernel⟩
abbrev s_Player_play_soon : Stmt := inClass (top 23) 5
abbrev N_Player_play_soon : List Str := ["self", "entry"]
abbrev P_Player_play_soon : List Str := ["self", "entry"]
theorem sc_Player_play_soon : FnScope N_Player_play_soon P_Player_play_soon (defScope s_Player_play_soon) := ⟨rfl, rfl, rfl, by decide +kernel, rfl, by decide +kernel, by decide +kernel⟩
abbrev s_Player_entries : Stmt := inClass (top 23) 6
abbrev N_Player_entries : List Str := ["self"]
abbrev P_Player_entries : List Str := ["self"]
theorem sc_Player_entries : FnScope N_Player_entries P_Player_entries (defScope s_Player_entries) := ⟨rfl, rfl, rfl, by decide +kernel, rfl, by decide +kernel, by decide +kernel⟩
abbrev s_Player_tune : Stmt := inClass (top 23) 7
abbrev N_Player_tune : List Str := ["self", "entry"]
abbrev P_Player_tune : List Str := ["self", "entry"]
theorem sc_Player_tune : FnScope N_Player_tune P_Player_tune (defScope s_Player_tune) := ⟨rfl, rfl, rfl, by decide +kernel, rfl, by decide +kernel, by decide +kernel⟩
abbrev s_Player_set_again : Stmt := inClass (top 23) 8
abbrev N_Player_set_again : List Str := ["self", "word"]
abbrev P_Player_set_again : List Str := ["self", "word"]
theorem sc_Player_set_again : FnScope N_Player_set_again P_Player_set_again (defScope s_Player_set_again) := ⟨rfl, rfl, rfl, by decide +kernel, rfl, by decide +kernel, by decide +kernel⟩
abbrev s_Player_set_mixed : Stmt := inClass (top 23) 9
abbrev N_Player_set_mixed : List Str := ["self", "is_mixed"]
abbrev P_Player_set_mixed : List Str := ["self", "is_mixed"]
theorem sc_Player_set_mixed : FnScope N_Player_set_mixed P_Player_set_mixed (defScope s_Player_set_mixed) := ⟨rfl, rfl, rfl, by decide +kernel, rfl, by decide +kernel, by decide +kernel⟩
abbrev s_Player_begin : Stmt := inClass (top 23) 10
abbrev N_Player_begin : List Str := ["self", "entry", "is_joined"]
abbrev P_Player_begin : List Str := ["self", "entry", "is_joined"]
theorem sc_Player_begin : FnScope N_Player_begin P_Player_begin (defScope s_Player_begin) := ⟨rfl, rfl, rfl, by decide +kernel, rfl, by decide +kernel, by decide +kernel⟩
abbrev s_Player_play : Stmt := inClass (top 23) 11
abbrev N_Player_play : List Str := ["self", "entry"]
abbrev P_Player_play : List Str := ["self", "entry"]
theorem sc_Player_play : FnScope N_Player_play P_Player_play (defScope s_Player_play) := ⟨rfl, rfl, rfl, by decide +kernel, rfl, by decide +kernel, by decide +kernel⟩
abbrev s_Player_resume : Stmt := inClass (top 23) 12
abbrev N_Player_resume : List Str := ["self", "found"]
abbrev P_Player_resume : List Str := ["self"]
theorem sc_Player_resume : FnScope N_Player_resume P_Player_resume (defScope s_Player_resume) := ⟨rfl, rfl, rfl, by decide +kernel, rfl, by decide +kernel, by decide +kernel⟩
abbrev s_Player_pause : Stmt := inClass (top 23) 13
abbrev N_Player_pause : List Str := ["self"]
abbrev P_Player_pause : List Str := ["self"]
theorem sc_Player_pause : FnScope N_Player_pause P_Player_pause (defScope s_Player_pause) := ⟨rfl, rfl, rfl, by decide +kernel, rfl, by decide +kernel, by decide +kernel⟩
abbrev s_Player_next_entry : Stmt := inClass (top 23) 14
abbrev N_Player_next_entry : List Str := ["self", "is_left"]
abbrev P_Player_next_entry : List Str := ["self", "is_left"]
theorem sc_Player_next_entry : FnScope N_Player_next_entry P_Player_next_entry (defScope s_Player_next_entry) := ⟨rfl, rfl, rfl, by decide +kernel, rfl, by decide +kernel, by decide +kernel⟩
abbrev s_Player_skip : Stmt := inClass (top 23) 15
abbrev N_Player_skip : List Str := ["self", "found"]
abbrev P_Player_skip : List Str := ["self"]
theorem sc_Player_skip : FnScope N_Player_skip P_Player_skip (defScope s_Player_skip) := ⟨rfl, rfl, rfl, by decide +kernel, rfl, by decide +kernel, by decide +kernel⟩
abbrev s_Player_back : Stmt := inClass (top 23) 16
abbrev N_Player_back : List Str := ["self"]
abbrev P_Player_back : List Str := ["self"]
theorem sc_Player_back : FnScope N_Player_back P_Player_back (defScope s_Player_back) := ⟨rfl, rfl, rfl, by decide +kernel, rfl, by decide +kernel, by decide +kernel⟩
abbrev s_Player_seek : Stmt := inClass (top 23) 17
abbrev N_Player_seek : List Str := ["self", "spot"]
abbrev P_Player_seek : List Str := ["self", "spot"]
theorem sc_Player_seek : FnScope N_Player_seek P_Player_seek (defScope s_Player_seek) := ⟨rfl, rfl, rfl, by decide +kernel, rfl, by decide +kernel, by decide +kernel⟩
abbrev s_Player_stop_behind : Stmt := inClass (top 23) 18
abbrev N_Player_stop_behind : List Str := ["self", "is_so"]
abbrev P_Player_stop_behind : List Str := ["self", "is_so"]
theorem sc_Player_stop_behind : FnScope N_Player_stop_behind P_Player_stop_behind (defScope s_Player_stop_behind) := ⟨rfl, rfl, rfl, by decide +kernel, rfl, by decide +kernel, by decide +kernel⟩
abbrev s_Player_sleep : Stmt := inClass (top 23) 19
abbrev N_Player_sleep : List Str := ["self", "many"]
abbrev P_Player_sleep : List Str := ["self", "many"]
theorem sc_Player_sleep : FnScope N_Player_sleep P_Player_sleep (defScope s_Player_sleep) := ⟨rfl, rfl, rfl, by decide +kernel, rfl, by decide +kernel, by decide +kernel⟩
abbrev s_Player_join_long : Stmt := inClass (top 23) 20
abbrev N_Player_join_long : List Str := ["self", "entry"]
abbrev P_Player_join_long : List Str := ["self", "entry"]
theorem sc_Player_join_long : FnScope N_Player_join_long P_Player_join_long (defScope s_Player_join_long) := ⟨rfl, rfl, rfl, by decide +kernel, rfl, by decide +kernel, by decide +kernel⟩
abbrev s_Player_step : Stmt := inClass (top 23) 21
abbrev N_Player_step : List Str := ["self", "entry", "spot", "left"]
abbrev P_Player_step : List Str := ["self"]
theorem sc_Player_step : FnScope N_Player_step P_Player_step (defScope s_Player_step) := ⟨rfl, rfl, rfl, by decide +kernel, rfl, by decide +kernel, by decide +kernel⟩
abbrev s_Player_turn_over : Stmt := inClass (top 23) 22
abbrev N_Player_turn_over : List Str := ["self", "long", "found"]
abbrev P_Player_turn_over : List Str := ["self"]
theorem sc_Player_turn_over : FnScope N_Player_turn_over P_Player_turn_over (defScope s_Player_turn_over) := ⟨rfl, rfl, rfl, by decide +kernel, rfl, by decide +kernel, by decide +kernel⟩
abbrev s_Player_tick : Stmt := inClass (top 23) 23
abbrev N_Player_tick : List Str := ["self", "many", "k"]
abbrev P_Player_tick : List Str := ["self", "many"]
theorem sc_Player_tick : FnScope N_Player_tick P_Player_tick (defScope s_Player_tick) := ⟨rfl, rfl, rfl, by decide +kernel, rfl, by decide +kernel, by decide +kernel⟩
abbrev s_Player_state : Stmt := inClass (top 23) 24
abbrev N_Player_state : List Str := ["self"]
abbrev P_Player_state : List Str := ["self"]
theorem sc_Player_state : FnScope N_Player_state P_Player_state (defScope s_Player_state) := ⟨rfl, rfl, rfl, by decide +kernel, rfl, by decide +kernel, by decide +kernel⟩
abbrev s_Player_sounds : Stmt := inClass (top 23) 25
abbrev N_Player_sounds : List Str := ["self", "entry", "spot", "whole", "left"]
abbrev P_Player_sounds : List Str := ["self"]
theorem sc_Player_sounds : FnScope N_Player_sounds P_Player_sounds (defScope s_Player_sounds) := ⟨rfl, rfl, rfl, by decide +kernel, rfl, by decide +kernel, by decide +kernel⟩
abbrev s_Player_log : Stmt := inClass (top 23) 26
abbrev N_Player_log : List Str := ["self"]
abbrev P_Player_log : List Str := ["self"]
theorem sc_Player_log : FnScope N_Player_log P_Player_log (defScope s_Player_log) := ⟨rfl, rfl, rfl, by decide +kernel, rfl, by decide +kernel, by decide +kernel⟩
abbrev s_Player_ticks : Stmt := inClass (top 23) 27
abbrev N_Player_ticks : List Str := ["self"]
abbrev P_Player_ticks : List Str := ["self"]
theorem sc_Player_ticks : FnScope N_Player_ticks P_Player_ticks (defScope s_Player_ticks) := ⟨rfl, rfl, rfl, by decide +kernel, rfl, by decide +kernel, by decide +kernel⟩
abbrev s_Player_ahead : Stmt := inClass (top 23) 28
abbrev N_Player_ahead : List Str := ["self", "many"]
abbrev P_Player_ahead : List Str := ["self", "many"]
theorem sc_Player_ahead : FnScope N_Player_ahead P_Player_ahead (defScope s_Player_ahead) := ⟨rfl, rfl, rfl, by decide +kernel, rfl, by decide +kernel, by decide +kernel⟩
abbrev s_Player_twin : Stmt := inClass (top 23) 29
abbrev N_Player_twin : List Str := ["self", "found"]
abbrev P_Player_twin : List Str := ["self"]
theorem sc_Player_twin : FnScope N_Player_twin P_Player_twin (defScope s_Player_twin) := ⟨rfl, rfl, rfl, by decide +kernel, rfl, by decide +kernel, by decide +kernel⟩
abbrev s_look_name : Stmt := top 29
abbrev N_look_name : List Str := ["name", "sign"]
abbrev P_look_name : List Str := ["name"]
theorem sc_look_name : FnScope N_look_name P_look_name (defScope s_look_name) := ⟨rfl, rfl, rfl, by decide +kernel, rfl, by decide +kernel, by decide +kernel⟩
abbrev s_Shelf_init__ : Stmt := inClass (top 30) 0
abbrev N_Shelf_init__ : List Str := ["self"]
abbrev P_Shelf_init__ : List Str := ["self"]
theorem sc_Shelf_init__ : FnScope N_Shelf_init__ P_Shelf_init__ (defScope s_Shelf_init__) := ⟨rfl, rfl, rfl, by decide +kernel, rfl, by decide +kernel, by decide +kernel⟩
abbrev s_Shelf_add : Stmt := inClass (top 30) 1
abbrev N_Shelf_add : List Str := ["self", "name", "long"]
abbrev P_Shelf_add : List Str := ["self", "name", "long"]
theorem sc_Shelf_add : FnScope N_Shelf_add P_Shelf_add (defScope s_Shelf_add) := ⟨rfl, rfl, rfl, by decide +kernel, rfl, by decide +kernel, by decide +kernel⟩
abbrev s_Shelf_need : Stmt := inClass (top 30) 2
abbrev N_Shelf_need : List Str := ["self", "name"]
abbrev P_Shelf_need : List Str := ["self", "name"]
theorem sc_Shelf_need : FnScope N_Shelf_need P_Shelf_need (defScope s_Shelf_need) := ⟨rfl, rfl, rfl, by decide +kernel, rfl, by decide +kernel, by decide +kernel⟩
abbrev s_Shelf_long : Stmt := inClass (top 30) 3
abbrev N_Shelf_long : List Str := ["self", "name"]
abbrev P_Shelf_long : List Str := ["self", "name"]
theorem sc_Shelf_long : FnScope N_Shelf_long P_Shelf_long (defScope s_Shelf_long) := ⟨rfl, rfl, rfl, by decide +kernel, rfl, by decide +kernel, by decide +kernel⟩
abbrev s_Shelf_names : Stmt := inClass (top 30) 4
abbrev N_Shelf_names : List Str := ["self"]
abbrev P_Shelf_names : List Str := ["self"]
theorem sc_Shelf_names : FnScope N_Shelf_names P_Shelf_names (defScope s_Shelf_names) := ⟨rfl, rfl, rfl, by decide +kernel, rfl, by decide +kernel, by decide +kernel⟩
abbrev s_law_cell : Stmt := top 32
abbrev N_law_cell : List Str := ["script", "k"]
abbrev P_law_cell : List Str := ["script", "k"]
theorem sc_law_cell : FnScope N_law_cell P_law_cell (defScope s_law_cell) := ⟨rfl, rfl, rfl, by decide +kernel, rfl, by decide +kernel, by decide +kernel⟩
abbrev s_law_mix : Stmt := top 33
abbrev N_law_mix : List Str := ["script", "k", "number"]
abbrev P_law_mix : List Str := ["script", "k"]
theorem sc_law_mix : FnScope N_law_mix P_law_mix (defScope s_law_mix) := ⟨rfl, rfl, rfl, by decide +kernel, rfl, by decide +kernel, by decide +kernel⟩
abbrev s_law_draw : Stmt := top 34
abbrev N_law_draw : List Str := ["script", "town", "many"]
abbrev P_law_draw : List Str := ["script", "town", "many"]
theorem sc_law_draw : FnScope N_law_draw P_law_draw (defScope s_law_draw) := ⟨rfl, rfl, rfl, by decide +kernel, rfl, by decide +kernel, by decide +kernel⟩
abbrev s_law_pick : Stmt := top 35
abbrev N_law_pick : List Str := ["script", "town", "some"]
abbrev P_law_pick : List Str := ["script", "town", "some"]
theorem sc_law_pick : FnScope N_law_pick P_law_pick (defScope s_law_pick) := ⟨rfl, rfl, rfl, by decide +kernel, rfl, by decide +kernel, by decide +kernel⟩
abbrev s_law_shelf : Stmt := top 36
abbrev N_law_shelf : List Str := ["script", "town", "found", "name"]
abbrev P_law_shelf : List Str := ["script", "town"]
theorem sc_law_shelf : FnScope N_law_shelf P_law_shelf (defScope s_law_shelf) := ⟨rfl, rfl, rfl, by decide +kernel, rfl, by decide +kernel, by decide +kernel⟩
abbrev s_law_made : Stmt := top 37
abbrev N_law_made : List Str := ["longs", "found", "name"]
abbrev P_law_made : List Str := ["longs"]
theorem sc_law_made : FnScope N_law_made P_law_made (defScope s_law_made) := ⟨rfl, rfl, rfl, by decide +kernel, rfl, by decide +kernel, by decide +kernel⟩
abbrev s_law_begins : Stmt := top 38
abbrev N_law_begins : List Str := ["entries", "overlap", "is_again", "last", "found", "at", "k", "entry", "long", "other", "is_end"]
abbrev P_law_begins : List Str := ["entries", "overlap", "is_again", "last"]
theorem sc_law_begins : FnScope N_law_begins P_law_begins (defScope s_law_begins) := ⟨rfl, rfl, rfl, by decide +kernel, rfl, by decide +kernel, by decide +kernel⟩
abbrev s_law : Stmt := top 39
abbrev N_law : List Str := ["script", "town", "longs", "overlap", "player", "entries", "k", "name", "is_again", "last", "due", "seen", "longs_of", "overs", "some", "first", "end", "row"]
abbrev P_law : List Str := ["script"]
theorem sc_law : FnScope N_law P_law (defScope s_law) := ⟨rfl, rfl, rfl, by decide +kernel, rfl, by decide +kernel, by decide +kernel⟩
end TR
namespace TR
open PySem L2
structure Ads where
  c_RoadError : Addr
  c_BadTune : Addr
  c_BadNumber : Addr
  c_BadEntry : Addr
  c_BadWord : Addr
  c_Dice : Addr
  c_Queue : Addr
  c_Order : Addr
  c_Player : Addr
  c_Shelf : Addr
  f_wall : Addr
  f_Dice_init__ : Addr
  f_Dice_below : Addr
  f_Dice_twin : Addr
  f_mixed : Addr
  f_Queue_init__ : Addr
  f_Queue_entries : Addr
  f_Queue_need : Addr
  f_Queue_tune : Addr
  f_Queue_put : Addr
  f_Queue_remove : Addr
  f_Queue_move : Addr
  f_Queue_place : Addr
  f_Queue_twin : Addr
  f_Order_init__ : Addr
  f_Order_set_again : Addr
  f_Order_set_mixed : Addr
  f_Order_put : Addr
  f_Order_remove : Addr
  f_Order_next_plain : Addr
  f_Order_next_mixed : Addr
  f_Order_after : Addr
  f_Order_skip : Addr
  f_Order_first : Addr
  f_Order_began : Addr
  f_Order_twin : Addr
  f_Player_init__ : Addr
  f_Player_long : Addr
  f_Player_add : Addr
  f_Player_remove : Addr
  f_Player_move : Addr
  f_Player_play_soon : Addr
  f_Player_entries : Addr
  f_Player_tune : Addr
  f_Player_set_again : Addr
  f_Player_set_mixed : Addr
  f_Player_begin : Addr
  f_Player_play : Addr
  f_Player_resume : Addr
  f_Player_pause : Addr
  f_Player_next_entry : Addr
  f_Player_skip : Addr
  f_Player_back : Addr
  f_Player_seek : Addr
  f_Player_stop_behind : Addr
  f_Player_sleep : Addr
  f_Player_join_long : Addr
  f_Player_step : Addr
  f_Player_turn_over : Addr
  f_Player_tick : Addr
  f_Player_state : Addr
  f_Player_sounds : Addr
  f_Player_log : Addr
  f_Player_ticks : Addr
  f_Player_ahead : Addr
  f_Player_twin : Addr
  f_look_name : Addr
  f_Shelf_init__ : Addr
  f_Shelf_add : Addr
  f_Shelf_need : Addr
  f_Shelf_long : Addr
  f_Shelf_names : Addr
  f_law_cell : Addr
  f_law_mix : Addr
  f_law_draw : Addr
  f_law_pick : Addr
  f_law_shelf : Addr
  f_law_made : Addr
  f_law_begins : Addr
  f_law : Addr
  o_REPEATS : Addr
  d_wall : FuncData
  d_Dice_init__ : FuncData
  d_Dice_below : FuncData
  d_Dice_twin : FuncData
  d_mixed : FuncData
  d_Queue_init__ : FuncData
  d_Queue_entries : FuncData
  d_Queue_need : FuncData
  d_Queue_tune : FuncData
  d_Queue_put : FuncData
  d_Queue_remove : FuncData
  d_Queue_move : FuncData
  d_Queue_place : FuncData
  d_Queue_twin : FuncData
  d_Order_init__ : FuncData
  d_Order_set_again : FuncData
  d_Order_set_mixed : FuncData
  d_Order_put : FuncData
  d_Order_remove : FuncData
  d_Order_next_plain : FuncData
  d_Order_next_mixed : FuncData
  d_Order_after : FuncData
  d_Order_skip : FuncData
  d_Order_first : FuncData
  d_Order_began : FuncData
  d_Order_twin : FuncData
  d_Player_init__ : FuncData
  d_Player_long : FuncData
  d_Player_add : FuncData
  d_Player_remove : FuncData
  d_Player_move : FuncData
  d_Player_play_soon : FuncData
  d_Player_entries : FuncData
  d_Player_tune : FuncData
  d_Player_set_again : FuncData
  d_Player_set_mixed : FuncData
  d_Player_begin : FuncData
  d_Player_play : FuncData
  d_Player_resume : FuncData
  d_Player_pause : FuncData
  d_Player_next_entry : FuncData
  d_Player_skip : FuncData
  d_Player_back : FuncData
  d_Player_seek : FuncData
  d_Player_stop_behind : FuncData
  d_Player_sleep : FuncData
  d_Player_join_long : FuncData
  d_Player_step : FuncData
  d_Player_turn_over : FuncData
  d_Player_tick : FuncData
  d_Player_state : FuncData
  d_Player_sounds : FuncData
  d_Player_log : FuncData
  d_Player_ticks : FuncData
  d_Player_ahead : FuncData
  d_Player_twin : FuncData
  d_look_name : FuncData
  d_Shelf_init__ : FuncData
  d_Shelf_add : FuncData
  d_Shelf_need : FuncData
  d_Shelf_long : FuncData
  d_Shelf_names : FuncData
  d_law_cell : FuncData
  d_law_mix : FuncData
  d_law_draw : FuncData
  d_law_pick : FuncData
  d_law_shelf : FuncData
  d_law_made : FuncData
  d_law_begins : FuncData
  d_law : FuncData
structure Txt (K : PySem.W.Frag) (mg : Str → Option Value) (A : Ads) : Prop where
  z_all : mg "all" = none
  z_any : mg "any" = none
  z_dict : mg "dict" = none
  z_len : mg "len" = none
  z_list : mg "list" = none
  z_min : mg "min" = none
  z_range : mg "range" = none
  gi_WHEEL : ∃ t, mg "WHEEL" = some (.int 6075 t)
  gi_TIMES : ∃ t, mg "TIMES" = some (.int 106 t)
  gi_MORE : ∃ t, mg "MORE" = some (.int 1283 t)
  gi_MOST : ∃ t, mg "MOST" = some (.int 60 t)
  gi_MOST_ENTRIES : ∃ t, mg "MOST_ENTRIES" = some (.int 12 t)
  gi_REPEATS : mg "REPEATS" = some (.ref A.o_REPEATS)
  tu_REPEATS : ∀ H : Hp, SqT K H A.o_REPEATS [.str "none", .str "all", .str "one"]
  gi_MOST_OVERLAP : ∃ t, mg "MOST_OVERLAP" = some (.int 9 t)
  gi_MOST_TICKS : ∃ t, mg "MOST_TICKS" = some (.int 200 t)
  gi_SMALL : ∃ t, mg "SMALL" = some (.str "abcdefghijklmnopqrstuvwxyz" t)
  gi_MOST_NAME : ∃ t, mg "MOST_NAME" = some (.int 6 t)
  gi_MOST_TUNES : ∃ t, mg "MOST_TUNES" = some (.int 6 t)
  gi_MOST_LONG : ∃ t, mg "MOST_LONG" = some (.int 40 t)
  g_RoadError : mg "RoadError" = some (.ref A.c_RoadError)
  g_BadTune : mg "BadTune" = some (.ref A.c_BadTune)
  g_BadNumber : mg "BadNumber" = some (.ref A.c_BadNumber)
  g_BadEntry : mg "BadEntry" = some (.ref A.c_BadEntry)
  g_BadWord : mg "BadWord" = some (.ref A.c_BadWord)
  g_Dice : mg "Dice" = some (.ref A.c_Dice)
  g_Queue : mg "Queue" = some (.ref A.c_Queue)
  g_Order : mg "Order" = some (.ref A.c_Order)
  g_Player : mg "Player" = some (.ref A.c_Player)
  g_Shelf : mg "Shelf" = some (.ref A.c_Shelf)
  c_Dice : Cls K A.c_Dice
  M_Dice : Mk K A.c_Dice A.f_Dice_init__
  n_Dice_number : NoAttr K A.c_Dice "number"
  c_Queue : Cls K A.c_Queue
  M_Queue : Mk K A.c_Queue A.f_Queue_init__
  n_Queue_tunes : NoAttr K A.c_Queue "tunes"
  n_Queue_turn : NoAttr K A.c_Queue "turn"
  n_Queue_last : NoAttr K A.c_Queue "last"
  c_Order : Cls K A.c_Order
  M_Order : Mk K A.c_Order A.f_Order_init__
  n_Order_queue : NoAttr K A.c_Order "queue"
  n_Order_dice : NoAttr K A.c_Order "dice"
  n_Order_is_mixed : NoAttr K A.c_Order "is_mixed"
  n_Order_again : NoAttr K A.c_Order "again"
  n_Order_deck : NoAttr K A.c_Order "deck"
  n_Order_is_gone : NoAttr K A.c_Order "is_gone"
  n_Order_behind : NoAttr K A.c_Order "behind"
  c_Player : Cls K A.c_Player
  M_Player : Mk K A.c_Player A.f_Player_init__
  n_Player_shelf : NoAttr K A.c_Player "shelf"
  n_Player_overlap : NoAttr K A.c_Player "overlap"
  n_Player_order : NoAttr K A.c_Player "order"
  n_Player_time : NoAttr K A.c_Player "time"
  n_Player_now : NoAttr K A.c_Player "now"
  n_Player_spot : NoAttr K A.c_Player "spot"
  n_Player_old : NoAttr K A.c_Player "old"
  n_Player_soon : NoAttr K A.c_Player "soon"
  n_Player_past : NoAttr K A.c_Player "past"
  n_Player_rows : NoAttr K A.c_Player "rows"
  n_Player_is_playing : NoAttr K A.c_Player "is_playing"
  n_Player_stops : NoAttr K A.c_Player "stops"
  n_Player_sleep_left : NoAttr K A.c_Player "sleep_left"
  c_Shelf : Cls K A.c_Shelf
  M_Shelf : Mk K A.c_Shelf A.f_Shelf_init__
  n_Shelf_longs : NoAttr K A.c_Shelf "longs"
  x_RoadError : PySem.W.excIn K A.c_RoadError He.veBase "ValueError.__new__" = true
  k_RoadError : PySem.W.keepIn K (.ref A.c_RoadError) = true
  r_RoadError : PySem.W.subIn K (.ref A.c_RoadError) (.type "BaseException") = some true
  t_RoadError : PySem.W.typeIn K (.ref A.c_RoadError) = some (.type "type")
  e_RoadError : ExcC K A.c_RoadError
  m_RoadError : PySem.W.exmOne K (.ref A.c_RoadError) (.ref A.c_RoadError) = some true
  i_RoadError_RoadError : PySem.W.kitOne K (.ref A.c_RoadError) (.ref A.c_RoadError) = some true
  i_RoadError_BadTune : PySem.W.kitOne K (.ref A.c_RoadError) (.ref A.c_BadTune) = some false
  i_RoadError_BadNumber : PySem.W.kitOne K (.ref A.c_RoadError) (.ref A.c_BadNumber) = some false
  i_RoadError_BadEntry : PySem.W.kitOne K (.ref A.c_RoadError) (.ref A.c_BadEntry) = some false
  i_RoadError_BadWord : PySem.W.kitOne K (.ref A.c_RoadError) (.ref A.c_BadWord) = some false
  i_RoadError_ValueError : PySem.W.kitOne K (.ref A.c_RoadError) (.type "ValueError") = some true
  x_BadTune : PySem.W.excIn K A.c_BadTune He.veBase "ValueError.__new__" = true
  k_BadTune : PySem.W.keepIn K (.ref A.c_BadTune) = true
  r_BadTune : PySem.W.subIn K (.ref A.c_BadTune) (.type "BaseException") = some true
  t_BadTune : PySem.W.typeIn K (.ref A.c_BadTune) = some (.type "type")
  e_BadTune : ExcC K A.c_BadTune
  m_BadTune : PySem.W.exmOne K (.ref A.c_BadTune) (.ref A.c_RoadError) = some true
  i_BadTune_RoadError : PySem.W.kitOne K (.ref A.c_BadTune) (.ref A.c_RoadError) = some true
  i_BadTune_BadTune : PySem.W.kitOne K (.ref A.c_BadTune) (.ref A.c_BadTune) = some true
  i_BadTune_BadNumber : PySem.W.kitOne K (.ref A.c_BadTune) (.ref A.c_BadNumber) = some false
  i_BadTune_BadEntry : PySem.W.kitOne K (.ref A.c_BadTune) (.ref A.c_BadEntry) = some false
  i_BadTune_BadWord : PySem.W.kitOne K (.ref A.c_BadTune) (.ref A.c_BadWord) = some false
  i_BadTune_ValueError : PySem.W.kitOne K (.ref A.c_BadTune) (.type "ValueError") = some true
  x_BadNumber : PySem.W.excIn K A.c_BadNumber He.veBase "ValueError.__new__" = true
  k_BadNumber : PySem.W.keepIn K (.ref A.c_BadNumber) = true
  r_BadNumber : PySem.W.subIn K (.ref A.c_BadNumber) (.type "BaseException") = some true
  t_BadNumber : PySem.W.typeIn K (.ref A.c_BadNumber) = some (.type "type")
  e_BadNumber : ExcC K A.c_BadNumber
  m_BadNumber : PySem.W.exmOne K (.ref A.c_BadNumber) (.ref A.c_RoadError) = some true
  i_BadNumber_RoadError : PySem.W.kitOne K (.ref A.c_BadNumber) (.ref A.c_RoadError) = some true
  i_BadNumber_BadTune : PySem.W.kitOne K (.ref A.c_BadNumber) (.ref A.c_BadTune) = some false
  i_BadNumber_BadNumber : PySem.W.kitOne K (.ref A.c_BadNumber) (.ref A.c_BadNumber) = some true
  i_BadNumber_BadEntry : PySem.W.kitOne K (.ref A.c_BadNumber) (.ref A.c_BadEntry) = some false
  i_BadNumber_BadWord : PySem.W.kitOne K (.ref A.c_BadNumber) (.ref A.c_BadWord) = some false
  i_BadNumber_ValueError : PySem.W.kitOne K (.ref A.c_BadNumber) (.type "ValueError") = some true
  x_BadEntry : PySem.W.excIn K A.c_BadEntry He.veBase "ValueError.__new__" = true
  k_BadEntry : PySem.W.keepIn K (.ref A.c_BadEntry) = true
  r_BadEntry : PySem.W.subIn K (.ref A.c_BadEntry) (.type "BaseException") = some true
  t_BadEntry : PySem.W.typeIn K (.ref A.c_BadEntry) = some (.type "type")
  e_BadEntry : ExcC K A.c_BadEntry
  m_BadEntry : PySem.W.exmOne K (.ref A.c_BadEntry) (.ref A.c_RoadError) = some true
  i_BadEntry_RoadError : PySem.W.kitOne K (.ref A.c_BadEntry) (.ref A.c_RoadError) = some true
  i_BadEntry_BadTune : PySem.W.kitOne K (.ref A.c_BadEntry) (.ref A.c_BadTune) = some false
  i_BadEntry_BadNumber : PySem.W.kitOne K (.ref A.c_BadEntry) (.ref A.c_BadNumber) = some false
  i_BadEntry_BadEntry : PySem.W.kitOne K (.ref A.c_BadEntry) (.ref A.c_BadEntry) = some true
  i_BadEntry_BadWord : PySem.W.kitOne K (.ref A.c_BadEntry) (.ref A.c_BadWord) = some false
  i_BadEntry_ValueError : PySem.W.kitOne K (.ref A.c_BadEntry) (.type "ValueError") = some true
  x_BadWord : PySem.W.excIn K A.c_BadWord He.veBase "ValueError.__new__" = true
  k_BadWord : PySem.W.keepIn K (.ref A.c_BadWord) = true
  r_BadWord : PySem.W.subIn K (.ref A.c_BadWord) (.type "BaseException") = some true
  t_BadWord : PySem.W.typeIn K (.ref A.c_BadWord) = some (.type "type")
  e_BadWord : ExcC K A.c_BadWord
  m_BadWord : PySem.W.exmOne K (.ref A.c_BadWord) (.ref A.c_RoadError) = some true
  i_BadWord_RoadError : PySem.W.kitOne K (.ref A.c_BadWord) (.ref A.c_RoadError) = some true
  i_BadWord_BadTune : PySem.W.kitOne K (.ref A.c_BadWord) (.ref A.c_BadTune) = some false
  i_BadWord_BadNumber : PySem.W.kitOne K (.ref A.c_BadWord) (.ref A.c_BadNumber) = some false
  i_BadWord_BadEntry : PySem.W.kitOne K (.ref A.c_BadWord) (.ref A.c_BadEntry) = some false
  i_BadWord_BadWord : PySem.W.kitOne K (.ref A.c_BadWord) (.ref A.c_BadWord) = some true
  i_BadWord_ValueError : PySem.W.kitOne K (.ref A.c_BadWord) (.type "ValueError") = some true
  F_wall : Fun K "_wall" "_wall" s_wall A.f_wall A.d_wall
  b_wall : Binds K A.d_wall P_wall []
  g_wall : mg "_wall" = some (.ref A.f_wall)
  k_wall : PySem.W.keepIn K (.ref A.f_wall) = true
  F_Dice_init__ : Fun K "__init__" "Dice.__init__" s_Dice_init__ A.f_Dice_init__ A.d_Dice_init__
  b_Dice_init__ : Binds K A.d_Dice_init__ P_Dice_init__ []
  m_Dice_init__ : Meth K A.c_Dice "__init__" A.f_Dice_init__
  F_Dice_below : Fun K "below" "Dice.below" s_Dice_below A.f_Dice_below A.d_Dice_below
  b_Dice_below : Binds K A.d_Dice_below P_Dice_below []
  m_Dice_below : Meth K A.c_Dice "below" A.f_Dice_below
  F_Dice_twin : Fun K "twin" "Dice.twin" s_Dice_twin A.f_Dice_twin A.d_Dice_twin
  b_Dice_twin : Binds K A.d_Dice_twin P_Dice_twin []
  m_Dice_twin : Meth K A.c_Dice "twin" A.f_Dice_twin
  F_mixed : Fun K "mixed" "mixed" s_mixed A.f_mixed A.d_mixed
  b_mixed : Binds K A.d_mixed P_mixed []
  g_mixed : mg "mixed" = some (.ref A.f_mixed)
  k_mixed : PySem.W.keepIn K (.ref A.f_mixed) = true
  F_Queue_init__ : Fun K "__init__" "Queue.__init__" s_Queue_init__ A.f_Queue_init__ A.d_Queue_init__
  b_Queue_init__ : Binds K A.d_Queue_init__ P_Queue_init__ []
  m_Queue_init__ : Meth K A.c_Queue "__init__" A.f_Queue_init__
  F_Queue_entries : Fun K "entries" "Queue.entries" s_Queue_entries A.f_Queue_entries A.d_Queue_entries
  b_Queue_entries : Binds K A.d_Queue_entries P_Queue_entries []
  m_Queue_entries : Meth K A.c_Queue "entries" A.f_Queue_entries
  F_Queue_need : Fun K "need" "Queue.need" s_Queue_need A.f_Queue_need A.d_Queue_need
  b_Queue_need : Binds K A.d_Queue_need P_Queue_need []
  m_Queue_need : Meth K A.c_Queue "need" A.f_Queue_need
  F_Queue_tune : Fun K "tune" "Queue.tune" s_Queue_tune A.f_Queue_tune A.d_Queue_tune
  b_Queue_tune : Binds K A.d_Queue_tune P_Queue_tune []
  m_Queue_tune : Meth K A.c_Queue "tune" A.f_Queue_tune
  F_Queue_put : Fun K "put" "Queue.put" s_Queue_put A.f_Queue_put A.d_Queue_put
  b_Queue_put : Binds K A.d_Queue_put P_Queue_put []
  m_Queue_put : Meth K A.c_Queue "put" A.f_Queue_put
  F_Queue_remove : Fun K "remove" "Queue.remove" s_Queue_remove A.f_Queue_remove A.d_Queue_remove
  b_Queue_remove : Binds K A.d_Queue_remove P_Queue_remove []
  m_Queue_remove : Meth K A.c_Queue "remove" A.f_Queue_remove
  F_Queue_move : Fun K "move" "Queue.move" s_Queue_move A.f_Queue_move A.d_Queue_move
  b_Queue_move : Binds K A.d_Queue_move P_Queue_move []
  m_Queue_move : Meth K A.c_Queue "move" A.f_Queue_move
  F_Queue_place : Fun K "place" "Queue.place" s_Queue_place A.f_Queue_place A.d_Queue_place
  b_Queue_place : Binds K A.d_Queue_place P_Queue_place []
  m_Queue_place : Meth K A.c_Queue "place" A.f_Queue_place
  F_Queue_twin : Fun K "twin" "Queue.twin" s_Queue_twin A.f_Queue_twin A.d_Queue_twin
  b_Queue_twin : Binds K A.d_Queue_twin P_Queue_twin []
  m_Queue_twin : Meth K A.c_Queue "twin" A.f_Queue_twin
  F_Order_init__ : Fun K "__init__" "Order.__init__" s_Order_init__ A.f_Order_init__ A.d_Order_init__
  b_Order_init__ : Binds K A.d_Order_init__ P_Order_init__ []
  m_Order_init__ : Meth K A.c_Order "__init__" A.f_Order_init__
  F_Order_set_again : Fun K "set_again" "Order.set_again" s_Order_set_again A.f_Order_set_again A.d_Order_set_again
  b_Order_set_again : Binds K A.d_Order_set_again P_Order_set_again []
  m_Order_set_again : Meth K A.c_Order "set_again" A.f_Order_set_again
  F_Order_set_mixed : Fun K "set_mixed" "Order.set_mixed" s_Order_set_mixed A.f_Order_set_mixed A.d_Order_set_mixed
  b_Order_set_mixed : Binds K A.d_Order_set_mixed P_Order_set_mixed []
  m_Order_set_mixed : Meth K A.c_Order "set_mixed" A.f_Order_set_mixed
  F_Order_put : Fun K "put" "Order.put" s_Order_put A.f_Order_put A.d_Order_put
  b_Order_put : Binds K A.d_Order_put P_Order_put []
  m_Order_put : Meth K A.c_Order "put" A.f_Order_put
  F_Order_remove : Fun K "remove" "Order.remove" s_Order_remove A.f_Order_remove A.d_Order_remove
  b_Order_remove : Binds K A.d_Order_remove P_Order_remove []
  m_Order_remove : Meth K A.c_Order "remove" A.f_Order_remove
  F_Order_next_plain : Fun K "next_plain" "Order.next_plain" s_Order_next_plain A.f_Order_next_plain A.d_Order_next_plain
  b_Order_next_plain : Binds K A.d_Order_next_plain P_Order_next_plain []
  m_Order_next_plain : Meth K A.c_Order "next_plain" A.f_Order_next_plain
  F_Order_next_mixed : Fun K "next_mixed" "Order.next_mixed" s_Order_next_mixed A.f_Order_next_mixed A.d_Order_next_mixed
  b_Order_next_mixed : Binds K A.d_Order_next_mixed P_Order_next_mixed []
  m_Order_next_mixed : Meth K A.c_Order "next_mixed" A.f_Order_next_mixed
  F_Order_after : Fun K "after" "Order.after" s_Order_after A.f_Order_after A.d_Order_after
  b_Order_after : Binds K A.d_Order_after P_Order_after []
  m_Order_after : Meth K A.c_Order "after" A.f_Order_after
  F_Order_skip : Fun K "skip" "Order.skip" s_Order_skip A.f_Order_skip A.d_Order_skip
  b_Order_skip : Binds K A.d_Order_skip P_Order_skip []
  m_Order_skip : Meth K A.c_Order "skip" A.f_Order_skip
  F_Order_first : Fun K "first" "Order.first" s_Order_first A.f_Order_first A.d_Order_first
  b_Order_first : Binds K A.d_Order_first P_Order_first []
  m_Order_first : Meth K A.c_Order "first" A.f_Order_first
  F_Order_began : Fun K "began" "Order.began" s_Order_began A.f_Order_began A.d_Order_began
  b_Order_began : Binds K A.d_Order_began P_Order_began []
  m_Order_began : Meth K A.c_Order "began" A.f_Order_began
  F_Order_twin : Fun K "twin" "Order.twin" s_Order_twin A.f_Order_twin A.d_Order_twin
  b_Order_twin : Binds K A.d_Order_twin P_Order_twin []
  m_Order_twin : Meth K A.c_Order "twin" A.f_Order_twin
  F_Player_init__ : Fun K "__init__" "Player.__init__" s_Player_init__ A.f_Player_init__ A.d_Player_init__
  b_Player_init__ : Binds K A.d_Player_init__ P_Player_init__ []
  m_Player_init__ : Meth K A.c_Player "__init__" A.f_Player_init__
  F_Player_long : Fun K "long" "Player.long" s_Player_long A.f_Player_long A.d_Player_long
  b_Player_long : Binds K A.d_Player_long P_Player_long []
  m_Player_long : Meth K A.c_Player "long" A.f_Player_long
  F_Player_add : Fun K "add" "Player.add" s_Player_add A.f_Player_add A.d_Player_add
  b_Player_add : Binds K A.d_Player_add P_Player_add []
  m_Player_add : Meth K A.c_Player "add" A.f_Player_add
  F_Player_remove : Fun K "remove" "Player.remove" s_Player_remove A.f_Player_remove A.d_Player_remove
  b_Player_remove : Binds K A.d_Player_remove P_Player_remove []
  m_Player_remove : Meth K A.c_Player "remove" A.f_Player_remove
  F_Player_move : Fun K "move" "Player.move" s_Player_move A.f_Player_move A.d_Player_move
  b_Player_move : Binds K A.d_Player_move P_Player_move []
  m_Player_move : Meth K A.c_Player "move" A.f_Player_move
  F_Player_play_soon : Fun K "play_soon" "Player.play_soon" s_Player_play_soon A.f_Player_play_soon A.d_Player_play_soon
  b_Player_play_soon : Binds K A.d_Player_play_soon P_Player_play_soon []
  m_Player_play_soon : Meth K A.c_Player "play_soon" A.f_Player_play_soon
  F_Player_entries : Fun K "entries" "Player.entries" s_Player_entries A.f_Player_entries A.d_Player_entries
  b_Player_entries : Binds K A.d_Player_entries P_Player_entries []
  m_Player_entries : Meth K A.c_Player "entries" A.f_Player_entries
  F_Player_tune : Fun K "tune" "Player.tune" s_Player_tune A.f_Player_tune A.d_Player_tune
  b_Player_tune : Binds K A.d_Player_tune P_Player_tune []
  m_Player_tune : Meth K A.c_Player "tune" A.f_Player_tune
  F_Player_set_again : Fun K "set_again" "Player.set_again" s_Player_set_again A.f_Player_set_again A.d_Player_set_again
  b_Player_set_again : Binds K A.d_Player_set_again P_Player_set_again []
  m_Player_set_again : Meth K A.c_Player "set_again" A.f_Player_set_again
  F_Player_set_mixed : Fun K "set_mixed" "Player.set_mixed" s_Player_set_mixed A.f_Player_set_mixed A.d_Player_set_mixed
  b_Player_set_mixed : Binds K A.d_Player_set_mixed P_Player_set_mixed []
  m_Player_set_mixed : Meth K A.c_Player "set_mixed" A.f_Player_set_mixed
  F_Player_begin : Fun K "begin" "Player.begin" s_Player_begin A.f_Player_begin A.d_Player_begin
  b_Player_begin : Binds K A.d_Player_begin P_Player_begin []
  m_Player_begin : Meth K A.c_Player "begin" A.f_Player_begin
  F_Player_play : Fun K "play" "Player.play" s_Player_play A.f_Player_play A.d_Player_play
  b_Player_play : Binds K A.d_Player_play P_Player_play []
  m_Player_play : Meth K A.c_Player "play" A.f_Player_play
  F_Player_resume : Fun K "resume" "Player.resume" s_Player_resume A.f_Player_resume A.d_Player_resume
  b_Player_resume : Binds K A.d_Player_resume P_Player_resume []
  m_Player_resume : Meth K A.c_Player "resume" A.f_Player_resume
  F_Player_pause : Fun K "pause" "Player.pause" s_Player_pause A.f_Player_pause A.d_Player_pause
  b_Player_pause : Binds K A.d_Player_pause P_Player_pause []
  m_Player_pause : Meth K A.c_Player "pause" A.f_Player_pause
  F_Player_next_entry : Fun K "next_entry" "Player.next_entry" s_Player_next_entry A.f_Player_next_entry A.d_Player_next_entry
  b_Player_next_entry : Binds K A.d_Player_next_entry P_Player_next_entry []
  m_Player_next_entry : Meth K A.c_Player "next_entry" A.f_Player_next_entry
  F_Player_skip : Fun K "skip" "Player.skip" s_Player_skip A.f_Player_skip A.d_Player_skip
  b_Player_skip : Binds K A.d_Player_skip P_Player_skip []
  m_Player_skip : Meth K A.c_Player "skip" A.f_Player_skip
  F_Player_back : Fun K "back" "Player.back" s_Player_back A.f_Player_back A.d_Player_back
  b_Player_back : Binds K A.d_Player_back P_Player_back []
  m_Player_back : Meth K A.c_Player "back" A.f_Player_back
  F_Player_seek : Fun K "seek" "Player.seek" s_Player_seek A.f_Player_seek A.d_Player_seek
  b_Player_seek : Binds K A.d_Player_seek P_Player_seek []
  m_Player_seek : Meth K A.c_Player "seek" A.f_Player_seek
  F_Player_stop_behind : Fun K "stop_behind" "Player.stop_behind" s_Player_stop_behind A.f_Player_stop_behind A.d_Player_stop_behind
  b_Player_stop_behind : Binds K A.d_Player_stop_behind P_Player_stop_behind []
  m_Player_stop_behind : Meth K A.c_Player "stop_behind" A.f_Player_stop_behind
  F_Player_sleep : Fun K "sleep" "Player.sleep" s_Player_sleep A.f_Player_sleep A.d_Player_sleep
  b_Player_sleep : Binds K A.d_Player_sleep P_Player_sleep []
  m_Player_sleep : Meth K A.c_Player "sleep" A.f_Player_sleep
  F_Player_join_long : Fun K "join_long" "Player.join_long" s_Player_join_long A.f_Player_join_long A.d_Player_join_long
  b_Player_join_long : Binds K A.d_Player_join_long P_Player_join_long []
  m_Player_join_long : Meth K A.c_Player "join_long" A.f_Player_join_long
  F_Player_step : Fun K "step" "Player.step" s_Player_step A.f_Player_step A.d_Player_step
  b_Player_step : Binds K A.d_Player_step P_Player_step []
  m_Player_step : Meth K A.c_Player "step" A.f_Player_step
  F_Player_turn_over : Fun K "turn_over" "Player.turn_over" s_Player_turn_over A.f_Player_turn_over A.d_Player_turn_over
  b_Player_turn_over : Binds K A.d_Player_turn_over P_Player_turn_over []
  m_Player_turn_over : Meth K A.c_Player "turn_over" A.f_Player_turn_over
  F_Player_tick : Fun K "tick" "Player.tick" s_Player_tick A.f_Player_tick A.d_Player_tick
  b_Player_tick : Binds K A.d_Player_tick P_Player_tick []
  m_Player_tick : Meth K A.c_Player "tick" A.f_Player_tick
  F_Player_state : Fun K "state" "Player.state" s_Player_state A.f_Player_state A.d_Player_state
  b_Player_state : Binds K A.d_Player_state P_Player_state []
  m_Player_state : Meth K A.c_Player "state" A.f_Player_state
  F_Player_sounds : Fun K "sounds" "Player.sounds" s_Player_sounds A.f_Player_sounds A.d_Player_sounds
  b_Player_sounds : Binds K A.d_Player_sounds P_Player_sounds []
  m_Player_sounds : Meth K A.c_Player "sounds" A.f_Player_sounds
  F_Player_log : Fun K "log" "Player.log" s_Player_log A.f_Player_log A.d_Player_log
  b_Player_log : Binds K A.d_Player_log P_Player_log []
  m_Player_log : Meth K A.c_Player "log" A.f_Player_log
  F_Player_ticks : Fun K "ticks" "Player.ticks" s_Player_ticks A.f_Player_ticks A.d_Player_ticks
  b_Player_ticks : Binds K A.d_Player_ticks P_Player_ticks []
  m_Player_ticks : Meth K A.c_Player "ticks" A.f_Player_ticks
  F_Player_ahead : Fun K "ahead" "Player.ahead" s_Player_ahead A.f_Player_ahead A.d_Player_ahead
  b_Player_ahead : Binds K A.d_Player_ahead P_Player_ahead []
  m_Player_ahead : Meth K A.c_Player "ahead" A.f_Player_ahead
  F_Player_twin : Fun K "twin" "Player.twin" s_Player_twin A.f_Player_twin A.d_Player_twin
  b_Player_twin : Binds K A.d_Player_twin P_Player_twin []
  m_Player_twin : Meth K A.c_Player "twin" A.f_Player_twin
  F_look_name : Fun K "look_name" "look_name" s_look_name A.f_look_name A.d_look_name
  b_look_name : Binds K A.d_look_name P_look_name []
  g_look_name : mg "look_name" = some (.ref A.f_look_name)
  k_look_name : PySem.W.keepIn K (.ref A.f_look_name) = true
  F_Shelf_init__ : Fun K "__init__" "Shelf.__init__" s_Shelf_init__ A.f_Shelf_init__ A.d_Shelf_init__
  b_Shelf_init__ : Binds K A.d_Shelf_init__ P_Shelf_init__ []
  m_Shelf_init__ : Meth K A.c_Shelf "__init__" A.f_Shelf_init__
  F_Shelf_add : Fun K "add" "Shelf.add" s_Shelf_add A.f_Shelf_add A.d_Shelf_add
  b_Shelf_add : Binds K A.d_Shelf_add P_Shelf_add []
  m_Shelf_add : Meth K A.c_Shelf "add" A.f_Shelf_add
  F_Shelf_need : Fun K "need" "Shelf.need" s_Shelf_need A.f_Shelf_need A.d_Shelf_need
  b_Shelf_need : Binds K A.d_Shelf_need P_Shelf_need []
  m_Shelf_need : Meth K A.c_Shelf "need" A.f_Shelf_need
  F_Shelf_long : Fun K "long" "Shelf.long" s_Shelf_long A.f_Shelf_long A.d_Shelf_long
  b_Shelf_long : Binds K A.d_Shelf_long P_Shelf_long []
  m_Shelf_long : Meth K A.c_Shelf "long" A.f_Shelf_long
  F_Shelf_names : Fun K "names" "Shelf.names" s_Shelf_names A.f_Shelf_names A.d_Shelf_names
  b_Shelf_names : Binds K A.d_Shelf_names P_Shelf_names []
  m_Shelf_names : Meth K A.c_Shelf "names" A.f_Shelf_names
  F_law_cell : Fun K "_law_cell" "_law_cell" s_law_cell A.f_law_cell A.d_law_cell
  b_law_cell : Binds K A.d_law_cell P_law_cell []
  g_law_cell : mg "_law_cell" = some (.ref A.f_law_cell)
  k_law_cell : PySem.W.keepIn K (.ref A.f_law_cell) = true
  F_law_mix : Fun K "_law_mix" "_law_mix" s_law_mix A.f_law_mix A.d_law_mix
  b_law_mix : Binds K A.d_law_mix P_law_mix []
  g_law_mix : mg "_law_mix" = some (.ref A.f_law_mix)
  k_law_mix : PySem.W.keepIn K (.ref A.f_law_mix) = true
  F_law_draw : Fun K "_law_draw" "_law_draw" s_law_draw A.f_law_draw A.d_law_draw
  b_law_draw : Binds K A.d_law_draw P_law_draw []
  g_law_draw : mg "_law_draw" = some (.ref A.f_law_draw)
  k_law_draw : PySem.W.keepIn K (.ref A.f_law_draw) = true
  F_law_pick : Fun K "_law_pick" "_law_pick" s_law_pick A.f_law_pick A.d_law_pick
  b_law_pick : Binds K A.d_law_pick P_law_pick []
  g_law_pick : mg "_law_pick" = some (.ref A.f_law_pick)
  k_law_pick : PySem.W.keepIn K (.ref A.f_law_pick) = true
  F_law_shelf : Fun K "_law_shelf" "_law_shelf" s_law_shelf A.f_law_shelf A.d_law_shelf
  b_law_shelf : Binds K A.d_law_shelf P_law_shelf []
  g_law_shelf : mg "_law_shelf" = some (.ref A.f_law_shelf)
  k_law_shelf : PySem.W.keepIn K (.ref A.f_law_shelf) = true
  F_law_made : Fun K "_law_made" "_law_made" s_law_made A.f_law_made A.d_law_made
  b_law_made : Binds K A.d_law_made P_law_made []
  g_law_made : mg "_law_made" = some (.ref A.f_law_made)
  k_law_made : PySem.W.keepIn K (.ref A.f_law_made) = true
  F_law_begins : Fun K "_law_begins" "_law_begins" s_law_begins A.f_law_begins A.d_law_begins
  b_law_begins : Binds K A.d_law_begins P_law_begins []
  g_law_begins : mg "_law_begins" = some (.ref A.f_law_begins)
  k_law_begins : PySem.W.keepIn K (.ref A.f_law_begins) = true
  F_law : Fun K "law" "law" s_law A.f_law A.d_law
  b_law : Binds K A.d_law P_law []
  g_law : mg "law" = some (.ref A.f_law)
  k_law : PySem.W.keepIn K (.ref A.f_law) = true
end TR
namespace TR
open PySem L2
def fl_Dice (a0 : V) : List (Str × V) := [("number", a0)]
theorem fl_Dice_number (a0 : V) : (fl_Dice a0).lookup ("number" : Str) = some a0 := by kernel_rfl
theorem st_Dice_number (a0 b : V) : putF "number" b (fl_Dice a0) = fl_Dice b := by kernel_rfl
theorem no_Dice_init__ (a0 : V) : (fl_Dice a0).lookup ("__init__" : Str) = none := by kernel_rfl
theorem no_Dice_below (a0 : V) : (fl_Dice a0).lookup ("below" : Str) = none := by kernel_rfl
theorem no_Dice_twin (a0 : V) : (fl_Dice a0).lookup ("twin" : Str) = none := by kernel_rfl
theorem sf_Dice_number {K : PySem.W.Frag} {mg : Str → Option Value} {A : Ads} {H0 H : Hp} {L : List Ent} {l dx : Addr} {a0 y : V} {QH : Hp → Prop} (T : Txt K mg A) (w : W H0 H L) (i : Nat) (h : L[i]? = some (l, .ins A.c_Dice dx (fl_Dice a0))) (k : ∀ H', W H0 H' (L.set i (l, .ins A.c_Dice dx (fl_Dice y))) → QH H') : xFldSt K "number" (.ref l) y H QH := st_fld w i h T.c_Dice T.n_Dice_number (by show 1 < 1000; decide) (by rw [st_Dice_number]; exact k)
theorem ln_Dice (a0 : V) : (fl_Dice a0).length < 1000 := by show 1 < 1000; decide
def fl_Queue (a0 a1 a2 : V) : List (Str × V) := [("tunes", a0), ("turn", a1), ("last", a2)]
theorem fl_Queue_tunes (a0 a1 a2 : V) : (fl_Queue a0 a1 a2).lookup ("tunes" : Str) = some a0 := by kernel_rfl
theorem st_Queue_tunes (a0 a1 a2 b : V) : putF "tunes" b (fl_Queue a0 a1 a2) = fl_Queue b a1 a2 := by kernel_rfl
theorem fl_Queue_turn (a0 a1 a2 : V) : (fl_Queue a0 a1 a2).lookup ("turn" : Str) = some a1 := by kernel_rfl
theorem st_Queue_turn (a0 a1 a2 b : V) : putF "turn" b (fl_Queue a0 a1 a2) = fl_Queue a0 b a2 := by kernel_rfl
theorem fl_Queue_last (a0 a1 a2 : V) : (fl_Queue a0 a1 a2).lookup ("last" : Str) = some a2 := by kernel_rfl
theorem st_Queue_last (a0 a1 a2 b : V) : putF "last" b (fl_Queue a0 a1 a2) = fl_Queue a0 a1 b := by kernel_rfl
theorem no_Queue_init__ (a0 a1 a2 : V) : (fl_Queue a0 a1 a2).lookup ("__init__" : Str) = none := by kernel_rfl
theorem no_Queue_entries (a0 a1 a2 : V) : (fl_Queue a0 a1 a2).lookup ("entries" : Str) = none := by kernel_rfl
theorem no_Queue_need (a0 a1 a2 : V) : (fl_Queue a0 a1 a2).lookup ("need" : Str) = none := by kernel_rfl
theorem no_Queue_tune (a0 a1 a2 : V) : (fl_Queue a0 a1 a2).lookup ("tune" : Str) = none := by kernel_rfl
theorem no_Queue_put (a0 a1 a2 : V) : (fl_Queue a0 a1 a2).lookup ("put" : Str) = none := by kernel_rfl
theorem no_Queue_remove (a0 a1 a2 : V) : (fl_Queue a0 a1 a2).lookup ("remove" : Str) = none := by kernel_rfl
theorem no_Queue_move (a0 a1 a2 : V) : (fl_Queue a0 a1 a2).lookup ("move" : Str) = none := by kernel_rfl
theorem no_Queue_place (a0 a1 a2 : V) : (fl_Queue a0 a1 a2).lookup ("place" : Str) = none := by kernel_rfl
theorem no_Queue_twin (a0 a1 a2 : V) : (fl_Queue a0 a1 a2).lookup ("twin" : Str) = none := by kernel_rfl
theorem sf_Queue_tunes {K : PySem.W.Frag} {mg : Str → Option Value} {A : Ads} {H0 H : Hp} {L : List Ent} {l dx : Addr} {a0 a1 a2 y : V} {QH : Hp → Prop} (T : Txt K mg A) (w : W H0 H L) (i : Nat) (h : L[i]? = some (l, .ins A.c_Queue dx (fl_Queue a0 a1 a2))) (k : ∀ H', W H0 H' (L.set i (l, .ins A.c_Queue dx (fl_Queue y a1 a2))) → QH H') : xFldSt K "tunes" (.ref l) y H QH := st_fld w i h T.c_Queue T.n_Queue_tunes (by show 3 < 1000; decide) (by rw [st_Queue_tunes]; exact k)
theorem sf_Queue_turn {K : PySem.W.Frag} {mg : Str → Option Value} {A : Ads} {H0 H : Hp} {L : List Ent} {l dx : Addr} {a0 a1 a2 y : V} {QH : Hp → Prop} (T : Txt K mg A) (w : W H0 H L) (i : Nat) (h : L[i]? = some (l, .ins A.c_Queue dx (fl_Queue a0 a1 a2))) (k : ∀ H', W H0 H' (L.set i (l, .ins A.c_Queue dx (fl_Queue a0 y a2))) → QH H') : xFldSt K "turn" (.ref l) y H QH := st_fld w i h T.c_Queue T.n_Queue_turn (by show 3 < 1000; decide) (by rw [st_Queue_turn]; exact k)
theorem sf_Queue_last {K : PySem.W.Frag} {mg : Str → Option Value} {A : Ads} {H0 H : Hp} {L : List Ent} {l dx : Addr} {a0 a1 a2 y : V} {QH : Hp → Prop} (T : Txt K mg A) (w : W H0 H L) (i : Nat) (h : L[i]? = some (l, .ins A.c_Queue dx (fl_Queue a0 a1 a2))) (k : ∀ H', W H0 H' (L.set i (l, .ins A.c_Queue dx (fl_Queue a0 a1 y))) → QH H') : xFldSt K "last" (.ref l) y H QH := st_fld w i h T.c_Queue T.n_Queue_last (by show 3 < 1000; decide) (by rw [st_Queue_last]; exact k)
theorem ln_Queue (a0 a1 a2 : V) : (fl_Queue a0 a1 a2).length < 1000 := by show 3 < 1000; decide
def fl_Order (a0 a1 a2 a3 a4 a5 a6 : V) : List (Str × V) := [("queue", a0), ("dice", a1), ("is_mixed", a2), ("again", a3), ("deck", a4), ("is_gone", a5), ("behind", a6)]
theorem fl_Order_queue (a0 a1 a2 a3 a4 a5 a6 : V) : (fl_Order a0 a1 a2 a3 a4 a5 a6).lookup ("queue" : Str) = some a0 := by kernel_rfl
theorem st_Order_queue (a0 a1 a2 a3 a4 a5 a6 b : V) : putF "queue" b (fl_Order a0 a1 a2 a3 a4 a5 a6) = fl_Order b a1 a2 a3 a4 a5 a6 := by kernel_rfl
theorem fl_Order_dice (a0 a1 a2 a3 a4 a5 a6 : V) : (fl_Order a0 a1 a2 a3 a4 a5 a6).lookup ("dice" : Str) = some a1 := by kernel_rfl
theorem st_Order_dice (a0 a1 a2 a3 a4 a5 a6 b : V) : putF "dice" b (fl_Order a0 a1 a2 a3 a4 a5 a6) = fl_Order a0 b a2 a3 a4 a5 a6 := by kernel_rfl
theorem fl_Order_is_mixed (a0 a1 a2 a3 a4 a5 a6 : V) : (fl_Order a0 a1 a2 a3 a4 a5 a6).lookup ("is_mixed" : Str) = some a2 := by kernel_rfl
theorem st_Order_is_mixed (a0 a1 a2 a3 a4 a5 a6 b : V) : putF "is_mixed" b (fl_Order a0 a1 a2 a3 a4 a5 a6) = fl_Order a0 a1 b a3 a4 a5 a6 := by kernel_rfl
theorem fl_Order_again (a0 a1 a2 a3 a4 a5 a6 : V) : (fl_Order a0 a1 a2 a3 a4 a5 a6).lookup ("again" : Str) = some a3 := by kernel_rfl
theorem st_Order_again (a0 a1 a2 a3 a4 a5 a6 b : V) : putF "again" b (fl_Order a0 a1 a2 a3 a4 a5 a6) = fl_Order a0 a1 a2 b a4 a5 a6 := by kernel_rfl
theorem fl_Order_deck (a0 a1 a2 a3 a4 a5 a6 : V) : (fl_Order a0 a1 a2 a3 a4 a5 a6).lookup ("deck" : Str) = some a4 := by kernel_rfl
theorem st_Order_deck (a0 a1 a2 a3 a4 a5 a6 b : V) : putF "deck" b (fl_Order a0 a1 a2 a3 a4 a5 a6) = fl_Order a0 a1 a2 a3 b a5 a6 := by kernel_rfl
theorem fl_Order_is_gone (a0 a1 a2 a3 a4 a5 a6 : V) : (fl_Order a0 a1 a2 a3 a4 a5 a6).lookup ("is_gone" : Str) = some a5 := by kernel_rfl
theorem st_Order_is_gone (a0 a1 a2 a3 a4 a5 a6 b : V) : putF "is_gone" b (fl_Order a0 a1 a2 a3 a4 a5 a6) = fl_Order a0 a1 a2 a3 a4 b a6 := by kernel_rfl
theorem fl_Order_behind (a0 a1 a2 a3 a4 a5 a6 : V) : (fl_Order a0 a1 a2 a3 a4 a5 a6).lookup ("behind" : Str) = some a6 := by kernel_rfl
theorem st_Order_behind (a0 a1 a2 a3 a4 a5 a6 b : V) : putF "behind" b (fl_Order a0 a1 a2 a3 a4 a5 a6) = fl_Order a0 a1 a2 a3 a4 a5 b := by kernel_rfl
theorem no_Order_init__ (a0 a1 a2 a3 a4 a5 a6 : V) : (fl_Order a0 a1 a2 a3 a4 a5 a6).lookup ("__init__" : Str) = none := by kernel_rfl
theorem no_Order_set_again (a0 a1 a2 a3 a4 a5 a6 : V) : (fl_Order a0 a1 a2 a3 a4 a5 a6).lookup ("set_again" : Str) = none := by kernel_rfl
theorem no_Order_set_mixed (a0 a1 a2 a3 a4 a5 a6 : V) : (fl_Order a0 a1 a2 a3 a4 a5 a6).lookup ("set_mixed" : Str) = none := by kernel_rfl
theorem no_Order_put (a0 a1 a2 a3 a4 a5 a6 : V) : (fl_Order a0 a1 a2 a3 a4 a5 a6).lookup ("put" : Str) = none := by kernel_rfl
theorem no_Order_remove (a0 a1 a2 a3 a4 a5 a6 : V) : (fl_Order a0 a1 a2 a3 a4 a5 a6).lookup ("remove" : Str) = none := by kernel_rfl
theorem no_Order_next_plain (a0 a1 a2 a3 a4 a5 a6 : V) : (fl_Order a0 a1 a2 a3 a4 a5 a6).lookup ("next_plain" : Str) = none := by kernel_rfl
theorem no_Order_next_mixed (a0 a1 a2 a3 a4 a5 a6 : V) : (fl_Order a0 a1 a2 a3 a4 a5 a6).lookup ("next_mixed" : Str) = none := by kernel_rfl
theorem no_Order_after (a0 a1 a2 a3 a4 a5 a6 : V) : (fl_Order a0 a1 a2 a3 a4 a5 a6).lookup ("after" : Str) = none := by kernel_rfl
theorem no_Order_skip (a0 a1 a2 a3 a4 a5 a6 : V) : (fl_Order a0 a1 a2 a3 a4 a5 a6).lookup ("skip" : Str) = none := by kernel_rfl
theorem no_Order_first (a0 a1 a2 a3 a4 a5 a6 : V) : (fl_Order a0 a1 a2 a3 a4 a5 a6).lookup ("first" : Str) = none := by kernel_rfl
theorem no_Order_began (a0 a1 a2 a3 a4 a5 a6 : V) : (fl_Order a0 a1 a2 a3 a4 a5 a6).lookup ("began" : Str) = none := by kernel_rfl
theorem no_Order_twin (a0 a1 a2 a3 a4 a5 a6 : V) : (fl_Order a0 a1 a2 a3 a4 a5 a6).lookup ("twin" : Str) = none := by kernel_rfl
theorem sf_Order_queue {K : PySem.W.Frag} {mg : Str → Option Value} {A : Ads} {H0 H : Hp} {L : List Ent} {l dx : Addr} {a0 a1 a2 a3 a4 a5 a6 y : V} {QH : Hp → Prop} (T : Txt K mg A) (w : W H0 H L) (i : Nat) (h : L[i]? = some (l, .ins A.c_Order dx (fl_Order a0 a1 a2 a3 a4 a5 a6))) (k : ∀ H', W H0 H' (L.set i (l, .ins A.c_Order dx (fl_Order y a1 a2 a3 a4 a5 a6))) → QH H') : xFldSt K "queue" (.ref l) y H QH := st_fld w i h T.c_Order T.n_Order_queue (by show 7 < 1000; decide) (by rw [st_Order_queue]; exact k)
theorem sf_Order_dice {K : PySem.W.Frag} {mg : Str → Option Value} {A : Ads} {H0 H : Hp} {L : List Ent} {l dx : Addr} {a0 a1 a2 a3 a4 a5 a6 y : V} {QH : Hp → Prop} (T : Txt K mg A) (w : W H0 H L) (i : Nat) (h : L[i]? = some (l, .ins A.c_Order dx (fl_Order a0 a1 a2 a3 a4 a5 a6))) (k : ∀ H', W H0 H' (L.set i (l, .ins A.c_Order dx (fl_Order a0 y a2 a3 a4 a5 a6))) → QH H') : xFldSt K "dice" (.ref l) y H QH := st_fld w i h T.c_Order T.n_Order_dice (by show 7 < 1000; decide) (by rw [st_Order_dice]; exact k)
theorem sf_Order_is_mixed {K : PySem.W.Frag} {mg : Str → Option Value} {A : Ads} {H0 H : Hp} {L : List Ent} {l dx : Addr} {a0 a1 a2 a3 a4 a5 a6 y : V} {QH : Hp → Prop} (T : Txt K mg A) (w : W H0 H L) (i : Nat) (h : L[i]? = some (l, .ins A.c_Order dx (fl_Order a0 a1 a2 a3 a4 a5 a6))) (k : ∀ H', W H0 H' (L.set i (l, .ins A.c_Order dx (fl_Order a0 a1 y a3 a4 a5 a6))) → QH H') : xFldSt K "is_mixed" (.ref l) y H QH := st_fld w i h T.c_Order T.n_Order_is_mixed (by show 7 < 1000; decide) (by rw [st_Order_is_mixed]; exact k)
theorem sf_Order_again {K : PySem.W.Frag} {mg : Str → Option Value} {A : Ads} {H0 H : Hp} {L : List Ent} {l dx : Addr} {a0 a1 a2 a3 a4 a5 a6 y : V} {QH : Hp → Prop} (T : Txt K mg A) (w : W H0 H L) (i : Nat) (h : L[i]? = some (l, .ins A.c_Order dx (fl_Order a0 a1 a2 a3 a4 a5 a6))) (k : ∀ H', W H0 H' (L.set i (l, .ins A.c_Order dx (fl_Order a0 a1 a2 y a4 a5 a6))) → QH H') : xFldSt K "again" (.ref l) y H QH := st_fld w i h T.c_Order T.n_Order_again (by show 7 < 1000; decide) (by rw [st_Order_again]; exact k)
theorem sf_Order_deck {K : PySem.W.Frag} {mg : Str → Option Value} {A : Ads} {H0 H : Hp} {L : List Ent} {l dx : Addr} {a0 a1 a2 a3 a4 a5 a6 y : V} {QH : Hp → Prop} (T : Txt K mg A) (w : W H0 H L) (i : Nat) (h : L[i]? = some (l, .ins A.c_Order dx (fl_Order a0 a1 a2 a3 a4 a5 a6))) (k : ∀ H', W H0 H' (L.set i (l, .ins A.c_Order dx (fl_Order a0 a1 a2 a3 y a5 a6))) → QH H') : xFldSt K "deck" (.ref l) y H QH := st_fld w i h T.c_Order T.n_Order_deck (by show 7 < 1000; decide) (by rw [st_Order_deck]; exact k)
theorem sf_Order_is_gone {K : PySem.W.Frag} {mg : Str → Option Value} {A : Ads} {H0 H : Hp} {L : List Ent} {l dx : Addr} {a0 a1 a2 a3 a4 a5 a6 y : V} {QH : Hp → Prop} (T : Txt K mg A) (w : W H0 H L) (i : Nat) (h : L[i]? = some (l, .ins A.c_Order dx (fl_Order a0 a1 a2 a3 a4 a5 a6))) (k : ∀ H', W H0 H' (L.set i (l, .ins A.c_Order dx (fl_Order a0 a1 a2 a3 a4 y a6))) → QH H') : xFldSt K "is_gone" (.ref l) y H QH := st_fld w i h T.c_Order T.n_Order_is_gone (by show 7 < 1000; decide) (by rw [st_Order_is_gone]; exact k)
theorem sf_Order_behind {K : PySem.W.Frag} {mg : Str → Option Value} {A : Ads} {H0 H : Hp} {L : List Ent} {l dx : Addr} {a0 a1 a2 a3 a4 a5 a6 y : V} {QH : Hp → Prop} (T : Txt K mg A) (w : W H0 H L) (i : Nat) (h : L[i]? = some (l, .ins A.c_Order dx (fl_Order a0 a1 a2 a3 a4 a5 a6))) (k : ∀ H', W H0 H' (L.set i (l, .ins A.c_Order dx (fl_Order a0 a1 a2 a3 a4 a5 y))) → QH H') : xFldSt K "behind" (.ref l) y H QH := st_fld w i h T.c_Order T.n_Order_behind (by show 7 < 1000; decide) (by rw [st_Order_behind]; exact k)
theorem ln_Order (a0 a1 a2 a3 a4 a5 a6 : V) : (fl_Order a0 a1 a2 a3 a4 a5 a6).length < 1000 := by show 7 < 1000; decide
def fl_Player (a0 a1 a2 a3 a4 a5 a6 a7 a8 a9 a10 a11 a12 : V) : List (Str × V) := [("shelf", a0), ("overlap", a1), ("order", a2), ("time", a3), ("now", a4), ("spot", a5), ("old", a6), ("soon", a7), ("past", a8), ("rows", a9), ("is_playing", a10), ("stops", a11), ("sleep_left", a12)]
theorem fl_Player_shelf (a0 a1 a2 a3 a4 a5 a6 a7 a8 a9 a10 a11 a12 : V) : (fl_Player a0 a1 a2 a3 a4 a5 a6 a7 a8 a9 a10 a11 a12).lookup ("shelf" : Str) = some a0 := by kernel_rfl
theorem st_Player_shelf (a0 a1 a2 a3 a4 a5 a6 a7 a8 a9 a10 a11 a12 b : V) : putF "shelf" b (fl_Player a0 a1 a2 a3 a4 a5 a6 a7 a8 a9 a10 a11 a12) = fl_Player b a1 a2 a3 a4 a5 a6 a7 a8 a9 a10 a11 a12 := by kernel_rfl
theorem fl_Player_overlap (a0 a1 a2 a3 a4 a5 a6 a7 a8 a9 a10 a11 a12 : V) : (fl_Player a0 a1 a2 a3 a4 a5 a6 a7 a8 a9 a10 a11 a12).lookup ("overlap" : Str) = some a1 := by kernel_rfl
theorem st_Player_overlap (a0 a1 a2 a3 a4 a5 a6 a7 a8 a9 a10 a11 a12 b : V) : putF "overlap" b (fl_Player a0 a1 a2 a3 a4 a5 a6 a7 a8 a9 a10 a11 a12) = fl_Player a0 b a2 a3 a4 a5 a6 a7 a8 a9 a10 a11 a12 := by kernel_rfl
theorem fl_Player_order (a0 a1 a2 a3 a4 a5 a6 a7 a8 a9 a10 a11 a12 : V) : (fl_Player a0 a1 a2 a3 a4 a5 a6 a7 a8 a9 a10 a11 a12).lookup ("order" : Str) = some a2 := by kernel_rfl
theorem st_Player_order (a0 a1 a2 a3 a4 a5 a6 a7 a8 a9 a10 a11 a12 b : V) : putF "order" b (fl_Player a0 a1 a2 a3 a4 a5 a6 a7 a8 a9 a10 a11 a12) = fl_Player a0 a1 b a3 a4 a5 a6 a7 a8 a9 a10 a11 a12 := by kernel_rfl
theorem fl_Player_time (a0 a1 a2 a3 a4 a5 a6 a7 a8 a9 a10 a11 a12 : V) : (fl_Player a0 a1 a2 a3 a4 a5 a6 a7 a8 a9 a10 a11 a12).lookup ("time" : Str) = some a3 := by kernel_rfl
theorem st_Player_time (a0 a1 a2 a3 a4 a5 a6 a7 a8 a9 a10 a11 a12 b : V) : putF "time" b (fl_Player a0 a1 a2 a3 a4 a5 a6 a7 a8 a9 a10 a11 a12) = fl_Player a0 a1 a2 b a4 a5 a6 a7 a8 a9 a10 a11 a12 := by kernel_rfl
theorem fl_Player_now (a0 a1 a2 a3 a4 a5 a6 a7 a8 a9 a10 a11 a12 : V) : (fl_Player a0 a1 a2 a3 a4 a5 a6 a7 a8 a9 a10 a11 a12).lookup ("now" : Str) = some a4 := by kernel_rfl
theorem st_Player_now (a0 a1 a2 a3 a4 a5 a6 a7 a8 a9 a10 a11 a12 b : V) : putF "now" b (fl_Player a0 a1 a2 a3 a4 a5 a6 a7 a8 a9 a10 a11 a12) = fl_Player a0 a1 a2 a3 b a5 a6 a7 a8 a9 a10 a11 a12 := by kernel_rfl
theorem fl_Player_spot (a0 a1 a2 a3 a4 a5 a6 a7 a8 a9 a10 a11 a12 : V) : (fl_Player a0 a1 a2 a3 a4 a5 a6 a7 a8 a9 a10 a11 a12).lookup ("spot" : Str) = some a5 := by kernel_rfl
theorem st_Player_spot (a0 a1 a2 a3 a4 a5 a6 a7 a8 a9 a10 a11 a12 b : V) : putF "spot" b (fl_Player a0 a1 a2 a3 a4 a5 a6 a7 a8 a9 a10 a11 a12) = fl_Player a0 a1 a2 a3 a4 b a6 a7 a8 a9 a10 a11 a12 := by kernel_rfl
theorem fl_Player_old (a0 a1 a2 a3 a4 a5 a6 a7 a8 a9 a10 a11 a12 : V) : (fl_Player a0 a1 a2 a3 a4 a5 a6 a7 a8 a9 a10 a11 a12).lookup ("old" : Str) = some a6 := by kernel_rfl
theorem st_Player_old (a0 a1 a2 a3 a4 a5 a6 a7 a8 a9 a10 a11 a12 b : V) : putF "old" b (fl_Player a0 a1 a2 a3 a4 a5 a6 a7 a8 a9 a10 a11 a12) = fl_Player a0 a1 a2 a3 a4 a5 b a7 a8 a9 a10 a11 a12 := by kernel_rfl
theorem fl_Player_soon (a0 a1 a2 a3 a4 a5 a6 a7 a8 a9 a10 a11 a12 : V) : (fl_Player a0 a1 a2 a3 a4 a5 a6 a7 a8 a9 a10 a11 a12).lookup ("soon" : Str) = some a7 := by kernel_rfl
theorem st_Player_soon (a0 a1 a2 a3 a4 a5 a6 a7 a8 a9 a10 a11 a12 b : V) : putF "soon" b (fl_Player a0 a1 a2 a3 a4 a5 a6 a7 a8 a9 a10 a11 a12) = fl_Player a0 a1 a2 a3 a4 a5 a6 b a8 a9 a10 a11 a12 := by kernel_rfl
theorem fl_Player_past (a0 a1 a2 a3 a4 a5 a6 a7 a8 a9 a10 a11 a12 : V) : (fl_Player a0 a1 a2 a3 a4 a5 a6 a7 a8 a9 a10 a11 a12).lookup ("past" : Str) = some a8 := by kernel_rfl
theorem st_Player_past (a0 a1 a2 a3 a4 a5 a6 a7 a8 a9 a10 a11 a12 b : V) : putF "past" b (fl_Player a0 a1 a2 a3 a4 a5 a6 a7 a8 a9 a10 a11 a12) = fl_Player a0 a1 a2 a3 a4 a5 a6 a7 b a9 a10 a11 a12 := by kernel_rfl
theorem fl_Player_rows (a0 a1 a2 a3 a4 a5 a6 a7 a8 a9 a10 a11 a12 : V) : (fl_Player a0 a1 a2 a3 a4 a5 a6 a7 a8 a9 a10 a11 a12).lookup ("rows" : Str) = some a9 := by kernel_rfl
theorem st_Player_rows (a0 a1 a2 a3 a4 a5 a6 a7 a8 a9 a10 a11 a12 b : V) : putF "rows" b (fl_Player a0 a1 a2 a3 a4 a5 a6 a7 a8 a9 a10 a11 a12) = fl_Player a0 a1 a2 a3 a4 a5 a6 a7 a8 b a10 a11 a12 := by kernel_rfl
theorem fl_Player_is_playing (a0 a1 a2 a3 a4 a5 a6 a7 a8 a9 a10 a11 a12 : V) : (fl_Player a0 a1 a2 a3 a4 a5 a6 a7 a8 a9 a10 a11 a12).lookup ("is_playing" : Str) = some a10 := by kernel_rfl
theorem st_Player_is_playing (a0 a1 a2 a3 a4 a5 a6 a7 a8 a9 a10 a11 a12 b : V) : putF "is_playing" b (fl_Player a0 a1 a2 a3 a4 a5 a6 a7 a8 a9 a10 a11 a12) = fl_Player a0 a1 a2 a3 a4 a5 a6 a7 a8 a9 b a11 a12 := by kernel_rfl
theorem fl_Player_stops (a0 a1 a2 a3 a4 a5 a6 a7 a8 a9 a10 a11 a12 : V) : (fl_Player a0 a1 a2 a3 a4 a5 a6 a7 a8 a9 a10 a11 a12).lookup ("stops" : Str) = some a11 := by kernel_rfl
theorem st_Player_stops (a0 a1 a2 a3 a4 a5 a6 a7 a8 a9 a10 a11 a12 b : V) : putF "stops" b (fl_Player a0 a1 a2 a3 a4 a5 a6 a7 a8 a9 a10 a11 a12) = fl_Player a0 a1 a2 a3 a4 a5 a6 a7 a8 a9 a10 b a12 := by kernel_rfl
theorem fl_Player_sleep_left (a0 a1 a2 a3 a4 a5 a6 a7 a8 a9 a10 a11 a12 : V) : (fl_Player a0 a1 a2 a3 a4 a5 a6 a7 a8 a9 a10 a11 a12).lookup ("sleep_left" : Str) = some a12 := by kernel_rfl
theorem st_Player_sleep_left (a0 a1 a2 a3 a4 a5 a6 a7 a8 a9 a10 a11 a12 b : V) : putF "sleep_left" b (fl_Player a0 a1 a2 a3 a4 a5 a6 a7 a8 a9 a10 a11 a12) = fl_Player a0 a1 a2 a3 a4 a5 a6 a7 a8 a9 a10 a11 b := by kernel_rfl
theorem no_Player_init__ (a0 a1 a2 a3 a4 a5 a6 a7 a8 a9 a10 a11 a12 : V) : (fl_Player a0 a1 a2 a3 a4 a5 a6 a7 a8 a9 a10 a11 a12).lookup ("__init__" : Str) = none := by kernel_rfl
theorem no_Player_long (a0 a1 a2 a3 a4 a5 a6 a7 a8 a9 a10 a11 a12 : V) : (fl_Player a0 a1 a2 a3 a4 a5 a6 a7 a8 a9 a10 a11 a12).lookup ("long" : Str) = none := by kernel_rfl
theorem no_Player_add (a0 a1 a2 a3 a4 a5 a6 a7 a8 a9 a10 a11 a12 : V) : (fl_Player a0 a1 a2 a3 a4 a5 a6 a7 a8 a9 a10 a11 a12).lookup ("add" : Str) = none := by kernel_rfl
theorem no_Player_remove (a0 a1 a2 a3 a4 a5 a6 a7 a8 a9 a10 a11 a12 : V) : (fl_Player a0 a1 a2 a3 a4 a5 a6 a7 a8 a9 a10 a11 a12).lookup ("remove" : Str) = none := by kernel_rfl
theorem no_Player_move (a0 a1 a2 a3 a4 a5 a6 a7 a8 a9 a10 a11 a12 : V) : (fl_Player a0 a1 a2 a3 a4 a5 a6 a7 a8 a9 a10 a11 a12).lookup ("move" : Str) = none := by kernel_rfl
theorem no_Player_play_soon (a0 a1 a2 a3 a4 a5 a6 a7 a8 a9 a10 a11 a12 : V) : (fl_Player a0 a1 a2 a3 a4 a5 a6 a7 a8 a9 a10 a11 a12).lookup ("play_soon" : Str) = none := by kernel_rfl
theorem no_Player_entries (a0 a1 a2 a3 a4 a5 a6 a7 a8 a9 a10 a11 a12 : V) : (fl_Player a0 a1 a2 a3 a4 a5 a6 a7 a8 a9 a10 a11 a12).lookup ("entries" : Str) = none := by kernel_rfl
theorem no_Player_tune (a0 a1 a2 a3 a4 a5 a6 a7 a8 a9 a10 a11 a12 : V) : (fl_Player a0 a1 a2 a3 a4 a5 a6 a7 a8 a9 a10 a11 a12).lookup ("tune" : Str) = none := by kernel_rfl
theorem no_Player_set_again (a0 a1 a2 a3 a4 a5 a6 a7 a8 a9 a10 a11 a12 : V) : (fl_Player a0 a1 a2 a3 a4 a5 a6 a7 a8 a9 a10 a11 a12).lookup ("set_again" : Str) = none := by kernel_rfl
theorem no_Player_set_mixed (a0 a1 a2 a3 a4 a5 a6 a7 a8 a9 a10 a11 a12 : V) : (fl_Player a0 a1 a2 a3 a4 a5 a6 a7 a8 a9 a10 a11 a12).lookup ("set_mixed" : Str) = none := by kernel_rfl
theorem no_Player_begin (a0 a1 a2 a3 a4 a5 a6 a7 a8 a9 a10 a11 a12 : V) : (fl_Player a0 a1 a2 a3 a4 a5 a6 a7 a8 a9 a10 a11 a12).lookup ("begin" : Str) = none := by kernel_rfl
theorem no_Player_play (a0 a1 a2 a3 a4 a5 a6 a7 a8 a9 a10 a11 a12 : V) : (fl_Player a0 a1 a2 a3 a4 a5 a6 a7 a8 a9 a10 a11 a12).lookup ("play" : Str) = none := by kernel_rfl
theorem no_Player_resume (a0 a1 a2 a3 a4 a5 a6 a7 a8 a9 a10 a11 a12 : V) : (fl_Player a0 a1 a2 a3 a4 a5 a6 a7 a8 a9 a10 a11 a12).lookup ("resume" : Str) = none := by kernel_rfl
theorem no_Player_pause (a0 a1 a2 a3 a4 a5 a6 a7 a8 a9 a10 a11 a12 : V) : (fl_Player a0 a1 a2 a3 a4 a5 a6 a7 a8 a9 a10 a11 a12).lookup ("pause" : Str) = none := by kernel_rfl
theorem no_Player_next_entry (a0 a1 a2 a3 a4 a5 a6 a7 a8 a9 a10 a11 a12 : V) : (fl_Player a0 a1 a2 a3 a4 a5 a6 a7 a8 a9 a10 a11 a12).lookup ("next_entry" : Str) = none := by kernel_rfl
theorem no_Player_skip (a0 a1 a2 a3 a4 a5 a6 a7 a8 a9 a10 a11 a12 : V) : (fl_Player a0 a1 a2 a3 a4 a5 a6 a7 a8 a9 a10 a11 a12).lookup ("skip" : Str) = none := by kernel_rfl
theorem no_Player_back (a0 a1 a2 a3 a4 a5 a6 a7 a8 a9 a10 a11 a12 : V) : (fl_Player a0 a1 a2 a3 a4 a5 a6 a7 a8 a9 a10 a11 a12).lookup ("back" : Str) = none := by kernel_rfl
theorem no_Player_seek (a0 a1 a2 a3 a4 a5 a6 a7 a8 a9 a10 a11 a12 : V) : (fl_Player a0 a1 a2 a3 a4 a5 a6 a7 a8 a9 a10 a11 a12).lookup ("seek" : Str) = none := by kernel_rfl
theorem no_Player_stop_behind (a0 a1 a2 a3 a4 a5 a6 a7 a8 a9 a10 a11 a12 : V) : (fl_Player a0 a1 a2 a3 a4 a5 a6 a7 a8 a9 a10 a11 a12).lookup ("stop_behind" : Str) = none := by kernel_rfl
theorem no_Player_sleep (a0 a1 a2 a3 a4 a5 a6 a7 a8 a9 a10 a11 a12 : V) : (fl_Player a0 a1 a2 a3 a4 a5 a6 a7 a8 a9 a10 a11 a12).lookup ("sleep" : Str) = none := by kernel_rfl
theorem no_Player_join_long (a0 a1 a2 a3 a4 a5 a6 a7 a8 a9 a10 a11 a12 : V) : (fl_Player a0 a1 a2 a3 a4 a5 a6 a7 a8 a9 a10 a11 a12).lookup ("join_long" : Str) = none := by kernel_rfl
theorem no_Player_step (a0 a1 a2 a3 a4 a5 a6 a7 a8 a9 a10 a11 a12 : V) : (fl_Player a0 a1 a2 a3 a4 a5 a6 a7 a8 a9 a10 a11 a12).lookup ("step" : Str) = none := by kernel_rfl
theorem no_Player_turn_over (a0 a1 a2 a3 a4 a5 a6 a7 a8 a9 a10 a11 a12 : V) : (fl_Player a0 a1 a2 a3 a4 a5 a6 a7 a8 a9 a10 a11 a12).lookup ("turn_over" : Str) = none := by kernel_rfl
theorem no_Player_tick (a0 a1 a2 a3 a4 a5 a6 a7 a8 a9 a10 a11 a12 : V) : (fl_Player a0 a1 a2 a3 a4 a5 a6 a7 a8 a9 a10 a11 a12).lookup ("tick" : Str) = none := by kernel_rfl
theorem no_Player_state (a0 a1 a2 a3 a4 a5 a6 a7 a8 a9 a10 a11 a12 : V) : (fl_Player a0 a1 a2 a3 a4 a5 a6 a7 a8 a9 a10 a11 a12).lookup ("state" : Str) = none := by kernel_rfl
theorem no_Player_sounds (a0 a1 a2 a3 a4 a5 a6 a7 a8 a9 a10 a11 a12 : V) : (fl_Player a0 a1 a2 a3 a4 a5 a6 a7 a8 a9 a10 a11 a12).lookup ("sounds" : Str) = none := by kernel_rfl
theorem no_Player_log (a0 a1 a2 a3 a4 a5 a6 a7 a8 a9 a10 a11 a12 : V) : (fl_Player a0 a1 a2 a3 a4 a5 a6 a7 a8 a9 a10 a11 a12).lookup ("log" : Str) = none := by kernel_rfl
theorem no_Player_ticks (a0 a1 a2 a3 a4 a5 a6 a7 a8 a9 a10 a11 a12 : V) : (fl_Player a0 a1 a2 a3 a4 a5 a6 a7 a8 a9 a10 a11 a12).lookup ("ticks" : Str) = none := by kernel_rfl
theorem no_Player_ahead (a0 a1 a2 a3 a4 a5 a6 a7 a8 a9 a10 a11 a12 : V) : (fl_Player a0 a1 a2 a3 a4 a5 a6 a7 a8 a9 a10 a11 a12).lookup ("ahead" : Str) = none := by kernel_rfl
theorem no_Player_twin (a0 a1 a2 a3 a4 a5 a6 a7 a8 a9 a10 a11 a12 : V) : (fl_Player a0 a1 a2 a3 a4 a5 a6 a7 a8 a9 a10 a11 a12).lookup ("twin" : Str) = none := by kernel_rfl
theorem sf_Player_shelf {K : PySem.W.Frag} {mg : Str → Option Value} {A : Ads} {H0 H : Hp} {L : List Ent} {l dx : Addr} {a0 a1 a2 a3 a4 a5 a6 a7 a8 a9 a10 a11 a12 y : V} {QH : Hp → Prop} (T : Txt K mg A) (w : W H0 H L) (i : Nat) (h : L[i]? = some (l, .ins A.c_Player dx (fl_Player a0 a1 a2 a3 a4 a5 a6 a7 a8 a9 a10 a11 a12))) (k : ∀ H', W H0 H' (L.set i (l, .ins A.c_Player dx (fl_Player y a1 a2 a3 a4 a5 a6 a7 a8 a9 a10 a11 a12))) → QH H') : xFldSt K "shelf" (.ref l) y H QH := st_fld w i h T.c_Player T.n_Player_shelf (by show 13 < 1000; decide) (by rw [st_Player_shelf]; exact k)
theorem sf_Player_overlap {K : PySem.W.Frag} {mg : Str → Option Value} {A : Ads} {H0 H : Hp} {L : List Ent} {l dx : Addr} {a0 a1 a2 a3 a4 a5 a6 a7 a8 a9 a10 a11 a12 y : V} {QH : Hp → Prop} (T : Txt K mg A) (w : W H0 H L) (i : Nat) (h : L[i]? = some (l, .ins A.c_Player dx (fl_Player a0 a1 a2 a3 a4 a5 a6 a7 a8 a9 a10 a11 a12))) (k : ∀ H', W H0 H' (L.set i (l, .ins A.c_Player dx (fl_Player a0 y a2 a3 a4 a5 a6 a7 a8 a9 a10 a11 a12))) → QH H') : xFldSt K "overlap" (.ref l) y H QH := st_fld w i h T.c_Player T.n_Player_overlap (by show 13 < 1000; decide) (by rw [st_Player_overlap]; exact k)
theorem sf_Player_order {K : PySem.W.Frag} {mg : Str → Option Value} {A : Ads} {H0 H : Hp} {L : List Ent} {l dx : Addr} {a0 a1 a2 a3 a4 a5 a6 a7 a8 a9 a10 a11 a12 y : V} {QH : Hp → Prop} (T : Txt K mg A) (w : W H0 H L) (i : Nat) (h : L[i]? = some (l, .ins A.c_Player dx (fl_Player a0 a1 a2 a3 a4 a5 a6 a7 a8 a9 a10 a11 a12))) (k : ∀ H', W H0 H' (L.set i (l, .ins A.c_Player dx (fl_Player a0 a1 y a3 a4 a5 a6 a7 a8 a9 a10 a11 a12))) → QH H') : xFldSt K "order" (.ref l) y H QH := st_fld w i h T.c_Player T.n_Player_order (by show 13 < 1000; decide) (by rw [st_Player_order]; exact k)
theorem sf_Player_time {K : PySem.W.Frag} {mg : Str → Option Value} {A : Ads} {H0 H : Hp} {L : List Ent} {l dx : Addr} {a0 a1 a2 a3 a4 a5 a6 a7 a8 a9 a10 a11 a12 y : V} {QH : Hp → Prop} (T : Txt K mg A) (w : W H0 H L) (i : Nat) (h : L[i]? = some (l, .ins A.c_Player dx (fl_Player a0 a1 a2 a3 a4 a5 a6 a7 a8 a9 a10 a11 a12))) (k : ∀ H', W H0 H' (L.set i (l, .ins A.c_Player dx (fl_Player a0 a1 a2 y a4 a5 a6 a7 a8 a9 a10 a11 a12))) → QH H') : xFldSt K "time" (.ref l) y H QH := st_fld w i h T.c_Player T.n_Player_time (by show 13 < 1000; decide) (by rw [st_Player_time]; exact k)
theorem sf_Player_now {K : PySem.W.Frag} {mg : Str → Option Value} {A : Ads} {H0 H : Hp} {L : List Ent} {l dx : Addr} {a0 a1 a2 a3 a4 a5 a6 a7 a8 a9 a10 a11 a12 y : V} {QH : Hp → Prop} (T : Txt K mg A) (w : W H0 H L) (i : Nat) (h : L[i]? = some (l, .ins A.c_Player dx (fl_Player a0 a1 a2 a3 a4 a5 a6 a7 a8 a9 a10 a11 a12))) (k : ∀ H', W H0 H' (L.set i (l, .ins A.c_Player dx (fl_Player a0 a1 a2 a3 y a5 a6 a7 a8 a9 a10 a11 a12))) → QH H') : xFldSt K "now" (.ref l) y H QH := st_fld w i h T.c_Player T.n_Player_now (by show 13 < 1000; decide) (by rw [st_Player_now]; exact k)
theorem sf_Player_spot {K : PySem.W.Frag} {mg : Str → Option Value} {A : Ads} {H0 H : Hp} {L : List Ent} {l dx : Addr} {a0 a1 a2 a3 a4 a5 a6 a7 a8 a9 a10 a11 a12 y : V} {QH : Hp → Prop} (T : Txt K mg A) (w : W H0 H L) (i : Nat) (h : L[i]? = some (l, .ins A.c_Player dx (fl_Player a0 a1 a2 a3 a4 a5 a6 a7 a8 a9 a10 a11 a12))) (k : ∀ H', W H0 H' (L.set i (l, .ins A.c_Player dx (fl_Player a0 a1 a2 a3 a4 y a6 a7 a8 a9 a10 a11 a12))) → QH H') : xFldSt K "spot" (.ref l) y H QH := st_fld w i h T.c_Player T.n_Player_spot (by show 13 < 1000; decide) (by rw [st_Player_spot]; exact k)
theorem sf_Player_old {K : PySem.W.Frag} {mg : Str → Option Value} {A : Ads} {H0 H : Hp} {L : List Ent} {l dx : Addr} {a0 a1 a2 a3 a4 a5 a6 a7 a8 a9 a10 a11 a12 y : V} {QH : Hp → Prop} (T : Txt K mg A) (w : W H0 H L) (i : Nat) (h : L[i]? = some (l, .ins A.c_Player dx (fl_Player a0 a1 a2 a3 a4 a5 a6 a7 a8 a9 a10 a11 a12))) (k : ∀ H', W H0 H' (L.set i (l, .ins A.c_Player dx (fl_Player a0 a1 a2 a3 a4 a5 y a7 a8 a9 a10 a11 a12))) → QH H') : xFldSt K "old" (.ref l) y H QH := st_fld w i h T.c_Player T.n_Player_old (by show 13 < 1000; decide) (by rw [st_Player_old]; exact k)
theorem sf_Player_soon {K : PySem.W.Frag} {mg : Str → Option Value} {A : Ads} {H0 H : Hp} {L : List Ent} {l dx : Addr} {a0 a1 a2 a3 a4 a5 a6 a7 a8 a9 a10 a11 a12 y : V} {QH : Hp → Prop} (T : Txt K mg A) (w : W H0 H L) (i : Nat) (h : L[i]? = some (l, .ins A.c_Player dx (fl_Player a0 a1 a2 a3 a4 a5 a6 a7 a8 a9 a10 a11 a12))) (k : ∀ H', W H0 H' (L.set i (l, .ins A.c_Player dx (fl_Player a0 a1 a2 a3 a4 a5 a6 y a8 a9 a10 a11 a12))) → QH H') : xFldSt K "soon" (.ref l) y H QH := st_fld w i h T.c_Player T.n_Player_soon (by show 13 < 1000; decide) (by rw [st_Player_soon]; exact k)
theorem sf_Player_past {K : PySem.W.Frag} {mg : Str → Option Value} {A : Ads} {H0 H : Hp} {L : List Ent} {l dx : Addr} {a0 a1 a2 a3 a4 a5 a6 a7 a8 a9 a10 a11 a12 y : V} {QH : Hp → Prop} (T : Txt K mg A) (w : W H0 H L) (i : Nat) (h : L[i]? = some (l, .ins A.c_Player dx (fl_Player a0 a1 a2 a3 a4 a5 a6 a7 a8 a9 a10 a11 a12))) (k : ∀ H', W H0 H' (L.set i (l, .ins A.c_Player dx (fl_Player a0 a1 a2 a3 a4 a5 a6 a7 y a9 a10 a11 a12))) → QH H') : xFldSt K "past" (.ref l) y H QH := st_fld w i h T.c_Player T.n_Player_past (by show 13 < 1000; decide) (by rw [st_Player_past]; exact k)
theorem sf_Player_rows {K : PySem.W.Frag} {mg : Str → Option Value} {A : Ads} {H0 H : Hp} {L : List Ent} {l dx : Addr} {a0 a1 a2 a3 a4 a5 a6 a7 a8 a9 a10 a11 a12 y : V} {QH : Hp → Prop} (T : Txt K mg A) (w : W H0 H L) (i : Nat) (h : L[i]? = some (l, .ins A.c_Player dx (fl_Player a0 a1 a2 a3 a4 a5 a6 a7 a8 a9 a10 a11 a12))) (k : ∀ H', W H0 H' (L.set i (l, .ins A.c_Player dx (fl_Player a0 a1 a2 a3 a4 a5 a6 a7 a8 y a10 a11 a12))) → QH H') : xFldSt K "rows" (.ref l) y H QH := st_fld w i h T.c_Player T.n_Player_rows (by show 13 < 1000; decide) (by rw [st_Player_rows]; exact k)
theorem sf_Player_is_playing {K : PySem.W.Frag} {mg : Str → Option Value} {A : Ads} {H0 H : Hp} {L : List Ent} {l dx : Addr} {a0 a1 a2 a3 a4 a5 a6 a7 a8 a9 a10 a11 a12 y : V} {QH : Hp → Prop} (T : Txt K mg A) (w : W H0 H L) (i : Nat) (h : L[i]? = some (l, .ins A.c_Player dx (fl_Player a0 a1 a2 a3 a4 a5 a6 a7 a8 a9 a10 a11 a12))) (k : ∀ H', W H0 H' (L.set i (l, .ins A.c_Player dx (fl_Player a0 a1 a2 a3 a4 a5 a6 a7 a8 a9 y a11 a12))) → QH H') : xFldSt K "is_playing" (.ref l) y H QH := st_fld w i h T.c_Player T.n_Player_is_playing (by show 13 < 1000; decide) (by rw [st_Player_is_playing]; exact k)
theorem sf_Player_stops {K : PySem.W.Frag} {mg : Str → Option Value} {A : Ads} {H0 H : Hp} {L : List Ent} {l dx : Addr} {a0 a1 a2 a3 a4 a5 a6 a7 a8 a9 a10 a11 a12 y : V} {QH : Hp → Prop} (T : Txt K mg A) (w : W H0 H L) (i : Nat) (h : L[i]? = some (l, .ins A.c_Player dx (fl_Player a0 a1 a2 a3 a4 a5 a6 a7 a8 a9 a10 a11 a12))) (k : ∀ H', W H0 H' (L.set i (l, .ins A.c_Player dx (fl_Player a0 a1 a2 a3 a4 a5 a6 a7 a8 a9 a10 y a12))) → QH H') : xFldSt K "stops" (.ref l) y H QH := st_fld w i h T.c_Player T.n_Player_stops (by show 13 < 1000; decide) (by rw [st_Player_stops]; exact k)
theorem sf_Player_sleep_left {K : PySem.W.Frag} {mg : Str → Option Value} {A : Ads} {H0 H : Hp} {L : List Ent} {l dx : Addr} {a0 a1 a2 a3 a4 a5 a6 a7 a8 a9 a10 a11 a12 y : V} {QH : Hp → Prop} (T : Txt K mg A) (w : W H0 H L) (i : Nat) (h : L[i]? = some (l, .ins A.c_Player dx (fl_Player a0 a1 a2 a3 a4 a5 a6 a7 a8 a9 a10 a11 a12))) (k : ∀ H', W H0 H' (L.set i (l, .ins A.c_Player dx (fl_Player a0 a1 a2 a3 a4 a5 a6 a7 a8 a9 a10 a11 y))) → QH H') : xFldSt K "sleep_left" (.ref l) y H QH := st_fld w i h T.c_Player T.n_Player_sleep_left (by show 13 < 1000; decide) (by rw [st_Player_sleep_left]; exact k)
theorem ln_Player (a0 a1 a2 a3 a4 a5 a6 a7 a8 a9 a10 a11 a12 : V) : (fl_Player a0 a1 a2 a3 a4 a5 a6 a7 a8 a9 a10 a11 a12).length < 1000 := by show 13 < 1000; decide
def fl_Shelf (a0 : V) : List (Str × V) := [("longs", a0)]
theorem fl_Shelf_longs (a0 : V) : (fl_Shelf a0).lookup ("longs" : Str) = some a0 := by kernel_rfl
theorem st_Shelf_longs (a0 b : V) : putF "longs" b (fl_Shelf a0) = fl_Shelf b := by kernel_rfl
theorem no_Shelf_init__ (a0 : V) : (fl_Shelf a0).lookup ("__init__" : Str) = none := by kernel_rfl
theorem no_Shelf_add (a0 : V) : (fl_Shelf a0).lookup ("add" : Str) = none := by kernel_rfl
theorem no_Shelf_need (a0 : V) : (fl_Shelf a0).lookup ("need" : Str) = none := by kernel_rfl
theorem no_Shelf_long (a0 : V) : (fl_Shelf a0).lookup ("long" : Str) = none := by kernel_rfl
theorem no_Shelf_names (a0 : V) : (fl_Shelf a0).lookup ("names" : Str) = none := by kernel_rfl
theorem sf_Shelf_longs {K : PySem.W.Frag} {mg : Str → Option Value} {A : Ads} {H0 H : Hp} {L : List Ent} {l dx : Addr} {a0 y : V} {QH : Hp → Prop} (T : Txt K mg A) (w : W H0 H L) (i : Nat) (h : L[i]? = some (l, .ins A.c_Shelf dx (fl_Shelf a0))) (k : ∀ H', W H0 H' (L.set i (l, .ins A.c_Shelf dx (fl_Shelf y))) → QH H') : xFldSt K "longs" (.ref l) y H QH := st_fld w i h T.c_Shelf T.n_Shelf_longs (by show 1 < 1000; decide) (by rw [st_Shelf_longs]; exact k)
theorem ln_Shelf (a0 : V) : (fl_Shelf a0).length < 1000 := by show 1 < 1000; decide
end TR
namespace TR
open PySem L2
end TR

local macro_rules | `(tactic| walk_at "cls") => `(tactic| first
  | exact TR.Txt.c_Dice ‹TR.Txt _ _ _›
  | exact TR.Txt.c_Queue ‹TR.Txt _ _ _›
  | exact TR.Txt.c_Order ‹TR.Txt _ _ _›
  | exact TR.Txt.c_Player ‹TR.Txt _ _ _›
  | exact TR.Txt.c_Shelf ‹TR.Txt _ _ _›)
local macro_rules | `(tactic| walk_at "noat") => `(tactic| first
  | exact TR.Txt.n_Dice_number ‹TR.Txt _ _ _›
  | exact TR.Txt.n_Queue_tunes ‹TR.Txt _ _ _›
  | exact TR.Txt.n_Queue_turn ‹TR.Txt _ _ _›
  | exact TR.Txt.n_Queue_last ‹TR.Txt _ _ _›
  | exact TR.Txt.n_Order_queue ‹TR.Txt _ _ _›
  | exact TR.Txt.n_Order_dice ‹TR.Txt _ _ _›
  | exact TR.Txt.n_Order_is_mixed ‹TR.Txt _ _ _›
  | exact TR.Txt.n_Order_again ‹TR.Txt _ _ _›
  | exact TR.Txt.n_Order_deck ‹TR.Txt _ _ _›
  | exact TR.Txt.n_Order_is_gone ‹TR.Txt _ _ _›
  | exact TR.Txt.n_Order_behind ‹TR.Txt _ _ _›
  | exact TR.Txt.n_Player_shelf ‹TR.Txt _ _ _›
  | exact TR.Txt.n_Player_overlap ‹TR.Txt _ _ _›
  | exact TR.Txt.n_Player_order ‹TR.Txt _ _ _›
  | exact TR.Txt.n_Player_time ‹TR.Txt _ _ _›
  | exact TR.Txt.n_Player_now ‹TR.Txt _ _ _›
  | exact TR.Txt.n_Player_spot ‹TR.Txt _ _ _›
  | exact TR.Txt.n_Player_old ‹TR.Txt _ _ _›
  | exact TR.Txt.n_Player_soon ‹TR.Txt _ _ _›
  | exact TR.Txt.n_Player_past ‹TR.Txt _ _ _›
  | exact TR.Txt.n_Player_rows ‹TR.Txt _ _ _›
  | exact TR.Txt.n_Player_is_playing ‹TR.Txt _ _ _›
  | exact TR.Txt.n_Player_stops ‹TR.Txt _ _ _›
  | exact TR.Txt.n_Player_sleep_left ‹TR.Txt _ _ _›
  | exact TR.Txt.n_Shelf_longs ‹TR.Txt _ _ _›)
local macro_rules | `(tactic| walk_at "excc") => `(tactic| first
  | exact TR.Txt.e_RoadError ‹TR.Txt _ _ _›
  | exact TR.Txt.e_BadTune ‹TR.Txt _ _ _›
  | exact TR.Txt.e_BadNumber ‹TR.Txt _ _ _›
  | exact TR.Txt.e_BadEntry ‹TR.Txt _ _ _›
  | exact TR.Txt.e_BadWord ‹TR.Txt _ _ _›)
local macro_rules | `(tactic| walk_at "kit") => `(tactic| first
  | exact TR.Txt.i_RoadError_RoadError ‹TR.Txt _ _ _›
  | exact TR.Txt.i_RoadError_BadTune ‹TR.Txt _ _ _›
  | exact TR.Txt.i_RoadError_BadNumber ‹TR.Txt _ _ _›
  | exact TR.Txt.i_RoadError_BadEntry ‹TR.Txt _ _ _›
  | exact TR.Txt.i_RoadError_BadWord ‹TR.Txt _ _ _›
  | exact TR.Txt.i_RoadError_ValueError ‹TR.Txt _ _ _›
  | exact TR.Txt.i_BadTune_RoadError ‹TR.Txt _ _ _›
  | exact TR.Txt.i_BadTune_BadTune ‹TR.Txt _ _ _›
  | exact TR.Txt.i_BadTune_BadNumber ‹TR.Txt _ _ _›
  | exact TR.Txt.i_BadTune_BadEntry ‹TR.Txt _ _ _›
  | exact TR.Txt.i_BadTune_BadWord ‹TR.Txt _ _ _›
  | exact TR.Txt.i_BadTune_ValueError ‹TR.Txt _ _ _›
  | exact TR.Txt.i_BadNumber_RoadError ‹TR.Txt _ _ _›
  | exact TR.Txt.i_BadNumber_BadTune ‹TR.Txt _ _ _›
  | exact TR.Txt.i_BadNumber_BadNumber ‹TR.Txt _ _ _›
  | exact TR.Txt.i_BadNumber_BadEntry ‹TR.Txt _ _ _›
  | exact TR.Txt.i_BadNumber_BadWord ‹TR.Txt _ _ _›
  | exact TR.Txt.i_BadNumber_ValueError ‹TR.Txt _ _ _›
  | exact TR.Txt.i_BadEntry_RoadError ‹TR.Txt _ _ _›
  | exact TR.Txt.i_BadEntry_BadTune ‹TR.Txt _ _ _›
  | exact TR.Txt.i_BadEntry_BadNumber ‹TR.Txt _ _ _›
  | exact TR.Txt.i_BadEntry_BadEntry ‹TR.Txt _ _ _›
  | exact TR.Txt.i_BadEntry_BadWord ‹TR.Txt _ _ _›
  | exact TR.Txt.i_BadEntry_ValueError ‹TR.Txt _ _ _›
  | exact TR.Txt.i_BadWord_RoadError ‹TR.Txt _ _ _›
  | exact TR.Txt.i_BadWord_BadTune ‹TR.Txt _ _ _›
  | exact TR.Txt.i_BadWord_BadNumber ‹TR.Txt _ _ _›
  | exact TR.Txt.i_BadWord_BadEntry ‹TR.Txt _ _ _›
  | exact TR.Txt.i_BadWord_BadWord ‹TR.Txt _ _ _›
  | exact TR.Txt.i_BadWord_ValueError ‹TR.Txt _ _ _›)
local macro_rules | `(tactic| walk_at "kt") => `(tactic| first
  | exact TR.Txt.tu_REPEATS ‹TR.Txt _ _ _› _)
local macro_rules | `(tactic| walk_at "dgk") => `(tactic| first
  | fail)
local macro_rules | `(tactic| walk_at "hg") => `(tactic| first
  | exact TR.W.get ‹TR.W _ _ _› 0 rfl | exact TR.W.get ‹TR.W _ _ _› 1 rfl | exact TR.W.get ‹TR.W _ _ _› 2 rfl | exact TR.W.get ‹TR.W _ _ _› 3 rfl
  | exact TR.W.get ‹TR.W _ _ _› 4 rfl | exact TR.W.get ‹TR.W _ _ _› 5 rfl | exact TR.W.get ‹TR.W _ _ _› 6 rfl | exact TR.W.get ‹TR.W _ _ _› 7 rfl
  | exact TR.W.get ‹TR.W _ _ _› 8 rfl | exact TR.W.get ‹TR.W _ _ _› 9 rfl | exact TR.W.get ‹TR.W _ _ _› 10 rfl | exact TR.W.get ‹TR.W _ _ _› 11 rfl
  | exact TR.W.get ‹TR.W _ _ _› 12 rfl | exact TR.W.get ‹TR.W _ _ _› 13 rfl | exact TR.W.get ‹TR.W _ _ _› 14 rfl | exact TR.W.get ‹TR.W _ _ _› 15 rfl
  | exact TR.W.get ‹TR.W _ _ _› 16 rfl | exact TR.W.get ‹TR.W _ _ _› 17 rfl | exact TR.W.get ‹TR.W _ _ _› 18 rfl | exact TR.W.get ‹TR.W _ _ _› 19 rfl)
local macro_rules | `(tactic| walk_at "sz") => `(tactic| (simp only [List.length_map, List.length_append, List.length_cons, List.length_nil, List.length_set, List.length_take, List.length_drop, List.length_replicate, List.length_reverse]; first | exact TR.szL (by omega) | exact TR.szE (by omega)))
local macro_rules | `(tactic| walk_at "dg") => `(tactic| first | walk_at "dgk" | exact L2.DGet.k (k := Sum.inr _) (by walk_at "hg") | exact L2.DGet.k (k := Sum.inl _) (by walk_at "hg"))
local macro_rules | `(tactic| walk_at "sd") => `(tactic| first
  | ((with_reducible show (_ : Option L2.HO) = _); first | assumption | walk_at "hg")
  | ((with_reducible show PySem.W.kitOne _ _ _ = _); walk_at "kit")
  | ((with_reducible show _ = _); first | rfl | assumption | exact TR.flat_ints _ | decide)
  | ((with_reducible show L2.Cls _ _); walk_at "cls")
  | ((with_reducible show L2.NoAttr _ _ _); walk_at "noat")
  | ((with_reducible show L2.ExcC _ _); walk_at "excc")
  | ((with_reducible show L2.SqL _ _ _ _); first | assumption | exact L2.SqL.of (by walk_at "hg"))
  | ((with_reducible show L2.SqT _ _ _ _); first | assumption | exact L2.SqT.of (by first | assumption | walk_at "hg") | walk_at "kt")
  | ((with_reducible show L2.SqL _ _ _ _ ∨ L2.SqT _ _ _ _); first | exact Or.inl (L2.SqL.of (by walk_at "hg")) | exact Or.inr (L2.SqT.of (by first | assumption | walk_at "hg")) | exact Or.inr (by walk_at "kt") | exact Or.inl (by assumption))
  | ((with_reducible show L2.RgC _ _ _ _); exact L2.RgC.neg (by omega) (by omega) (by omega) (by omega))
  | ((with_reducible show L2.RgOk _ _); exact L2.RgOk.of_le (by omega) (by omega) (by omega) (by omega))
  | ((with_reducible show L2.tyV _ _ _ _); first | exact Or.inl ⟨rfl, _, L2.SqL.of (by walk_at "hg")⟩ | exact Or.inr (Or.inr (Or.inl ⟨rfl, Or.inl ⟨_, by walk_at "hg"⟩⟩)))
  | ((with_reducible show L2.TruV _ _ _ _); first | exact Or.inl ⟨_, L2.SqL.of (by walk_at "hg"), rfl⟩ | rfl)
  | ((with_reducible show L2.DGet _ _ _ _); walk_at "dg")
  | ((with_reducible show _ ≤ _); first | omega | (simp only [List.length_map, List.length_append, List.length_cons, List.length_nil, List.length_set]; omega) | walk_at "sz")
  | ((with_reducible show _ < _); first | omega | (simp only [List.length_map, List.length_append, List.length_cons, List.length_nil, List.length_set]; omega) | walk_at "sz")
  | assumption
  | exact fun _ z => z
  | exact ⟨_, rfl⟩
  | exact ⟨_, L2.SqL.of (by walk_at "hg")⟩
  | ((with_reducible show L2.CDiv _ _); exact ⟨by first | decide | omega, by first | decide | omega⟩)
  | ((with_reducible show L2.CPow _ _); exact ⟨by first | decide | omega, by first | decide | omega, by first | decide | omega⟩)
  | ((with_reducible show L2.CMul _ _); first | exact Or.inl ⟨by first | decide | omega, by first | decide | omega⟩ | exact Or.inr ⟨by first | decide | omega, by first | decide | omega⟩))
local macro_rules | `(tactic| walk_at "rd") => `(tactic| repeat (first | apply Exists.intro | (refine And.intro ?_ ?_; · walk_at "sd")))
local macro_rules | `(tactic| walk_at "scr") => `(tactic| first | assumption | (apply TR.Scr.cons; walk_at "scr") | (apply TR.Scr.app; walk_at "scr"))
local macro_rules | `(tactic| walk_at "perm") => `(tactic| (refine TR.permC fun _ _ _ => ?_; simp only [List.count_append, List.count_cons, List.count_nil]; ac_rfl))

namespace TR
open PySem L2
/-! ### the law's draws -/
def cellP (ns : List Int) (k : Int) : Int := if ns = [] then 0 else ns.getD (k % (ns.length : Int)).toNat 0
def mixP (ns : List Int) (k : Int) : Int :=
  let n1 := (cellP ns k + 104729 * (k + 1)) % 4294967291
  let n2 := n1 ^ 5 % 4294967279
  (n2 / 64 * 69621 + n2) % 4294967231
def drawP (ns : List Int) (n : Nat) (m : Int) : Int := mixP ns ((n : Int) + 1) / 8 % m
theorem drawP_nn (ns : List Int) (n : Nat) {m : Int} (h : 0 < m) : 0 ≤ drawP ns n m := Int.emod_nonneg _ (by omega)
theorem drawP_lt (ns : List Int) (n : Nat) {m : Int} (h : 0 < m) : drawP ns n m < m := Int.emod_lt_of_pos _ h
def zeros (n : Nat) : List V := List.replicate n (V.int 0)
theorem zeros_succ (n : Nat) : zeros n ++ [V.int 0] = zeros (n + 1) := by unfold zeros; rw [List.replicate_succ']
theorem zeros_len (n : Nat) : (zeros n).length = n := by unfold zeros; exact List.length_replicate
@[irreducible] def sp_cell (K : PySem.W.Frag) : Sp := fun vs H Q _ => ∃ (a : Addr) (ns : List Int) (k : Int), vs = [.ref a, .int k] ∧ SqL K H a (ns.map V.int) ∧ Q (.int (cellP ns k)) H
theorem of_cell {K : PySem.W.Frag} {vs : List V} {H : Hp} {Q : VK} {E : XK} (h :  ∃ (a : Addr) (ns : List Int) (k : Int), vs = [.ref a, .int k] ∧ SqL K H a (ns.map V.int) ∧ Q (.int (cellP ns k)) H) : sp_cell K vs H Q E := by unfold sp_cell; exact h
@[irreducible] def sp_mix (K : PySem.W.Frag) : Sp := fun vs H Q _ => ∃ (a : Addr) (ns : List Int) (k : Int), vs = [.ref a, .int k] ∧ SqL K H a (ns.map V.int) ∧ 0 ≤ k ∧ k < 1000000 ∧ Q (.int (mixP ns k)) H
theorem of_mix {K : PySem.W.Frag} {vs : List V} {H : Hp} {Q : VK} {E : XK} (h :  ∃ (a : Addr) (ns : List Int) (k : Int), vs = [.ref a, .int k] ∧ SqL K H a (ns.map V.int) ∧ 0 ≤ k ∧ k < 1000000 ∧ Q (.int (mixP ns k)) H) : sp_mix K vs H Q E := by unfold sp_mix; exact h
/-- town holds n noughts; R the rest, the script among it -/
@[irreducible] def sp_draw (K : PySem.W.Frag) : Sp := fun vs H Q _ => ∃ (a t : Addr) (ns : List Int) (n : Nat) (m : Int) (R : List Ent), vs = [.ref a, .ref t, .int m] ∧ Scr K a ns R ∧ W H H ((t, .lst (zeros n)) :: R) ∧ n ≤ 10000 ∧ 0 < m ∧
  ∀ H', W H H' ((t, .lst (zeros (n + 1))) :: R) → Q (.int (drawP ns n m)) H'
theorem of_draw {K : PySem.W.Frag} {vs : List V} {H : Hp} {Q : VK} {E : XK} (h :  ∃ (a t : Addr) (ns : List Int) (n : Nat) (m : Int) (R : List Ent), vs = [.ref a, .ref t, .int m] ∧ Scr K a ns R ∧ W H H ((t, .lst (zeros n)) :: R) ∧ n ≤ 10000 ∧ 0 < m ∧
  ∀ H', W H H' ((t, .lst (zeros (n + 1))) :: R) → Q (.int (drawP ns n m)) H') : sp_draw K vs H Q E := by unfold sp_draw; exact h
@[irreducible] def sp_pick (K : PySem.W.Frag) : Sp := fun vs H Q _ => ∃ (a t b : Addr) (ns : List Int) (n : Nat) (xs : List V) (R : List Ent), vs = [.ref a, .ref t, .ref b] ∧ Scr K a ns R ∧ W H H ((t, .lst (zeros n)) :: R) ∧ (∀ H0 H', W H0 H' R → SqL K H' b xs) ∧ n ≤ 10000 ∧ xs ≠ [] ∧
  ∀ H' v, W H H' ((t, .lst (zeros (n + 1))) :: R) → xs[(drawP ns n xs.length).toNat]? = some v → Q v H'
theorem of_pick {K : PySem.W.Frag} {vs : List V} {H : Hp} {Q : VK} {E : XK} (h :  ∃ (a t b : Addr) (ns : List Int) (n : Nat) (xs : List V) (R : List Ent), vs = [.ref a, .ref t, .ref b] ∧ Scr K a ns R ∧ W H H ((t, .lst (zeros n)) :: R) ∧ (∀ H0 H', W H0 H' R → SqL K H' b xs) ∧ n ≤ 10000 ∧ xs ≠ [] ∧
  ∀ H' v, W H H' ((t, .lst (zeros (n + 1))) :: R) → xs[(drawP ns n xs.length).toNat]? = some v → Q v H') : sp_pick K vs H Q E := by unfold sp_pick; exact h
theorem toNat_mod_lt {k : Int} {n : Nat} (h : 0 < n) : (k % (n : Int)).toNat < n := by
  have h1 : 0 ≤ k % (n : Int) := Int.emod_nonneg _ (by omega)
  have h2 : k % (n : Int) < n := Int.emod_lt_of_pos _ (by omega)
  omega
section
variable {P : Program} {w : World} {K : PySem.W.Frag} {mg : Str → Option Value} {base : Heap} {A : Ads}
theorem ok_law_cell (T : Txt K mg A) : FnOk P w K mg base (L2.CX P w) 1 A.f_law_cell A.d_law_cell P_law_cell (sp_cell K) := by
  refine T.F_law_cell.okX sc_law_cell (fun vs H Q E h => ?_) (fun cdv Ar outer s H vs Q E hr h => ?_)
  · unfold sp_cell at h; obtain ⟨a, ns, k, rfl, _⟩ := h; rfl
  · unfold sp_cell at h; obtain ⟨a, ns, k, rfl, hs, q⟩ := h
    refine ⟨_, (pss_cons (my_if (pt_truth (pv 0) (by intro _; rfl))
        (pss_one (ps_ret (pe_ix ix_list (pv 0) (pe_op op_mod (pv 1) (pe_callB my_lenQ (by rfl) T.z_len PySem.boot_len (pa_cons (pv 0) pa_nil))) (fun _ _ => rfl))))
        pss_nil)
      (pss_one (ps_ret pe_int))), ?_⟩
    refine ⟨_, rfl, _, .inl ⟨_, hs, rfl⟩, ?_⟩
    refine xIf_2 (fun h => ?_) (fun h => ?_)
    · have hn : ns ≠ [] := fun z => by subst z; cases h
      have hl : 0 < ns.length := List.length_pos_iff.mpr hn
      have e : (ns.map V.int)[(k % (ns.length : Int)).toNat]? = some (V.int (cellP ns k)) := by
        rw [List.getElem?_map, List.getElem?_eq_getElem (toNat_mod_lt hl)]
        unfold cellP
        rw [if_neg hn, List.getD_eq_getElem?_getD, List.getElem?_eq_getElem (toNat_mod_lt hl)]
        rfl
      refine ⟨_, rfl, _, rfl, _, rfl, _, _, rfl, .inl hs, _, _, rfl, rfl, ?_, _, _, _, _, rfl, rfl, hs, ?_, q⟩
      · rw [List.length_map]; omega
      · rw [List.length_map]
        exact at_of (Int.toNat_of_nonneg (Int.emod_nonneg _ (by omega))).symm e
    · have hn : ns = [] := by
        cases ns with
        | nil => rfl
        | cons a r => cases h
      unfold cellP at q
      rw [if_pos hn] at q
      exact q
theorem n1_bd (a : Int) : 0 ≤ a % 4294967291 ∧ a % 4294967291 < 4294967291 := ⟨Int.emod_nonneg _ (by decide), Int.emod_lt_of_pos _ (by decide)⟩
theorem n2_bd (a : Int) : 0 ≤ a % 4294967279 ∧ a % 4294967279 < 4294967279 := ⟨Int.emod_nonneg _ (by decide), Int.emod_lt_of_pos _ (by decide)⟩
theorem ok_law_mix (T : Txt K mg A) : FnOk P w K mg base (L2.CX P w) 2 A.f_law_mix A.d_law_mix P_law_mix (sp_mix K) := by
  refine T.F_law_mix.okX sc_law_mix (fun vs H Q E h => ?_) (fun cdv Ar outer s H vs Q E hr h => ?_)
  · unfold sp_mix at h; obtain ⟨a, ns, k, rfl, _⟩ := h; rfl
  · unfold sp_mix at h; obtain ⟨a, ns, k, rfl, hs, h0, h1, q⟩ := h
    refine ⟨_, (pss_cons (ps_set (i := 2) sc_law_mix.nd rfl (by first | exact Or.inl rfl | exact Or.inr rfl) (pe_op op_mod (pe_op op_add (my_call (ok_law_cell T) (hr.mono (by decide)) (by rfl) T.g_law_cell T.k_law_cell T.b_law_cell passE (pa_cons (pv 0) (pa_cons (pv 1) pa_nil))) (pe_op op_mul pe_int (pe_op op_add (pv 1) pe_int))) pe_int))
      (pss_cons (ps_set (i := 2) sc_law_mix.nd rfl (by first | exact Or.inl rfl | exact Or.inr rfl) (pe_op op_mod (pe_op op_pow (pv 2) pe_int) pe_int))
      (pss_one (ps_ret (pe_op op_mod (pe_op op_add (pe_op op_mul (pe_op op_fdiv (pv 2) pe_int) pe_int) (pv 2)) pe_int))))), ?_⟩
    refine ⟨_, rfl, _, rfl, st_call ?_⟩
    unfold sp_cell
    refine ⟨_, _, _, rfl, hs, ?_⟩
    have b1 := n1_bd (cellP ns k + 104729 * (k + 1))
    have b2 := n2_bd (((cellP ns k + 104729 * (k + 1)) % 4294967291) ^ 5)
    refine ⟨_, rfl, _, _, rfl, rfl, _, _, rfl, rfl, .inl ⟨by decide, by decide⟩, _, _, rfl, rfl, _, _, rfl, rfl, (by show (0 : Int) < _; decide), ?_⟩
    refine ⟨_, rfl, _, _, rfl, rfl, ⟨by decide, by decide, by omega⟩, _, _, rfl, rfl, (by show (0 : Int) < _; decide), ?_⟩
    refine ⟨_, rfl, _, _, rfl, rfl, ⟨by decide, by decide⟩, _, _, rfl, rfl, .inr ⟨by decide, by decide⟩, _, rfl, _, _, rfl, rfl, _, _, rfl, rfl, (by show (0 : Int) < _; decide), ?_⟩
    exact q
theorem ok_law_draw (T : Txt K mg A) : FnOk P w K mg base (L2.CX P w) 3 A.f_law_draw A.d_law_draw P_law_draw (sp_draw K) := by
  refine T.F_law_draw.okX sc_law_draw (fun vs H Q E h => ?_) (fun cdv Ar outer s H vs Q E hr h => ?_)
  · unfold sp_draw at h; obtain ⟨a, t, ns, n, m, R, rfl, _⟩ := h; rfl
  · unfold sp_draw at h; obtain ⟨a, t, ns, n, m, R, rfl, sc, w, hn, hm, q⟩ := h
    refine ⟨_, (pss_cons (ps_expr (pe_bm PySem.F.plainAttrs_list PySem.F.slot_list_append PySem.F.type_list_append my_append (pv 1) (pa_cons pe_int pa_nil)))
      (pss_one (ps_ret (pe_op op_mod (pe_op op_fdiv (my_call (ok_law_mix T) (hr.mono (by decide)) (by rfl) T.g_law_mix T.k_law_mix T.b_law_mix passE (pa_cons (pv 0) (pa_cons (pe_callB my_lenQ (by rfl) T.z_len PySem.boot_len (pa_cons (pv 1) pa_nil)) pa_nil))) pe_int) (pv 2))))), ?_⟩
    walk_at "rd"
    refine st_app w 0 rfl (by rw [zeros_len]; exact szL (by omega)) fun H1 w1 => ?_
    rw [zeros_succ] at w1
    replace w1 : W H H1 ((t, .lst (zeros (n + 1))) :: R) := w1
    walk_at "rd"
    refine st_call ?_
    unfold sp_mix
    refine ⟨a, ns, _, rfl, sc _ _ w1.drop1, by omega, by rw [zeros_len]; omega, ?_⟩
    refine ⟨_, _, rfl, rfl, ⟨by decide, by decide⟩, _, rfl, _, _, rfl, rfl, hm, ?_⟩
    have e := q H1 w1
    unfold drawP at e
    rw [zeros_len]
    exact e
theorem ok_law_pick (T : Txt K mg A) : FnOk P w K mg base (L2.CX P w) 4 A.f_law_pick A.d_law_pick P_law_pick (sp_pick K) := by
  refine T.F_law_pick.okX sc_law_pick (fun vs H Q E h => ?_) (fun cdv Ar outer s H vs Q E hr h => ?_)
  · unfold sp_pick at h; obtain ⟨a, t, b, ns, n, xs, R, rfl, _⟩ := h; rfl
  · unfold sp_pick at h; obtain ⟨a, t, b, ns, n, xs, R, rfl, sc, w, hb, hn, hx, q⟩ := h
    refine ⟨_, (pss_one (ps_ret (pe_ix ix_list (pv 2) (my_call (ok_law_draw T) (hr.mono (by decide)) (by rfl) T.g_law_draw T.k_law_draw T.b_law_draw passE (pa_cons (pv 0) (pa_cons (pv 1) (pa_cons (pe_callB my_lenQ (by rfl) T.z_len PySem.boot_len (pa_cons (pv 2) pa_nil)) pa_nil)))) (fun _ _ => rfl)))), ?_⟩
    have hl : 0 < xs.length := List.length_pos_iff.mpr hx
    refine ⟨_, rfl, _, rfl, _, rfl, _, rfl, _, _, rfl, .inl (hb _ _ w.drop1), st_call ?_⟩
    unfold sp_draw
    refine ⟨a, t, ns, n, _, R, rfl, sc, w, hn, by omega, fun H1 w1 => ?_⟩
    have d0 := drawP_nn ns n (m := (xs.length : Int)) (by omega)
    have d1 := drawP_lt ns n (m := (xs.length : Int)) (by omega)
    have e := List.getElem?_eq_getElem (l := xs) (i := (drawP ns n xs.length).toNat) (by omega)
    exact ⟨_, _, _, _, rfl, rfl, hb _ _ w1.drop1, at_of (Int.toNat_of_nonneg d0).symm e, q H1 _ w1 e⟩
/-! a draw, a pick, with town the i-th entry -/
section
variable {H0 : Hp} {L : List Ent} {a t b : Addr} {ns : List Int} {n : Nat} {m : Int} {xs : List V} {Q : VK} {E : XK} {H : Hp}
theorem draw_at (w : W H0 H L) (i : Nat) (h : L[i]? = some (t, .lst (zeros n))) (sc : Scr K a ns (L.eraseIdx i)) (hn : n ≤ 10000) (hm : 0 < m)
    (k : ∀ H', W H0 H' (L.set i (t, .lst (zeros (n + 1)))) → 0 ≤ drawP ns n m → drawP ns n m < m → Q (.int (drawP ns n m)) H') : xCall (sp_draw K) [.ref a, .ref t, .int m] H Q E := by
  refine st_call ?_
  unfold sp_draw
  exact ⟨a, t, ns, n, m, _, rfl, sc, (w.front i h).now, hn, hm, fun H' v => k H' (w.back i h v) (drawP_nn ns n hm) (drawP_lt ns n hm)⟩
theorem pick_at (w : W H0 H L) (i j : Nat) (h : L[i]? = some (t, .lst (zeros n))) (hb : (L.eraseIdx i)[j]? = some (b, .lst xs)) (sc : Scr K a ns (L.eraseIdx i)) (hn : n ≤ 10000) (hx : xs ≠ [])
    (k : ∀ H' v, W H0 H' (L.set i (t, .lst (zeros (n + 1)))) → xs[(drawP ns n xs.length).toNat]? = some v → v ∈ xs → Q v H') : xCall (sp_pick K) [.ref a, .ref t, .ref b] H Q E := by
  refine st_call ?_
  unfold sp_pick
  exact ⟨a, t, b, ns, n, xs, _, rfl, sc, (w.front i h).now, fun _ _ v => SqL.of (v.get j hb), hn, hx, fun H' v w' e => k H' v (w.back i h w') e (List.mem_of_getElem? e)⟩
end
end
end TR

namespace TR
open PySem L2
/-! ### queues: the tunes by number, the turn -/
structure Qu where
  tunes : List Str
  turn : List Int
structure QA where
  q : Addr
  dx : Addr
  d : Addr
  t : Addr
def insP {α : Type} (xs : List α) (i : Nat) (y : α) : List α := xs.take i ++ [y] ++ xs.drop i
theorem insP_map {α β : Type} (f : α → β) (xs : List α) (i : Nat) (y : α) : (insP xs i y).map f = insP (xs.map f) i (f y) := by
  unfold insP; simp [List.map_take, List.map_drop]
theorem insP_len {α : Type} (xs : List α) (i : Nat) (y : α) : (insP xs i y).length = xs.length + 1 := by
  unfold insP
  simp only [List.length_append, List.length_take, List.length_drop, List.length_cons, List.length_nil]
  omega
theorem insP_perm {α : Type} (xs : List α) (i : Nat) (y : α) : (insP xs i y).Perm (y :: xs) := by
  unfold insP
  have h : (xs.take i ++ [y] ++ xs.drop i).Perm ([y] ++ xs.take i ++ xs.drop i) := List.Perm.append_right _ List.perm_append_comm
  refine h.trans ?_
  rw [List.append_assoc, List.take_append_drop]
  exact List.Perm.refl _
theorem mem_insP {α : Type} {xs : List α} {i : Nat} {y x : α} : x ∈ insP xs i y ↔ x = y ∨ x ∈ xs := by
  rw [(insP_perm xs i y).mem_iff, List.mem_cons]
def Qu.put (s : Qu) (x : Str) (p : Int) : Qu := ⟨s.tunes ++ [x], insP s.turn p.toNat ((s.tunes.length : Int) + 1)⟩
def Qu.rem (s : Qu) (e : Int) : Qu := ⟨s.tunes, s.turn.erase e⟩
def Qu.mov (s : Qu) (e p : Int) : Qu := ⟨s.tunes, insP (s.turn.erase e) p.toNat e⟩
def Qu.tune (s : Qu) (e : Int) : Str := s.tunes.getD (e - 1).toNat ""
/-- how the tunes stand in their dict -/
def tunesF : Nat → List Str → List (Key × V)
  | _, [] => []
  | k, x :: r => (Sum.inl ((k : Int) + 1), .str x) :: tunesF (k + 1) r
abbrev tunesK (ts : List Str) : List (Key × V) := tunesF 0 ts
theorem tunesF_len : ∀ (k : Nat) (ts : List Str), (tunesF k ts).length = ts.length
  | _, [] => rfl
  | k, x :: r => by
    show (tunesF (k + 1) r).length + 1 = r.length + 1
    rw [tunesF_len (k + 1) r]
theorem tunesF_none : ∀ (k : Nat) (ts : List Str) (e : Int), (e ≤ k ∨ (k : Int) + ts.length < e) → valV (tunesF k ts) (Sum.inl e) = none
  | _, [], _, _ => rfl
  | k, x :: r, e, h => by
    have ne : ¬ (Sum.inl ((k : Int) + 1) : Key) = Sum.inl e := fun z => by
      have z' := Sum.inl.inj z
      simp only [List.length_cons] at h
      omega
    rw [show tunesF k (x :: r) = (Sum.inl ((k : Int) + 1), .str x) :: tunesF (k + 1) r from rfl, valV_neg ne]
    refine tunesF_none (k + 1) r e ?_
    simp only [List.length_cons] at h
    omega
theorem tunesF_some : ∀ (k : Nat) (ts : List Str) (e : Int), (k : Int) < e → e ≤ (k : Int) + ts.length → valV (tunesF k ts) (Sum.inl e) = some (.str (ts.getD (e - 1 - k).toNat ""))
  | k, [], e, h1, h2 => by simp only [List.length_nil] at h2; omega
  | k, x :: r, e, h1, h2 => by
    by_cases z : (k : Int) + 1 = e
    · rw [show tunesF k (x :: r) = (Sum.inl ((k : Int) + 1), .str x) :: tunesF (k + 1) r from rfl, valV_pos (by rw [z])]
      rw [show (e - 1 - (k : Int)).toNat = 0 by omega]
      rfl
    · have ne : ¬ (Sum.inl ((k : Int) + 1) : Key) = Sum.inl e := fun q => z (Sum.inl.inj q)
      simp only [List.length_cons] at h2
      rw [show tunesF k (x :: r) = (Sum.inl ((k : Int) + 1), .str x) :: tunesF (k + 1) r from rfl, valV_neg ne, tunesF_some (k + 1) r e (by omega) (by omega)]
      rw [show (e - 1 - (k : Int)).toNat = (e - 1 - ((k + 1 : Nat) : Int)).toNat + 1 by omega]
      rfl
theorem tunesF_snoc : ∀ (k : Nat) (ts : List Str) (x : Str), tunesF k (ts ++ [x]) = tunesF k ts ++ [(Sum.inl ((k : Int) + ts.length + 1), .str x)]
  | k, [], x => by simp [tunesF]
  | k, y :: r, x => by
    show (Sum.inl ((k : Int) + 1), V.str y) :: tunesF (k + 1) (r ++ [x]) = _
    have e : ((k + 1 : Nat) : Int) + (r.length : Int) + 1 = (k : Int) + ((y :: r).length : Int) + 1 := by
      rw [List.length_cons]; push_cast; omega
    rw [tunesF_snoc (k + 1) r x, e]
    rfl
theorem tunesK_put (ts : List Str) (x : Str) : putK (tunesK ts) (Sum.inl ((ts.length : Int) + 1)) (.str x) = tunesK (ts ++ [x]) := by
  rw [putK_new _ (tunesF_none 0 ts _ (by omega))]
  show _ = tunesF 0 (ts ++ [x])
  rw [tunesF_snoc]
  simp
theorem Qu.val_some (s : Qu) {e : Int} (h : 1 ≤ e ∧ e ≤ s.tunes.length) : valV (tunesK s.tunes) (Sum.inl e) = some (.str (s.tune e)) := by
  rw [tunesF_some 0 s.tunes e (by omega) (by omega)]
  unfold Qu.tune
  simp
theorem Qu.val_none (s : Qu) {e : Int} (h : ¬ (1 ≤ e ∧ e ≤ s.tunes.length)) : valV (tunesK s.tunes) (Sum.inl e) = none := tunesF_none 0 s.tunes e (by omega)
/-- what holds of a queue -/
structure Qu.Ok (s : Qu) : Prop where
  nd : s.turn.Nodup
  bd : ∀ e ∈ s.turn, 1 ≤ e ∧ e ≤ s.tunes.length
  sz : s.turn.length ≤ 12
  tz : s.tunes.length ≤ 1000
def qL (A : Ads) (a : QA) (s : Qu) : List Ent := [(a.q, .ins A.c_Queue a.dx (fl_Queue (.ref a.d) (.ref a.t) (.int s.tunes.length))), (a.d, .dK (tunesK s.tunes)), (a.t, .lst (s.turn.map V.int))]
theorem Qu.Ok.put {s : Qu} (h : s.Ok) (x : Str) {p : Int} (h2 : s.turn.length ≠ 12) (h3 : s.tunes.length < 1000) : (s.put x p).Ok := by
  have hs := h.sz
  refine ⟨?_, ?_, ?_, ?_⟩
  · show (insP s.turn p.toNat _).Nodup
    rw [(insP_perm _ _ _).nodup_iff]
    exact List.nodup_cons.mpr ⟨fun m => by have := h.bd _ m; omega, h.nd⟩
  · intro e he
    show 1 ≤ e ∧ e ≤ ((s.tunes ++ [x]).length : Int)
    rw [List.length_append, List.length_singleton]
    rcases mem_insP.mp he with rfl | he
    · exact ⟨by omega, by push_cast; omega⟩
    · have := h.bd e he
      exact ⟨this.1, by push_cast; omega⟩
  · show (insP s.turn p.toNat _).length ≤ 12
    rw [insP_len]
    omega
  · show (s.tunes ++ [x]).length ≤ 1000
    rw [List.length_append, List.length_singleton]
    omega
theorem Qu.Ok.rem {s : Qu} (h : s.Ok) (e : Int) : (s.rem e).Ok :=
  ⟨h.nd.erase e, fun x hx => h.bd x (List.mem_of_mem_erase hx), Nat.le_trans (List.length_erase_le) h.sz, h.tz⟩
theorem Qu.Ok.mov {s : Qu} (h : s.Ok) {e p : Int} (he : e ∈ s.turn) : (s.mov e p).Ok := by
  refine ⟨?_, ?_, ?_, h.tz⟩
  · show (insP _ _ _).Nodup
    rw [(insP_perm _ _ _).nodup_iff]
    exact List.nodup_cons.mpr ⟨fun m => ((List.Nodup.mem_erase_iff h.nd).mp m).1 rfl, h.nd.erase e⟩
  · intro x hx
    rcases mem_insP.mp hx with rfl | hx
    · exact h.bd _ he
    · exact h.bd x (List.mem_of_mem_erase hx)
  · show (insP _ _ _).length ≤ 12
    rw [insP_len, List.length_erase_of_mem he]
    have := h.sz
    have := List.length_pos_of_mem he
    omega
@[irreducible] def sp_Queue_init (A : Ads) : Sp := fun vs H Q _ => ∃ (q dx : Addr) (R : List Ent), vs = [.ref q] ∧ W H H ((q, .ins A.c_Queue dx []) :: R) ∧ ∀ H' d t, W H H' (qL A ⟨q, dx, d, t⟩ ⟨[], []⟩ ++ R) → Q .non H'
theorem of_Queue_init {A : Ads} {vs : List V} {H : Hp} {Q : VK} {E : XK} (h :  ∃ (q dx : Addr) (R : List Ent), vs = [.ref q] ∧ W H H ((q, .ins A.c_Queue dx []) :: R) ∧ ∀ H' d t, W H H' (qL A ⟨q, dx, d, t⟩ ⟨[], []⟩ ++ R) → Q .non H') : sp_Queue_init A vs H Q E := by unfold sp_Queue_init; exact h
@[irreducible] def sp_Queue_entries (A : Ads) : Sp := fun vs H Q _ => ∃ (a : QA) (s : Qu) (R : List Ent), vs = [.ref a.q] ∧ W H H (qL A a s ++ R) ∧ ∀ H' l, W H H' ((l, .lst (s.turn.map V.int)) :: (qL A a s ++ R)) → Q (.ref l) H'
theorem of_Queue_entries {A : Ads} {vs : List V} {H : Hp} {Q : VK} {E : XK} (h :  ∃ (a : QA) (s : Qu) (R : List Ent), vs = [.ref a.q] ∧ W H H (qL A a s ++ R) ∧ ∀ H' l, W H H' ((l, .lst (s.turn.map V.int)) :: (qL A a s ++ R)) → Q (.ref l) H') : sp_Queue_entries A vs H Q E := by unfold sp_Queue_entries; exact h
@[irreducible] def sp_Queue_need (A : Ads) : Sp := fun vs H Q E => ∃ (a : QA) (s : Qu) (e : Int) (R : List Ent), vs = [.ref a.q, .int e] ∧ W H H (qL A a s ++ R) ∧ (e ∈ s.turn → Q .non H) ∧ (e ∉ s.turn → E (.ref A.c_BadEntry) none H)
theorem of_Queue_need {A : Ads} {vs : List V} {H : Hp} {Q : VK} {E : XK} (h :  ∃ (a : QA) (s : Qu) (e : Int) (R : List Ent), vs = [.ref a.q, .int e] ∧ W H H (qL A a s ++ R) ∧ (e ∈ s.turn → Q .non H) ∧ (e ∉ s.turn → E (.ref A.c_BadEntry) none H)) : sp_Queue_need A vs H Q E := by unfold sp_Queue_need; exact h
@[irreducible] def sp_Queue_tune (A : Ads) : Sp := fun vs H Q E => ∃ (a : QA) (s : Qu) (e : Int) (R : List Ent), vs = [.ref a.q, .int e] ∧ W H H (qL A a s ++ R) ∧ (1 ≤ e ∧ e ≤ s.tunes.length → Q (.str (s.tune e)) H) ∧ (¬ (1 ≤ e ∧ e ≤ s.tunes.length) → E (.ref A.c_BadEntry) none H)
theorem of_Queue_tune {A : Ads} {vs : List V} {H : Hp} {Q : VK} {E : XK} (h :  ∃ (a : QA) (s : Qu) (e : Int) (R : List Ent), vs = [.ref a.q, .int e] ∧ W H H (qL A a s ++ R) ∧ (1 ≤ e ∧ e ≤ s.tunes.length → Q (.str (s.tune e)) H) ∧ (¬ (1 ≤ e ∧ e ≤ s.tunes.length) → E (.ref A.c_BadEntry) none H)) : sp_Queue_tune A vs H Q E := by unfold sp_Queue_tune; exact h
@[irreducible] def sp_Queue_put (A : Ads) : Sp := fun vs H Q E => ∃ (a : QA) (s : Qu) (x : Str) (p : Int) (R : List Ent), vs = [.ref a.q, .str x, .int p] ∧ W H H (qL A a s ++ R) ∧ s.Ok ∧ s.tunes.length < 1000 ∧
  (0 ≤ p ∧ p ≤ s.turn.length ∧ s.turn.length ≠ 12 → ∀ H', W H H' (qL A a (s.put x p) ++ R) → Q (.int ((s.tunes.length : Int) + 1)) H') ∧ (¬ (0 ≤ p ∧ p ≤ s.turn.length ∧ s.turn.length ≠ 12) → E (.ref A.c_BadNumber) none H)
theorem of_Queue_put {A : Ads} {vs : List V} {H : Hp} {Q : VK} {E : XK} (h :  ∃ (a : QA) (s : Qu) (x : Str) (p : Int) (R : List Ent), vs = [.ref a.q, .str x, .int p] ∧ W H H (qL A a s ++ R) ∧ s.Ok ∧ s.tunes.length < 1000 ∧
  (0 ≤ p ∧ p ≤ s.turn.length ∧ s.turn.length ≠ 12 → ∀ H', W H H' (qL A a (s.put x p) ++ R) → Q (.int ((s.tunes.length : Int) + 1)) H') ∧ (¬ (0 ≤ p ∧ p ≤ s.turn.length ∧ s.turn.length ≠ 12) → E (.ref A.c_BadNumber) none H)) : sp_Queue_put A vs H Q E := by unfold sp_Queue_put; exact h
@[irreducible] def sp_Queue_remove (A : Ads) : Sp := fun vs H Q E => ∃ (a : QA) (s : Qu) (e : Int) (R : List Ent), vs = [.ref a.q, .int e] ∧ W H H (qL A a s ++ R) ∧ (e ∈ s.turn → ∀ H', W H H' (qL A a (s.rem e) ++ R) → Q .non H') ∧ (e ∉ s.turn → E (.ref A.c_BadEntry) none H)
theorem of_Queue_remove {A : Ads} {vs : List V} {H : Hp} {Q : VK} {E : XK} (h :  ∃ (a : QA) (s : Qu) (e : Int) (R : List Ent), vs = [.ref a.q, .int e] ∧ W H H (qL A a s ++ R) ∧ (e ∈ s.turn → ∀ H', W H H' (qL A a (s.rem e) ++ R) → Q .non H') ∧ (e ∉ s.turn → E (.ref A.c_BadEntry) none H)) : sp_Queue_remove A vs H Q E := by unfold sp_Queue_remove; exact h
@[irreducible] def sp_Queue_move (A : Ads) : Sp := fun vs H Q E => ∃ (a : QA) (s : Qu) (e p : Int) (R : List Ent), vs = [.ref a.q, .int e, .int p] ∧ W H H (qL A a s ++ R) ∧ s.Ok ∧
  (e ∈ s.turn → 0 ≤ p ∧ p < s.turn.length → ∀ H', W H H' (qL A a (s.mov e p) ++ R) → Q .non H') ∧ (e ∉ s.turn → E (.ref A.c_BadEntry) none H) ∧ (e ∈ s.turn → ¬ (0 ≤ p ∧ p < s.turn.length) → E (.ref A.c_BadNumber) none H)
theorem of_Queue_move {A : Ads} {vs : List V} {H : Hp} {Q : VK} {E : XK} (h :  ∃ (a : QA) (s : Qu) (e p : Int) (R : List Ent), vs = [.ref a.q, .int e, .int p] ∧ W H H (qL A a s ++ R) ∧ s.Ok ∧
  (e ∈ s.turn → 0 ≤ p ∧ p < s.turn.length → ∀ H', W H H' (qL A a (s.mov e p) ++ R) → Q .non H') ∧ (e ∉ s.turn → E (.ref A.c_BadEntry) none H) ∧ (e ∈ s.turn → ¬ (0 ≤ p ∧ p < s.turn.length) → E (.ref A.c_BadNumber) none H)) : sp_Queue_move A vs H Q E := by unfold sp_Queue_move; exact h
@[irreducible] def sp_Queue_place (A : Ads) : Sp := fun vs H Q E => ∃ (a : QA) (s : Qu) (e : Int) (R : List Ent), vs = [.ref a.q, .int e] ∧ W H H (qL A a s ++ R) ∧ (e ∈ s.turn → Q (.int (s.turn.idxOf e)) H) ∧ (e ∉ s.turn → E (.ref A.c_BadEntry) none H)
theorem of_Queue_place {A : Ads} {vs : List V} {H : Hp} {Q : VK} {E : XK} (h :  ∃ (a : QA) (s : Qu) (e : Int) (R : List Ent), vs = [.ref a.q, .int e] ∧ W H H (qL A a s ++ R) ∧ (e ∈ s.turn → Q (.int (s.turn.idxOf e)) H) ∧ (e ∉ s.turn → E (.ref A.c_BadEntry) none H)) : sp_Queue_place A vs H Q E := by unfold sp_Queue_place; exact h
theorem len_ints (ns : List Int) : ((ns.map V.int).length : Int) = (ns.length : Int) := by rw [List.length_map]
section
variable {P : Program} {w : World} {K : PySem.W.Frag} {mg : Str → Option Value} {base : Heap} {A : Ads}
theorem ok_Queue_init__ (T : Txt K mg A) : FnOk P w K mg base (L2.CX P w) 1 A.f_Queue_init__ A.d_Queue_init__ P_Queue_init__ (sp_Queue_init A) := by
  refine T.F_Queue_init__.okX sc_Queue_init__ (fun vs H Q E h => ?_) (fun cdv Ar outer s H vs Q E hr h => ?_)
  · unfold sp_Queue_init at h; obtain ⟨q, dx, R, rfl, _⟩ := h; rfl
  · unfold sp_Queue_init at h; obtain ⟨q, dx, R, rfl, w, k⟩ := h
    refine ⟨_, (pss_cons (my_fld (pv 0) my_dnew)
      (pss_cons (my_fld (pv 0) (my_lst pa_nil))
      (pss_one (my_fld (pv 0) pe_int)))), ?_⟩
    refine st_new w fun d H1 w1 => ?_
    walk_at "rd"
    refine st_fld w1 1 rfl T.c_Queue T.n_Queue_tunes (by decide) fun H2 w2 => ?_
    walk_at "rd"
    refine st_new w2 fun t H3 w3 => ?_
    walk_at "rd"
    refine st_fld w3 2 rfl T.c_Queue T.n_Queue_turn (by show 1 < 1000; decide) fun H4 w4 => ?_
    walk_at "rd"
    refine st_fld w4 2 rfl T.c_Queue T.n_Queue_last (by show 2 < 1000; decide) fun H5 w5 => ?_
    exact k H5 d t ((w5.rot 1 2).rot 1 1)
theorem ok_Queue_entries (T : Txt K mg A) : FnOk P w K mg base (L2.CX P w) 1 A.f_Queue_entries A.d_Queue_entries P_Queue_entries (sp_Queue_entries A) := by
  refine T.F_Queue_entries.okX sc_Queue_entries (fun vs H Q E h => ?_) (fun cdv Ar outer s H vs Q E hr h => ?_)
  · unfold sp_Queue_entries at h; obtain ⟨a, s, R, rfl, _⟩ := h; rfl
  · unfold sp_Queue_entries at h; obtain ⟨a, s, R, rfl, w, k⟩ := h
    refine ⟨_, (pss_one (ps_ret (pe_callTy my_listOf (by rfl) T.z_list (by decide +kernel) (pa_cons (pe_fld (pv 0) rfl) pa_nil)))), ?_⟩
    walk_at "rd"
    exact st_new w fun l H1 w1 => k H1 l w1
theorem ok_Queue_need (T : Txt K mg A) : FnOk P w K mg base (L2.CX P w) 1 A.f_Queue_need A.d_Queue_need P_Queue_need (sp_Queue_need A) := by
  refine T.F_Queue_need.okX sc_Queue_need (fun vs H Q E h => ?_) (fun cdv Ar outer s H vs Q E hr h => ?_)
  · unfold sp_Queue_need at h; obtain ⟨a, s, e, R, rfl, _⟩ := h; rfl
  · unfold sp_Queue_need at h; obtain ⟨a, s, e, R, rfl, w, k1, k2⟩ := h
    refine ⟨_, (pss_one (my_if (pt_cmpR op_notIn_seq (pv 1) (pe_fld (pv 0) rfl) (by rfl))
        (pss_one (ps_raise rfl takesE (pmk_own PySem.F.excBase_ValueError T.x_BadEntry T.g_BadEntry T.k_BadEntry (raises_own T.r_BadEntry T.t_BadEntry) (by rfl))))
        pss_nil)), ?_⟩
    walk_at "rd"
    refine xIf_2 (fun h => k2 ?_) (fun h => k1 ?_)
    · simpa [inV_ints] using h
    · simpa [inV_ints] using h
theorem ok_Queue_tune (T : Txt K mg A) : FnOk P w K mg base (L2.CX P w) 1 A.f_Queue_tune A.d_Queue_tune P_Queue_tune (sp_Queue_tune A) := by
  refine T.F_Queue_tune.okX sc_Queue_tune (fun vs H Q E h => ?_) (fun cdv Ar outer s H vs Q E hr h => ?_)
  · unfold sp_Queue_tune at h; obtain ⟨a, s, e, R, rfl, _⟩ := h; rfl
  · unfold sp_Queue_tune at h; obtain ⟨a, s, e, R, rfl, w, k1, k2⟩ := h
    refine ⟨_, (pss_cons (my_if (pt_cmp (pc_dnotin (hu_of hr) (pv 1) (pe_fld (pv 0) rfl)) (by rfl))
        (pss_one (ps_raise rfl takesE (pmk_own PySem.F.excBase_ValueError T.x_BadEntry T.g_BadEntry T.k_BadEntry (raises_own T.r_BadEntry T.t_BadEntry) (by rfl))))
        pss_nil)
      (pss_one (ps_ret (pe_dget (hu_of hr) (pe_fld (pv 0) rfl) (pv 1) (fun _ _ => rfl))))), ?_⟩
    walk_at "rd"
    by_cases he : 1 ≤ e ∧ e ≤ s.tunes.length
    · have hv := s.val_some he
      refine xIf_F (by rw [hv]; rfl) ?_
      walk_at "rd"
      refine ⟨by rw [← hv]; exact DGet.k (k := Sum.inl e) (w.get 1 rfl), k1 he⟩
    · have hv := s.val_none he
      exact xIf_T (by rw [hv]; rfl) (k2 he)
theorem ok_Queue_put (T : Txt K mg A) : FnOk P w K mg base (L2.CX P w) 1 A.f_Queue_put A.d_Queue_put P_Queue_put (sp_Queue_put A) := by
  refine T.F_Queue_put.okX sc_Queue_put (fun vs H Q E h => ?_) (fun cdv Ar outer s H vs Q E hr h => ?_)
  · unfold sp_Queue_put at h; obtain ⟨a, s, x, p, R, rfl, _⟩ := h; rfl
  · unfold sp_Queue_put at h; obtain ⟨a, s, x, p, R, rfl, w, ok, hz, k1, k2⟩ := h
    refine ⟨_, (pss_cons (my_if (PW.pt (my_or (pt_not (my_chIT op_le op_le pe_int (pv 2) (pe_callB my_lenQ (by rfl) T.z_len PySem.boot_len (pa_cons (pe_fld (pv 0) rfl) pa_nil)) still_c still_v (still_len (still_fld still_v)))) (pw_or1 (pt_cmpR op_eq (pe_callB my_lenQ (by rfl) T.z_len PySem.boot_len (pa_cons (pe_fld (pv 0) rfl) pa_nil)) (my_globI T.gi_MOST_ENTRIES (by rfl)) (nomark _)))))
        (pss_one (ps_raise rfl takesE (pmk_own PySem.F.excBase_ValueError T.x_BadNumber T.g_BadNumber T.k_BadNumber (raises_own T.r_BadNumber T.t_BadNumber) (by rfl))))
        pss_nil)
      (pss_cons (my_fld (pv 0) (pe_op op_add (pe_fld (pv 0) rfl) pe_int))
      (pss_cons (my_dput (hu_of hr) (pe_fld (pv 0) rfl) (pe_fld (pv 0) rfl) (pv 1))
      (pss_cons (ps_expr (pe_bm PySem.F.plainAttrs_list PySem.F.slot_list_insert PySem.F.type_list_insert my_insert (pe_fld (pv 0) rfl) (pa_cons (pv 2) (pa_cons (pe_fld (pv 0) rfl) pa_nil))))
      (pss_one (ps_ret (pe_fld (pv 0) rfl))))))), ?_⟩
    have hsz := ok.sz
    walk_at "rd"
    refine xIf_2 (fun h => ?_) (fun h => ?_)
    · refine xIf_T rfl (k2 fun z => ?_)
      simp [z] at h
    · have h1 : 0 ≤ p ∧ p ≤ s.turn.length := by simpa using h
      walk_at "rd"
      refine xIf_2 (fun h => ?_) (fun h => ?_)
      · refine k2 fun z => ?_
        have : (s.turn.length : Int) = 12 := by simpa using h
        omega
      · have h2 : s.turn.length ≠ 12 := fun z => by simp [z] at h
        walk_at "rd"
        refine sf_Queue_last T w 0 rfl fun H1 w1 => ?_
        walk_at "rd"
        refine st_dput w1 1 (key := Sum.inl _) rfl rfl (by rw [tunesF_len]; exact szL (by omega)) fun H2 w2 => ?_
        walk_at "rd"
        refine st_ins w2 2 rfl (by walk_at "sz") h1.1 (by omega) fun H3 w3 => ?_
        walk_at "rd"
        rw [tunesK_put] at w3
        refine k1 ⟨h1.1, h1.2, h2⟩ H3 ?_
        have e : (insP s.turn p.toNat ((s.tunes.length : Int) + 1)).map V.int = (s.turn.map V.int).take p.toNat ++ [V.int ((s.tunes.length : Int) + 1)] ++ (s.turn.map V.int).drop p.toNat := insP_map _ _ _ _
        rw [← e] at w3
        have e2 : (((s.tunes ++ [x]).length : Nat) : Int) = (s.tunes.length : Int) + 1 := by rw [List.length_append, List.length_singleton]; push_cast; rfl
        unfold qL Qu.put
        rw [e2]
        exact w3
theorem ok_Queue_remove (T : Txt K mg A) : FnOk P w K mg base (L2.CX P w) 2 A.f_Queue_remove A.d_Queue_remove P_Queue_remove (sp_Queue_remove A) := by
  refine T.F_Queue_remove.okX sc_Queue_remove (fun vs H Q E h => ?_) (fun cdv Ar outer s H vs Q E hr h => ?_)
  · unfold sp_Queue_remove at h; obtain ⟨a, s, e, R, rfl, _⟩ := h; rfl
  · unfold sp_Queue_remove at h; obtain ⟨a, s, e, R, rfl, w, k1, k2⟩ := h
    refine ⟨_, (pss_cons (ps_expr (my_meth (pv 0) T.c_Queue T.m_Queue_need (ok_Queue_need T) (hr.mono (by decide)) T.b_Queue_need passE (pa_cons (pv 1) pa_nil)))
      (pss_one (ps_expr (pe_bm PySem.F.plainAttrs_list PySem.F.slot_list_remove PySem.F.type_list_remove my_remove (pe_fld (pv 0) rfl) (pa_cons (pv 1) pa_nil))))), ?_⟩
    walk_at "rd"
    refine st_call ?_
    unfold sp_Queue_need
    refine ⟨a, s, e, R, rfl, w, fun he => ?_, k2⟩
    walk_at "rd"
    exact st_rem w 2 rfl he fun H1 w1 => k1 he H1 w1
theorem ok_Queue_place (T : Txt K mg A) : FnOk P w K mg base (L2.CX P w) 2 A.f_Queue_place A.d_Queue_place P_Queue_place (sp_Queue_place A) := by
  refine T.F_Queue_place.okX sc_Queue_place (fun vs H Q E h => ?_) (fun cdv Ar outer s H vs Q E hr h => ?_)
  · unfold sp_Queue_place at h; obtain ⟨a, s, e, R, rfl, _⟩ := h; rfl
  · unfold sp_Queue_place at h; obtain ⟨a, s, e, R, rfl, w, k1, k2⟩ := h
    refine ⟨_, (pss_cons (ps_expr (my_meth (pv 0) T.c_Queue T.m_Queue_need (ok_Queue_need T) (hr.mono (by decide)) T.b_Queue_need passE (pa_cons (pv 1) pa_nil)))
      (pss_one (ps_ret (pe_bm PySem.F.plainAttrs_list PySem.F.slot_list_index PySem.F.type_list_index my_index (pe_fld (pv 0) rfl) (pa_cons (pv 1) pa_nil))))), ?_⟩
    walk_at "rd"
    refine st_call ?_
    unfold sp_Queue_need
    refine ⟨a, s, e, R, rfl, w, fun he => ?_, k2⟩
    walk_at "rd"
    exact st_idxI (SqL.of (w.get 2 rfl)) he (k1 he)
end
end TR

namespace TR
open PySem L2
/-! ### dice -/
def dN (n : Int) : Int := (106 * n + 1283) % 6075
theorem dN_bd (n : Int) : 0 ≤ dN n ∧ dN n < 6075 := ⟨Int.emod_nonneg _ (by decide), Int.emod_lt_of_pos _ (by decide)⟩
def dB (n m : Int) : Int := dN n * m / 6075
theorem dB_bd (n : Int) {m : Int} (hm : 0 < m) : 0 ≤ dB n m ∧ dB n m < m := by
  have h := dN_bd n
  refine ⟨Int.ediv_nonneg (Int.mul_nonneg h.1 (by omega)) (by decide), Int.ediv_lt_of_lt_mul (by decide) ?_⟩
  rw [Int.mul_comm m 6075]
  exact Int.mul_lt_mul_of_pos_right h.2 hm
/-- two things change places -/
def swp {α : Type} (xs : List α) (i j : Nat) : List α := match xs[i]?, xs[j]? with
  | some a, some b => (xs.set i b).set j a
  | _, _ => xs
theorem swp_eq {α : Type} {xs : List α} {i j : Nat} {a b : α} (ha : xs[i]? = some a) (hb : xs[j]? = some b) : swp xs i j = (xs.set i b).set j a := by
  unfold swp; rw [ha, hb]
/-- a row mixed: from place k down; the dice's number with it -/
def mixG {α : Type} (k : Nat) (n : Int) (xs : List α) : Int × List α := match k with
  | 0 => (n, xs)
  | k + 1 => mixG k (dN n) (swp xs (k + 1) (dB n ((k : Int) + 2)).toNat)
def mixL {α : Type} (n : Int) (xs : List α) : Int × List α := mixG (xs.length - 1) n xs
@[irreducible] def sp_Dice_init (A : Ads) : Sp := fun vs H Q E => ∃ (p dx : Addr) (n : Int) (R : List Ent), vs = [.ref p, .int n] ∧ W H H ((p, .ins A.c_Dice dx []) :: R) ∧
  (0 ≤ n ∧ n < 6075 → ∀ H', W H H' ((p, .ins A.c_Dice dx (fl_Dice (.int n))) :: R) → Q .non H') ∧ (¬ (0 ≤ n ∧ n < 6075) → E (.ref A.c_BadNumber) none H)
theorem of_Dice_init {A : Ads} {vs : List V} {H : Hp} {Q : VK} {E : XK} (h :  ∃ (p dx : Addr) (n : Int) (R : List Ent), vs = [.ref p, .int n] ∧ W H H ((p, .ins A.c_Dice dx []) :: R) ∧
  (0 ≤ n ∧ n < 6075 → ∀ H', W H H' ((p, .ins A.c_Dice dx (fl_Dice (.int n))) :: R) → Q .non H') ∧ (¬ (0 ≤ n ∧ n < 6075) → E (.ref A.c_BadNumber) none H)) : sp_Dice_init A vs H Q E := by unfold sp_Dice_init; exact h
@[irreducible] def sp_Dice_below (A : Ads) : Sp := fun vs H Q E => ∃ (p dx : Addr) (n m : Int) (R : List Ent), vs = [.ref p, .int m] ∧ W H H ((p, .ins A.c_Dice dx (fl_Dice (.int n))) :: R) ∧ (0 ≤ n ∧ n < 6075) ∧
  (1 ≤ m ∧ m ≤ 60 → ∀ H', W H H' ((p, .ins A.c_Dice dx (fl_Dice (.int (dN n)))) :: R) → Q (.int (dB n m)) H') ∧ (¬ (1 ≤ m ∧ m ≤ 60) → E (.ref A.c_BadNumber) none H)
theorem of_Dice_below {A : Ads} {vs : List V} {H : Hp} {Q : VK} {E : XK} (h :  ∃ (p dx : Addr) (n m : Int) (R : List Ent), vs = [.ref p, .int m] ∧ W H H ((p, .ins A.c_Dice dx (fl_Dice (.int n))) :: R) ∧ (0 ≤ n ∧ n < 6075) ∧
  (1 ≤ m ∧ m ≤ 60 → ∀ H', W H H' ((p, .ins A.c_Dice dx (fl_Dice (.int (dN n)))) :: R) → Q (.int (dB n m)) H') ∧ (¬ (1 ≤ m ∧ m ≤ 60) → E (.ref A.c_BadNumber) none H)) : sp_Dice_below A vs H Q E := by unfold sp_Dice_below; exact h
/-- the list handed in stands in R; a new list comes -/
@[irreducible] def sp_mixed (A : Ads) (K : PySem.W.Frag) : Sp := fun vs H Q _ => ∃ (p dx b : Addr) (n : Int) (xs : List V) (R : List Ent), vs = [.ref p, .ref b] ∧ W H H ((p, .ins A.c_Dice dx (fl_Dice (.int n))) :: R) ∧ (0 ≤ n ∧ n < 6075) ∧ (∀ H0 H', W H0 H' R → SqL K H' b xs) ∧ xs.length ≤ 50 ∧
  ∀ H' l, W H H' ((l, .lst (mixL n xs).2) :: (p, .ins A.c_Dice dx (fl_Dice (.int (mixL n xs).1))) :: R) → Q (.ref l) H'
theorem of_mixed {A : Ads} {K : PySem.W.Frag} {vs : List V} {H : Hp} {Q : VK} {E : XK} (h :  ∃ (p dx b : Addr) (n : Int) (xs : List V) (R : List Ent), vs = [.ref p, .ref b] ∧ W H H ((p, .ins A.c_Dice dx (fl_Dice (.int n))) :: R) ∧ (0 ≤ n ∧ n < 6075) ∧ (∀ H0 H', W H0 H' R → SqL K H' b xs) ∧ xs.length ≤ 50 ∧
  ∀ H' l, W H H' ((l, .lst (mixL n xs).2) :: (p, .ins A.c_Dice dx (fl_Dice (.int (mixL n xs).1))) :: R) → Q (.ref l) H') : sp_mixed A K vs H Q E := by unfold sp_mixed; exact h
theorem mixG_bd {α : Type} : ∀ (k : Nat) (n : Int) (xs : List α), 0 ≤ n ∧ n < 6075 → (0 ≤ (mixG k n xs).1 ∧ (mixG k n xs).1 < 6075)
  | 0, n, xs, h => h
  | k + 1, n, xs, _ => mixG_bd k _ _ (dN_bd n)
theorem swp_len {α : Type} (xs : List α) (i j : Nat) : (swp xs i j).length = xs.length := by
  unfold swp; split <;> simp
theorem swp_map {α β : Type} (f : α → β) (xs : List α) (i j : Nat) : swp (xs.map f) i j = (swp xs i j).map f := by
  unfold swp
  simp only [List.getElem?_map]
  cases xs[i]? <;> cases xs[j]? <;> simp
theorem mixG_len {α : Type} : ∀ (k : Nat) (n : Int) (xs : List α), (mixG k n xs).2.length = xs.length
  | 0, n, xs => rfl
  | k + 1, n, xs => by
    unfold mixG
    rw [mixG_len k, swp_len]
theorem mixL_len {α : Type} (n : Int) (xs : List α) : (mixL n xs).2.length = xs.length := mixG_len _ _ _
theorem mixL_bd {α : Type} (n : Int) (xs : List α) (h : 0 ≤ n ∧ n < 6075) : 0 ≤ (mixL n xs).1 ∧ (mixL n xs).1 < 6075 := mixG_bd _ _ _ h
theorem mixG_map {α β : Type} (f : α → β) : ∀ (k : Nat) (n : Int) (xs : List α), mixG k n (xs.map f) = ((mixG k n xs).1, (mixG k n xs).2.map f)
  | 0, n, xs => rfl
  | k + 1, n, xs => by
    unfold mixG
    rw [swp_map, mixG_map f k]
theorem mixL_map {α β : Type} (f : α → β) (n : Int) (xs : List α) : mixL n (xs.map f) = ((mixL n xs).1, (mixL n xs).2.map f) := by
  unfold mixL
  rw [List.length_map, mixG_map]
theorem swap_perm {α : Type} {l : List α} {i j : Nat} {a b : α} (ha : l[i]? = some a) (hb : l[j]? = some b) : ((l.set i b).set j a).Perm l := by
  obtain ⟨hi, ea⟩ := List.getElem?_eq_some_iff.mp ha
  obtain ⟨hj, eb⟩ := List.getElem?_eq_some_iff.mp hb
  subst ea eb
  exact List.set_set_perm hi hj
theorem swp_perm {α : Type} (xs : List α) (i j : Nat) : (swp xs i j).Perm xs := by
  unfold swp
  split
  · rename_i a b ha hb
    exact swap_perm ha hb
  · exact List.Perm.refl _
theorem mixG_perm {α : Type} : ∀ (k : Nat) (n : Int) (xs : List α), (mixG k n xs).2.Perm xs
  | 0, n, xs => List.Perm.refl _
  | k + 1, n, xs => by
    unfold mixG
    exact (mixG_perm k _ _).trans (swp_perm _ _ _)
theorem mixL_perm {α : Type} (n : Int) (xs : List α) : (mixL n xs).2.Perm xs := mixG_perm _ _ _
section
variable {P : Program} {w : World} {K : PySem.W.Frag} {mg : Str → Option Value} {base : Heap} {A : Ads}
theorem ok_Dice_init__ (T : Txt K mg A) : FnOk P w K mg base (L2.CX P w) 1 A.f_Dice_init__ A.d_Dice_init__ P_Dice_init__ (sp_Dice_init A) := by
  refine T.F_Dice_init__.okX sc_Dice_init__ (fun vs H Q E h => ?_) (fun cdv Ar outer s H vs Q E hr h => ?_)
  · unfold sp_Dice_init at h; obtain ⟨p, dx, n, R, rfl, _⟩ := h; rfl
  · unfold sp_Dice_init at h; obtain ⟨p, dx, n, R, rfl, w, k1, k2⟩ := h
    refine ⟨_, (pss_cons (my_if (pt_not (my_chIT op_le op_lt pe_int (pv 1) (my_globI T.gi_WHEEL (by rfl)) still_c still_v still_c))
        (pss_one (ps_raise rfl takesE (pmk_own PySem.F.excBase_ValueError T.x_BadNumber T.g_BadNumber T.k_BadNumber (raises_own T.r_BadNumber T.t_BadNumber) (by rfl))))
        pss_nil)
      (pss_one (my_fld (pv 0) (pv 1)))), ?_⟩
    walk_at "rd"
    refine xIf_2 (fun h => ?_) (fun h => ?_)
    · refine k2 fun z => ?_
      simp [z] at h
    · walk_at "rd"
      refine st_fld w 0 rfl T.c_Dice T.n_Dice_number (by decide) fun H1 w1 => ?_
      exact k1 (by simpa using h) _ w1
theorem ok_Dice_below (T : Txt K mg A) : FnOk P w K mg base (L2.CX P w) 1 A.f_Dice_below A.d_Dice_below P_Dice_below (sp_Dice_below A) := by
  refine T.F_Dice_below.okX sc_Dice_below (fun vs H Q E h => ?_) (fun cdv Ar outer s H vs Q E hr h => ?_)
  · unfold sp_Dice_below at h; obtain ⟨p, dx, n, m, R, rfl, _⟩ := h; rfl
  · unfold sp_Dice_below at h; obtain ⟨p, dx, n, m, R, rfl, w, hn, k1, k2⟩ := h
    refine ⟨_, (pss_cons (my_if (pt_not (my_chIT op_le op_le pe_int (pv 1) (my_globI T.gi_MOST (by rfl)) still_c still_v still_c))
        (pss_one (ps_raise rfl takesE (pmk_own PySem.F.excBase_ValueError T.x_BadNumber T.g_BadNumber T.k_BadNumber (raises_own T.r_BadNumber T.t_BadNumber) (by rfl))))
        pss_nil)
      (pss_cons (my_fld (pv 0) (pe_op op_mod (pe_op op_add (pe_op op_mul (my_globI T.gi_TIMES (by rfl)) (pe_fld (pv 0) rfl)) (my_globI T.gi_MORE (by rfl))) (my_globI T.gi_WHEEL (by rfl))))
      (pss_one (ps_ret (pe_op op_fdiv (pe_op op_mul (pe_fld (pv 0) rfl) (pv 1)) (my_globI T.gi_WHEEL (by rfl))))))), ?_⟩
    walk_at "rd"
    refine xIf_2 (fun h => ?_) (fun h => ?_)
    · refine k2 fun z => ?_
      simp [z] at h
    · have h' : 1 ≤ m ∧ m ≤ 60 := by simpa using h
      walk_at "rd"
      refine sf_Dice_number T w 0 rfl fun H1 w1 => ?_
      have w2 : W H H1 ((p, .ins A.c_Dice dx (fl_Dice (.int (dN n)))) :: R) := w1
      clear w1
      have hb := dN_bd n
      walk_at "rd"
      exact k1 h' _ w2
theorem mix_stp (n : Int) (xs : List V) (k : Nat) (hk : k + 1 < xs.length) : ∃ a b, xs[k + 1]? = some a ∧ xs[(dB n ((k : Int) + 2)).toNat]? = some b := by
  have h := dB_bd n (m := (k : Int) + 2) (by omega)
  exact ⟨_, _, List.getElem?_eq_getElem hk, List.getElem?_eq_getElem (by omega)⟩
/-- behind i turns of mixed's loop over m + 1 things: what is left to do gives the whole -/
def MixAt (n : Int) (xs : List V) (i : Nat) (n' : Int) (ys : List V) : Prop := mixG (xs.length - 1 - i) n' ys = mixL n xs ∧ ys.length = xs.length ∧ 0 ≤ n' ∧ n' < 6075
theorem ok_mixed (T : Txt K mg A) : FnOk P w K mg base (L2.CX P w) 2 A.f_mixed A.d_mixed P_mixed (sp_mixed A K) := by
  refine T.F_mixed.okX sc_mixed (fun vs H Q E h => ?_) (fun cdv Ar outer s H vs Q E hr h => ?_)
  · unfold sp_mixed at h; obtain ⟨p, dx, b, n, xs, R, rfl, _⟩ := h; rfl
  · unfold sp_mixed at h; obtain ⟨p, dx, b, n, xs, R, rfl, w, hn, hb, hl, k⟩ := h
    refine ⟨_, (pss_cons (ps_set (i := 2) sc_mixed.nd rfl (by first | exact Or.inl rfl | exact Or.inr rfl) (pe_callTy my_listOf (by rfl) T.z_list (by decide +kernel) (pa_cons (pv 1) pa_nil)))
      (pss_cons (my_for ownE rfl (pi_range3 (by rfl) T.z_range (pa_cons (pe_op op_sub (pe_callB my_lenQ (by rfl) T.z_len PySem.boot_len (pa_cons (pv 2) pa_nil)) pe_int) (pa_cons pe_int (pa_cons (pe_un un_neg pe_int) pa_nil)))) (pg_name (i := 3) sc_mixed.nd rfl (by first | exact Or.inl rfl | exact Or.inr rfl))
        (pss_cons (ps_set (i := 4) sc_mixed.nd rfl (by first | exact Or.inl rfl | exact Or.inr rfl) (my_meth (pv 0) T.c_Dice T.m_Dice_below (ok_Dice_below T) (hr.mono (by decide)) T.b_Dice_below passE (pa_cons (pe_op op_add (pv 3) pe_int) pa_nil)))
      (pss_one (ps_asg (my_tup (pa_cons (pe_ix ix_list (pv 2) (pv 4) (fun _ _ => rfl)) (pa_cons (pe_ix ix_list (pv 2) (pv 3) (fun _ _ => rfl)) pa_nil))) (pg_tup rfl (pgs_cons (pg_sub (pv 2) (pv 3) my_setL) (pgs_cons (pg_sub (pv 2) (pv 4) my_setL) pgs_nil)))))))
      (pss_one (ps_ret (pv 2))))), ?_⟩
    have hs := hb _ _ w.drop1
    refine ⟨_, rfl, _, _, rfl, .inl hs, st_new w fun l H1 w1 => ?_⟩
    walk_at "rd"
    refine st_forRC (fun i σ H2 => ∃ (n' : Int) (ys : List V) (u v : Option V), σ = [some (.ref p), some (.ref b), some (.ref l), u, v] ∧ MixAt n xs i n' ys ∧ W H H2 ((l, .lst ys) :: (p, .ins A.c_Dice dx (fl_Dice (.int n'))) :: R))
      ⟨n, xs, none, none, rfl, ⟨rfl, rfl, hn.1, hn.2⟩, w1⟩ ?_ ?_
    · rintro i σ H2 hi ⟨n', ys, u, v, rfl, ⟨em, el, hn0, hn1⟩, w2⟩
      walk_at "rd"
      refine st_call ?_
      unfold sp_Dice_below
      obtain ⟨j, ej⟩ : ∃ j, xs.length - 1 - i = j + 1 := ⟨xs.length - 1 - i - 1, by omega⟩
      have ek : (xs.length : Int) - 1 + (i : Int) * -1 = (j : Int) + 1 := by omega
      rw [ek]
      refine ⟨p, dx, n', _, (l, .lst ys) :: R, rfl, (w2.rot 1 1).now, ⟨hn0, hn1⟩, fun _ H3 w3 => ?_, fun z => absurd (by omega) z⟩
      have w4 : W H H3 ((l, .lst ys) :: (p, .ins A.c_Dice dx (fl_Dice (.int (dN n')))) :: R) := (w2.tr w3).rot 1 1
      clear w3
      obtain ⟨a, b', ha, hb'⟩ := mix_stp n' ys j (by omega)
      have hd := dB_bd n' (m := (j : Int) + 2) (by omega)
      have ed : (j : Int) + 1 + 1 = (j : Int) + 2 := by omega
      rw [ed]
      walk_at "rd"
      refine ⟨at_of (Int.toNat_of_nonneg hd.1).symm hb', ?_⟩
      walk_at "rd"
      refine ⟨at_of (j := j + 1) (by omega) ha, ?_⟩
      walk_at "rd"
      refine st_tup w4 fun t H4 ht w5 => ?_
      walk_at "rd"
      refine st_setL w5 0 (j := j + 1) rfl (ix_of (by omega) (by omega)) fun H5 w6 => ?_
      walk_at "rd"
      refine st_setL w6 0 (j := (dB n' ((j : Int) + 2)).toNat) rfl (ix_of (Int.toNat_of_nonneg hd.1).symm (by rw [List.length_set]; omega)) fun H6 w7 => ?_
      refine ⟨rfl, dN n', (ys.set (j + 1) b').set (dB n' ((j : Int) + 2)).toNat a, _, _, rfl, ⟨?_, by rw [List.length_set, List.length_set]; exact el, (dN_bd n').1, (dN_bd n').2⟩, w7⟩
      rw [← em, ej, show xs.length - 1 - (i + 1) = j by omega]
      conv => rhs; unfold mixG
      rw [swp_eq ha hb']
    · rintro σ H2 ⟨n', ys, u, v, rfl, ⟨em, el, hn0, hn1⟩, w2⟩
      rw [show xs.length - 1 - ((xs.length : Int) - 1 - 0).toNat = 0 by omega] at em
      have e2 : mixL n xs = (n', ys) := em.symm
      rw [e2] at k
      exact ⟨_, rfl, k _ _ w2⟩
end
end TR
namespace TR
open PySem L2
/-! ### orders, as plain data -/
structure Or where
  q : Qu
  num : Int
  mixed : Bool
  again : Str
  deck : List Int
  gone : Bool
  behind : Option Int
def oV : Option Int → V
  | none => .non
  | some n => .int n
theorem oV_inj {a b : Option Int} (h : oV a = oV b) : a = b := by
  cases a <;> cases b <;> simp only [oV] at h
  · rfl
  · cases h
  · cases h
  · rw [V.int.inj h]
theorem scal_io (x : Int) (e : Option Int) : scal (.int x) (oV e) = true := by cases e <;> rfl
theorem scal_oi (x : Int) (e : Option Int) : scal (oV e) (.int x) = true := by cases e <;> rfl
theorem scal_oo (x e : Option Int) : scal (oV x) (oV e) = true := by cases e <;> cases x <;> rfl
theorem flat_oV (e : Option Int) : flatV (oV e) = true := by cases e <;> rfl
structure Or.Ok (s : Or) : Prop where
  q : s.q.Ok
  num : 0 ≤ s.num ∧ s.num < 6075
  nd : s.deck.Nodup
  sub : ∀ e ∈ s.deck, e ∈ s.q.turn
  bh : s.gone = true → ∀ b, s.behind = some b → b ∈ s.q.turn
def behindOf (turn : List Int) (e : Int) : Option Int := turn[turn.idxOf e + 1]?
def fromO (s : Or) (e : Option Int) : Option Int := match e with
  | some x => if x ∈ s.q.turn then behindOf s.q.turn x else if s.gone = true then s.behind else s.q.turn.head?
  | none => if s.gone = true then s.behind else s.q.turn.head?
def plainN (s : Or) (e : Option Int) : Option Int := match fromO s e with
  | some x => some x
  | none => if s.again = "all" then s.q.turn.head? else none
def swE (xs : List Int) : List Int := xs.drop (xs.length - 1) ++ (xs.drop 1).take (xs.length - 2) ++ xs.take 1
def refill (s : Or) (e : Option Int) : Or :=
  if s.deck = [] ∧ s.again = "all" then
    { s with num := (mixL s.num s.q.turn).1, deck := if 1 < (mixL s.num s.q.turn).2.length ∧ (mixL s.num s.q.turn).2.head? = e then swE (mixL s.num s.q.turn).2 else (mixL s.num s.q.turn).2 }
  else s
def popO (s : Or) : Option Int := s.deck.head?
def popS (s : Or) : Or := { s with deck := s.deck.tail }
def skipV (s : Or) (e : Option Int) : Option Int := if s.mixed = true then popO (refill s e) else plainN s e
def skipS (s : Or) (e : Option Int) : Or := if s.mixed = true then popS (refill s e) else s
def again1 (s : Or) (e : Option Int) : Prop := s.again = "one" ∧ ∃ x, e = some x ∧ x ∈ s.q.turn
instance (s : Or) (e : Option Int) : Decidable (again1 s e) := match e with
  | none => isFalse fun ⟨_, _, z, _⟩ => nomatch z
  | some x => decidable_of_iff (s.again = "one" ∧ x ∈ s.q.turn) ⟨fun h => ⟨h.1, x, rfl, h.2⟩, fun ⟨a, y, z, b⟩ => ⟨a, by cases z; exact b⟩⟩
def afterV (s : Or) (e : Option Int) : Option Int := if again1 s e then e else skipV s e
def afterS (s : Or) (e : Option Int) : Or := if again1 s e then s else skipS s e
def fillF (s : Or) : Or := if s.deck = [] then { s with num := (mixL s.num s.q.turn).1, deck := (mixL s.num s.q.turn).2 } else s
def firstV (s : Or) : Option Int := if s.mixed = true then popO (fillF s) else s.q.turn.head?
def firstS (s : Or) : Or := if s.mixed = true then popS (fillF s) else s
def beganO (s : Or) (e : Int) : Or := { s with gone := if e ∈ s.q.turn then false else s.gone, deck := s.deck.erase e }
def butE (turn : List Int) (e : Option Int) : List Int := turn.filter fun x => decide (some x ≠ e)
def mixO (s : Or) (e : Option Int) : Or := { s with num := (mixL s.num (butE s.q.turn e)).1, deck := (mixL s.num (butE s.q.turn e)).2 }
def setM (s : Or) (b : Bool) (e : Option Int) : Or :=
  if b = true then (if s.mixed = true then s else { mixO s e with mixed := true }) else { s with deck := [], mixed := false }
def putO (s : Or) (x : Str) (p : Int) : Or :=
  if s.mixed = true then { s with q := s.q.put x p, num := dN s.num, deck := insP s.deck (dB s.num ((s.deck.length : Int) + 1)).toNat ((s.q.tunes.length : Int) + 1) } else { s with q := s.q.put x p }
def remO (s : Or) (e : Int) (now : Option Int) : Or :=
  { s with q := s.q.rem e, deck := s.deck.erase e, gone := if now = some e ∨ (s.gone = true ∧ s.behind = some e) then true else s.gone,
           behind := if now = some e ∨ (s.gone = true ∧ s.behind = some e) then behindOf s.q.turn e else s.behind }
def movO (s : Or) (e p : Int) : Or := { s with q := s.q.mov e p }
def order0 (n : Int) : Or := ⟨⟨[], []⟩, n, false, "none", [], false, none⟩
/-! what holds stays -/
theorem nodup_len : ∀ {a b : List Int}, a.Nodup → (∀ x ∈ a, x ∈ b) → a.length ≤ b.length
  | [], _, _, _ => Nat.zero_le _
  | x :: r, b, h, hs => by
    have h1 := List.nodup_cons.mp h
    have h2 := nodup_len (a := r) (b := b.erase x) h1.2 fun y hy => (List.mem_erase_of_ne (fun z => h1.1 (by rw [← z]; exact hy))).mpr (hs y (List.mem_cons_of_mem _ hy))
    have h3 := hs x List.mem_cons_self
    rw [List.length_erase_of_mem h3] at h2
    have h4 := List.length_pos_of_mem h3
    rw [List.length_cons]
    omega
theorem Or.Ok.len {s : Or} (h : s.Ok) : s.deck.length ≤ 12 := by
  have h1 := nodup_len h.nd h.sub
  have h2 := h.q.sz
  omega
theorem ok0 {n : Int} (h : 0 ≤ n ∧ n < 6075) : (order0 n).Ok := ⟨⟨List.nodup_nil, (fun _ h => nomatch h), (by show 0 ≤ 12; decide), (by show 0 ≤ 1000; decide)⟩, h, List.nodup_nil, (fun _ h => nomatch h), (fun z => nomatch z)⟩
theorem swE_perm {xs : List Int} (h : 1 < xs.length) : (swE xs).Perm xs := by
  unfold swE
  match xs, h with
  | a :: t, h =>
    have hl : 0 < t.length := by rw [List.length_cons] at h; omega
    have e1 : (a :: t).drop ((a :: t).length - 1) = t.drop (t.length - 1) := by
      rw [show (a :: t).length - 1 = t.length - 1 + 1 by rw [List.length_cons]; omega]
      rfl
    have e2 : ((a :: t).drop 1).take ((a :: t).length - 2) = t.take (t.length - 1) := by
      rw [show (a :: t).length - 2 = t.length - 1 by rw [List.length_cons]; omega]
      rfl
    rw [e1, e2]
    show (t.drop (t.length - 1) ++ t.take (t.length - 1) ++ [a]).Perm (a :: t)
    have p1 : (t.drop (t.length - 1) ++ t.take (t.length - 1)).Perm t := by
      have p := List.perm_append_comm (l₁ := t.drop (t.length - 1)) (l₂ := t.take (t.length - 1))
      rw [List.take_append_drop] at p
      exact p
    exact (List.Perm.append_right [a] p1).trans (List.perm_append_comm (l₁ := t) (l₂ := [a]))
theorem Or.Ok.deck {s : Or} (h : s.Ok) {n : Int} {d : List Int} (hn : 0 ≤ n ∧ n < 6075) (hd : d.Nodup) (hs : ∀ e ∈ d, e ∈ s.q.turn) : ({ s with num := n, deck := d } : Or).Ok := ⟨h.q, hn, hd, hs, h.bh⟩
theorem Or.Ok.refill {s : Or} (h : s.Ok) (e : Option Int) : (refill s e).Ok := by
  unfold TR.refill
  split
  · have hp := mixL_perm s.num s.q.turn
    refine h.deck (mixL_bd _ _ h.num) ?_ ?_
    · split
      · rename_i hc
        exact ((swE_perm hc.1).trans hp).nodup_iff.mpr h.q.nd
      · exact hp.nodup_iff.mpr h.q.nd
    · split
      · rename_i hc
        exact fun x hx => ((swE_perm hc.1).trans hp).mem_iff.mp hx
      · exact fun x hx => hp.mem_iff.mp hx
  · exact h
theorem Or.Ok.pop {s : Or} (h : s.Ok) : (popS s).Ok := ⟨h.q, h.num, h.nd.tail, fun e he => h.sub e (List.mem_of_mem_tail he), h.bh⟩
theorem Or.Ok.skip {s : Or} (h : s.Ok) (e : Option Int) : (skipS s e).Ok := by
  unfold skipS
  split
  · exact (h.refill e).pop
  · exact h
theorem Or.Ok.after {s : Or} (h : s.Ok) (e : Option Int) : (afterS s e).Ok := by
  unfold afterS
  split
  · exact h
  · exact h.skip e
theorem Or.Ok.fill {s : Or} (h : s.Ok) : (fillF s).Ok := by
  unfold fillF
  split
  · have hp := mixL_perm s.num s.q.turn
    exact h.deck (mixL_bd _ _ h.num) (hp.nodup_iff.mpr h.q.nd) fun x hx => hp.mem_iff.mp hx
  · exact h
theorem Or.Ok.first {s : Or} (h : s.Ok) : (firstS s).Ok := by
  unfold firstS
  split
  · exact h.fill.pop
  · exact h
theorem Or.Ok.began {s : Or} (h : s.Ok) (e : Int) : (beganO s e).Ok := by
  refine ⟨h.q, h.num, h.nd.erase e, fun x hx => h.sub x (List.mem_of_mem_erase hx), fun g => h.bh ?_⟩
  have g2 : (if e ∈ s.q.turn then false else s.gone) = true := g
  split at g2
  · cases g2
  · exact g2
theorem Or.Ok.setM {s : Or} (h : s.Ok) (b : Bool) (e : Option Int) : (setM s b e).Ok := by
  unfold TR.setM
  split
  · split
    · exact h
    · have hp := mixL_perm s.num (butE s.q.turn e)
      exact ⟨h.q, mixL_bd _ _ h.num, hp.nodup_iff.mpr (h.q.nd.filter _), fun x hx => (List.mem_filter.mp (hp.mem_iff.mp hx)).1, h.bh⟩
  · exact ⟨h.q, h.num, List.nodup_nil, (fun _ z => nomatch z), h.bh⟩
theorem Or.Ok.put {s : Or} (h : s.Ok) (x : Str) {p : Int} (h2 : s.q.turn.length ≠ 12) (h3 : s.q.tunes.length < 1000) : (putO s x p).Ok := by
  have hq := h.q.put x (p := p) h2 h3
  have hm : ∀ e, e ∈ s.q.turn → e ∈ (s.q.put x p).turn := fun e he => mem_insP.mpr (.inr he)
  unfold putO
  split
  · refine ⟨hq, dN_bd _, ?_, ?_, fun g b hb => hm b (h.bh g b hb)⟩
    · show (insP _ _ _).Nodup
      rw [(insP_perm _ _ _).nodup_iff]
      exact List.nodup_cons.mpr ⟨fun m => by have := h.q.bd _ (h.sub _ m); omega, h.nd⟩
    · intro e he
      rcases mem_insP.mp he with rfl | he
      · exact mem_insP.mpr (.inl rfl)
      · exact hm e (h.sub e he)
  · exact ⟨hq, h.num, h.nd, fun e he => hm e (h.sub e he), fun g b hb => hm b (h.bh g b hb)⟩
theorem behindOf_mem {turn : List Int} {e b : Int} (h : behindOf turn e = some b) : b ∈ turn := List.mem_of_getElem? h
theorem behindOf_ne {turn : List Int} (nd : turn.Nodup) {e b : Int} (he : e ∈ turn) (h : behindOf turn e = some b) : b ≠ e := by
  intro z
  subst z
  obtain ⟨hl, e1⟩ := List.getElem?_eq_some_iff.mp h
  have h2 := nd.idxOf_getElem (turn.idxOf b + 1) hl
  rw [e1] at h2
  omega
theorem Or.Ok.rem {s : Or} (h : s.Ok) {e : Int} (he : e ∈ s.q.turn) (now : Option Int) : (remO s e now).Ok := by
  refine ⟨h.q.rem e, h.num, h.nd.erase e, ?_, ?_⟩
  · intro x hx
    have h1 := (List.Nodup.mem_erase_iff h.nd).mp hx
    exact (List.Nodup.mem_erase_iff h.q.nd).mpr ⟨h1.1, h.sub x h1.2⟩
  · intro g b hb
    have g2 : (if now = some e ∨ (s.gone = true ∧ s.behind = some e) then true else s.gone) = true := g
    have hb2 : (if now = some e ∨ (s.gone = true ∧ s.behind = some e) then behindOf s.q.turn e else s.behind) = some b := hb
    split at hb2
    · exact (List.Nodup.mem_erase_iff h.q.nd).mpr ⟨behindOf_ne h.q.nd he hb2, behindOf_mem hb2⟩
    · rename_i hc
      rw [if_neg hc] at g2
      refine (List.Nodup.mem_erase_iff h.q.nd).mpr ⟨fun z => hc (.inr ⟨g2, by rw [hb2, z]⟩), h.bh g2 b hb2⟩
theorem Or.Ok.mov {s : Or} (h : s.Ok) {e p : Int} (he : e ∈ s.q.turn) : (movO s e p).Ok := by
  have hm : ∀ x, x ∈ s.q.turn → x ∈ (s.q.mov e p).turn := fun x hx => by
    by_cases z : x = e
    · exact mem_insP.mpr (.inl z)
    · exact mem_insP.mpr (.inr ((List.Nodup.mem_erase_iff h.q.nd).mpr ⟨z, hx⟩))
  exact ⟨h.q.mov he, h.num, h.nd, fun x hx => hm x (h.sub x hx), fun g b hb => hm b (h.bh g b hb)⟩
theorem inV_o (ns : List Int) (e : Option Int) : inV (oV e) (ns.map V.int) = decide (∃ x, e = some x ∧ x ∈ ns) := by
  cases e with
  | none =>
    rw [show oV none = V.non from rfl, inV_non]
    exact (decide_eq_false fun ⟨_, z, _⟩ => nomatch z).symm
  | some x =>
    rw [show oV (some x) = V.int x from rfl, inV_ints]
    by_cases h : x ∈ ns
    · rw [decide_eq_true h, decide_eq_true ⟨x, rfl, h⟩]
    · rw [decide_eq_false h, decide_eq_false (fun ⟨y, z, m⟩ => h (by cases z; exact m))]
theorem eqv_nil (ns : List Int) : PyData.eqv (.list (ns.map PyData.int)) (.list []) = decide (ns = []) := by
  cases ns with
  | nil => rfl
  | cons a r => rfl
end TR

namespace TR
open PySem L2
/-! ### orders: the walk -/
theorem ds_t {i j : Str} (h : decide (V.str i = V.str j) = true) : i = j := V.str.inj (of_decide_eq_true h)
theorem ds_f {i j : Str} (h : decide (V.str i = V.str j) = false) : i ≠ j := fun z => of_decide_eq_false h (by rw [z])
theorem do_eq (x : Int) (e : Option Int) : decide (V.int x = oV e) = decide (e = some x) := by
  by_cases h : e = some x
  · rw [h, decide_eq_true rfl]; exact decide_eq_true rfl
  · rw [decide_eq_false h]
    exact decide_eq_false fun z => h (oV_inj (z.symm.trans rfl))
section
variable {K : PySem.W.Frag} {H0 H : Hp} {L : List Ent} {a : Addr} {g : TG} {tt : TT} {te : TE} {vs : List Nat} {σ : L2.St} {Q : VK}
/-- the ones of a list for which p holds -/
theorem st_but {ns : List Int} (p : Int → Bool) (w : W H0 H L) (j : Nat) (h : L[j]? = some (a, .lst (ns.map V.int))) (hl : ns.length ≤ 60000)
    (hs : ∀ D n P H', (p n = true → xAcc D P (.int n) H') → (p n = false → P H') → LcTurn g tt te vs σ D P (.int n) H')
    (k : ∀ D H', W H0 H' ((D, .lst ((ns.filter p).map V.int)) :: L) → Q (.ref D) H') : xLc (Itl K a) g tt te vs σ H Q := by
  refine st_lcL (xs := ns.map V.int) (fun D i H' => W H0 H' ((D, .lst (((ns.take i).filter p).map V.int)) :: L)) w (fun D H' w1 => w1) (fun D i H' _ w1 => SqL.of (w1.get (j + 1) (by simpa using h))) ?_ ?_
  · intro D i x H' hx w1
    rw [List.getElem?_map] at hx
    cases hn : ns[i]? with
    | none => rw [hn] at hx; cases hx
    | some n =>
      rw [hn] at hx
      cases hx
      have e : (ns.take (i + 1)).filter p = (ns.take i).filter p ++ [n].filter p := by
        rw [List.take_succ, hn, ← List.filter_append]; rfl
      refine hs D n _ H' (fun hp => ?_) (fun hp => ?_)
      · have hlen : ((ns.take i).filter p).length ≤ 60000 := Nat.le_trans (List.length_filter_le _ _) (Nat.le_trans (by rw [List.length_take]; omega) hl)
        refine st_acc w1 0 rfl (by rw [List.length_map]; exact szL (by omega)) fun H2 w2 => ?_
        rw [e, List.filter_cons_of_pos hp, List.map_append]
        exact w2
      · rw [e, List.filter_cons_of_neg (by rw [hp]; exact Bool.false_ne_true), List.filter_nil, List.append_nil]
        exact w1
  · intro D H' w1
    rw [List.length_map, List.take_length] at w1
    exact k D H' w1
end
section
variable {K : PySem.W.Frag} {H0 H : Hp} {L : List Ent} {a : Addr} {g : TG} {tt : TT} {te : TE} {vs : List Nat} {σ : L2.St} {Q : VK}
theorem st_butW {ns : List Int} (p : Int → Bool) (w : W H0 H L) (j : Nat) (h : L[j]? = some (a, .lst (ns.map V.int))) (hl : ns.length ≤ 60000)
    (hs : ∀ D n P H' ds, W H0 H' ((D, .lst ds) :: L) → (p n = true → xAcc D P (.int n) H') → (p n = false → P H') → LcTurn g tt te vs σ D P (.int n) H')
    (k : ∀ D H', W H0 H' ((D, .lst ((ns.filter p).map V.int)) :: L) → Q (.ref D) H') : xLc (Itl K a) g tt te vs σ H Q := by
  refine st_lcL (xs := ns.map V.int) (fun D i H' => W H0 H' ((D, .lst (((ns.take i).filter p).map V.int)) :: L)) w (fun D H' w1 => w1) (fun D i H' _ w1 => SqL.of (w1.get (j + 1) (by simpa using h))) ?_ ?_
  · intro D i x H' hx w1
    rw [List.getElem?_map] at hx
    cases hn : ns[i]? with
    | none => rw [hn] at hx; cases hx
    | some n =>
      rw [hn] at hx
      cases hx
      have e : (ns.take (i + 1)).filter p = (ns.take i).filter p ++ [n].filter p := by
        rw [List.take_succ, hn, ← List.filter_append]; rfl
      refine hs D n _ H' _ w1 (fun hp => ?_) (fun hp => ?_)
      · have hlen : ((ns.take i).filter p).length ≤ 60000 := Nat.le_trans (List.length_filter_le _ _) (Nat.le_trans (by rw [List.length_take]; omega) hl)
        refine st_acc w1 0 rfl (by rw [List.length_map]; exact szL (by omega)) fun H2 w2 => ?_
        rw [e, List.filter_cons_of_pos hp, List.map_append]
        exact w2
      · rw [e, List.filter_cons_of_neg (by rw [hp]; exact Bool.false_ne_true), List.filter_nil, List.append_nil]
        exact w1
  · intro D H' w1
    rw [List.length_map, List.take_length] at w1
    exact k D H' w1
end
structure OA where
  o : Addr
  dx : Addr
  q : QA
  dc : Addr
  ddx : Addr
  k : Addr
def orL (A : Ads) (a : OA) (s : Or) : List Ent := [(a.o, .ins A.c_Order a.dx (fl_Order (.ref a.q.q) (.ref a.dc) (.bl s.mixed) (.str s.again) (.ref a.k) (.bl s.gone) (oV s.behind))),
  (a.q.q, .ins A.c_Queue a.q.dx (fl_Queue (.ref a.q.d) (.ref a.q.t) (.int s.q.tunes.length))), (a.q.d, .dK (tunesK s.q.tunes)), (a.q.t, .lst (s.q.turn.map V.int)),
  (a.dc, .ins A.c_Dice a.ddx (fl_Dice (.int s.num))), (a.k, .lst (s.deck.map V.int))]
def repeats : List Str := ["none", "all", "one"]
@[irreducible] def sp_Order_init (A : Ads) : Sp := fun vs H Q E => ∃ (o dx : Addr) (n : Int) (R : List Ent), vs = [.ref o, .int n] ∧ W H H ((o, .ins A.c_Order dx []) :: R) ∧
  (0 ≤ n ∧ n < 6075 → ∀ H' a, a.o = o → W H H' (orL A a (order0 n) ++ R) → Q .non H') ∧ (¬ (0 ≤ n ∧ n < 6075) → ∀ H', W H H' R → E (.ref A.c_BadNumber) none H')
theorem of_Order_init {A : Ads} {vs : List V} {H : Hp} {Q : VK} {E : XK} (h :  ∃ (o dx : Addr) (n : Int) (R : List Ent), vs = [.ref o, .int n] ∧ W H H ((o, .ins A.c_Order dx []) :: R) ∧
  (0 ≤ n ∧ n < 6075 → ∀ H' a, a.o = o → W H H' (orL A a (order0 n) ++ R) → Q .non H') ∧ (¬ (0 ≤ n ∧ n < 6075) → ∀ H', W H H' R → E (.ref A.c_BadNumber) none H')) : sp_Order_init A vs H Q E := by unfold sp_Order_init; exact h
@[irreducible] def sp_Order_set_again (A : Ads) : Sp := fun vs H Q E => ∃ (a : OA) (s : Or) (x : Str) (R : List Ent), vs = [.ref a.o, .str x] ∧ W H H (orL A a s ++ R) ∧ (x ∈ repeats → ∀ H', W H H' (orL A a { s with again := x } ++ R) → Q .non H') ∧ (x ∉ repeats → E (.ref A.c_BadWord) none H)
theorem of_Order_set_again {A : Ads} {vs : List V} {H : Hp} {Q : VK} {E : XK} (h :  ∃ (a : OA) (s : Or) (x : Str) (R : List Ent), vs = [.ref a.o, .str x] ∧ W H H (orL A a s ++ R) ∧ (x ∈ repeats → ∀ H', W H H' (orL A a { s with again := x } ++ R) → Q .non H') ∧ (x ∉ repeats → E (.ref A.c_BadWord) none H)) : sp_Order_set_again A vs H Q E := by unfold sp_Order_set_again; exact h
@[irreducible] def sp_Order_set_mixed (A : Ads) : Sp := fun vs H Q _ => ∃ (a : OA) (s : Or) (b : Bool) (e : Option Int) (R : List Ent), vs = [.ref a.o, .bl b, oV e] ∧ W H H (orL A a s ++ R) ∧ s.Ok ∧ ∀ H' k', W H H' (orL A { a with k := k' } (setM s b e) ++ R) → Q .non H'
theorem of_Order_set_mixed {A : Ads} {vs : List V} {H : Hp} {Q : VK} {E : XK} (h :  ∃ (a : OA) (s : Or) (b : Bool) (e : Option Int) (R : List Ent), vs = [.ref a.o, .bl b, oV e] ∧ W H H (orL A a s ++ R) ∧ s.Ok ∧ ∀ H' k', W H H' (orL A { a with k := k' } (setM s b e) ++ R) → Q .non H') : sp_Order_set_mixed A vs H Q E := by unfold sp_Order_set_mixed; exact h
@[irreducible] def sp_Order_put (A : Ads) : Sp := fun vs H Q E => ∃ (a : OA) (s : Or) (x : Str) (p : Int) (R : List Ent), vs = [.ref a.o, .str x, .int p] ∧ W H H (orL A a s ++ R) ∧ s.Ok ∧ s.q.tunes.length < 1000 ∧
  (0 ≤ p ∧ p ≤ s.q.turn.length ∧ s.q.turn.length ≠ 12 → ∀ H', W H H' (orL A a (putO s x p) ++ R) → Q (.int ((s.q.tunes.length : Int) + 1)) H') ∧ (¬ (0 ≤ p ∧ p ≤ s.q.turn.length ∧ s.q.turn.length ≠ 12) → E (.ref A.c_BadNumber) none H)
theorem of_Order_put {A : Ads} {vs : List V} {H : Hp} {Q : VK} {E : XK} (h :  ∃ (a : OA) (s : Or) (x : Str) (p : Int) (R : List Ent), vs = [.ref a.o, .str x, .int p] ∧ W H H (orL A a s ++ R) ∧ s.Ok ∧ s.q.tunes.length < 1000 ∧
  (0 ≤ p ∧ p ≤ s.q.turn.length ∧ s.q.turn.length ≠ 12 → ∀ H', W H H' (orL A a (putO s x p) ++ R) → Q (.int ((s.q.tunes.length : Int) + 1)) H') ∧ (¬ (0 ≤ p ∧ p ≤ s.q.turn.length ∧ s.q.turn.length ≠ 12) → E (.ref A.c_BadNumber) none H)) : sp_Order_put A vs H Q E := by unfold sp_Order_put; exact h
@[irreducible] def sp_Order_remove (A : Ads) : Sp := fun vs H Q E => ∃ (a : OA) (s : Or) (e : Int) (now : Option Int) (R : List Ent), vs = [.ref a.o, .int e, oV now] ∧ W H H (orL A a s ++ R) ∧ s.Ok ∧
  (e ∈ s.q.turn → ∀ H', W H H' (orL A a (remO s e now) ++ R) → Q .non H') ∧ (e ∉ s.q.turn → ∀ H', W H H' (orL A a s ++ R) → E (.ref A.c_BadEntry) none H')
theorem of_Order_remove {A : Ads} {vs : List V} {H : Hp} {Q : VK} {E : XK} (h :  ∃ (a : OA) (s : Or) (e : Int) (now : Option Int) (R : List Ent), vs = [.ref a.o, .int e, oV now] ∧ W H H (orL A a s ++ R) ∧ s.Ok ∧
  (e ∈ s.q.turn → ∀ H', W H H' (orL A a (remO s e now) ++ R) → Q .non H') ∧ (e ∉ s.q.turn → ∀ H', W H H' (orL A a s ++ R) → E (.ref A.c_BadEntry) none H')) : sp_Order_remove A vs H Q E := by unfold sp_Order_remove; exact h
@[irreducible] def sp_Order_next_plain (A : Ads) : Sp := fun vs H Q _ => ∃ (a : OA) (s : Or) (e : Option Int) (R : List Ent), vs = [.ref a.o, oV e] ∧ W H H (orL A a s ++ R) ∧ s.Ok ∧ ∀ H', W H H' (orL A a s ++ R) → Q (oV (plainN s e)) H'
theorem of_Order_next_plain {A : Ads} {vs : List V} {H : Hp} {Q : VK} {E : XK} (h :  ∃ (a : OA) (s : Or) (e : Option Int) (R : List Ent), vs = [.ref a.o, oV e] ∧ W H H (orL A a s ++ R) ∧ s.Ok ∧ ∀ H', W H H' (orL A a s ++ R) → Q (oV (plainN s e)) H') : sp_Order_next_plain A vs H Q E := by unfold sp_Order_next_plain; exact h
@[irreducible] def sp_Order_next_mixed (A : Ads) : Sp := fun vs H Q _ => ∃ (a : OA) (s : Or) (e : Option Int) (R : List Ent), vs = [.ref a.o, oV e] ∧ W H H (orL A a s ++ R) ∧ s.Ok ∧ ∀ H' k', W H H' (orL A { a with k := k' } (popS (refill s e)) ++ R) → Q (oV (popO (refill s e))) H'
theorem of_Order_next_mixed {A : Ads} {vs : List V} {H : Hp} {Q : VK} {E : XK} (h :  ∃ (a : OA) (s : Or) (e : Option Int) (R : List Ent), vs = [.ref a.o, oV e] ∧ W H H (orL A a s ++ R) ∧ s.Ok ∧ ∀ H' k', W H H' (orL A { a with k := k' } (popS (refill s e)) ++ R) → Q (oV (popO (refill s e))) H') : sp_Order_next_mixed A vs H Q E := by unfold sp_Order_next_mixed; exact h
@[irreducible] def sp_Order_skip (A : Ads) : Sp := fun vs H Q _ => ∃ (a : OA) (s : Or) (e : Option Int) (R : List Ent), vs = [.ref a.o, oV e] ∧ W H H (orL A a s ++ R) ∧ s.Ok ∧ ∀ H' k', W H H' (orL A { a with k := k' } (skipS s e) ++ R) → Q (oV (skipV s e)) H'
theorem of_Order_skip {A : Ads} {vs : List V} {H : Hp} {Q : VK} {E : XK} (h :  ∃ (a : OA) (s : Or) (e : Option Int) (R : List Ent), vs = [.ref a.o, oV e] ∧ W H H (orL A a s ++ R) ∧ s.Ok ∧ ∀ H' k', W H H' (orL A { a with k := k' } (skipS s e) ++ R) → Q (oV (skipV s e)) H') : sp_Order_skip A vs H Q E := by unfold sp_Order_skip; exact h
@[irreducible] def sp_Order_after (A : Ads) : Sp := fun vs H Q _ => ∃ (a : OA) (s : Or) (e : Option Int) (R : List Ent), vs = [.ref a.o, oV e] ∧ W H H (orL A a s ++ R) ∧ s.Ok ∧ ∀ H' k', W H H' (orL A { a with k := k' } (afterS s e) ++ R) → Q (oV (afterV s e)) H'
theorem of_Order_after {A : Ads} {vs : List V} {H : Hp} {Q : VK} {E : XK} (h :  ∃ (a : OA) (s : Or) (e : Option Int) (R : List Ent), vs = [.ref a.o, oV e] ∧ W H H (orL A a s ++ R) ∧ s.Ok ∧ ∀ H' k', W H H' (orL A { a with k := k' } (afterS s e) ++ R) → Q (oV (afterV s e)) H') : sp_Order_after A vs H Q E := by unfold sp_Order_after; exact h
@[irreducible] def sp_Order_first (A : Ads) : Sp := fun vs H Q _ => ∃ (a : OA) (s : Or) (R : List Ent), vs = [.ref a.o] ∧ W H H (orL A a s ++ R) ∧ s.Ok ∧ ∀ H' k', W H H' (orL A { a with k := k' } (firstS s) ++ R) → Q (oV (firstV s)) H'
theorem of_Order_first {A : Ads} {vs : List V} {H : Hp} {Q : VK} {E : XK} (h :  ∃ (a : OA) (s : Or) (R : List Ent), vs = [.ref a.o] ∧ W H H (orL A a s ++ R) ∧ s.Ok ∧ ∀ H' k', W H H' (orL A { a with k := k' } (firstS s) ++ R) → Q (oV (firstV s)) H') : sp_Order_first A vs H Q E := by unfold sp_Order_first; exact h
@[irreducible] def sp_Order_began (A : Ads) : Sp := fun vs H Q _ => ∃ (a : OA) (s : Or) (e : Int) (R : List Ent), vs = [.ref a.o, .int e] ∧ W H H (orL A a s ++ R) ∧ s.Ok ∧ ∀ H', W H H' (orL A a (beganO s e) ++ R) → Q .non H'
theorem of_Order_began {A : Ads} {vs : List V} {H : Hp} {Q : VK} {E : XK} (h :  ∃ (a : OA) (s : Or) (e : Int) (R : List Ent), vs = [.ref a.o, .int e] ∧ W H H (orL A a s ++ R) ∧ s.Ok ∧ ∀ H', W H H' (orL A a (beganO s e) ++ R) → Q .non H') : sp_Order_began A vs H Q E := by unfold sp_Order_began; exact h
theorem head_map (ns : List Int) : (ns.map V.int)[0]? = ns.head?.map V.int := by cases ns <;> rfl
section
variable {P : Program} {w : World} {K : PySem.W.Frag} {mg : Str → Option Value} {base : Heap} {A : Ads}
theorem ok_Order_init__ (T : Txt K mg A) : FnOk P w K mg base (L2.CX P w) 3 A.f_Order_init__ A.d_Order_init__ P_Order_init__ (sp_Order_init A) := by
  refine T.F_Order_init__.okX sc_Order_init__ (fun vs H Q E h => ?_) (fun cdv Ar outer s H vs Q E hr h => ?_)
  · unfold sp_Order_init at h; obtain ⟨o, dx, n, R, rfl, _⟩ := h; rfl
  · unfold sp_Order_init at h; obtain ⟨o, dx, n, R, rfl, w, k1, k2⟩ := h
    refine ⟨_, (pss_cons (my_fld (pv 0) (my_make0 T.M_Queue (ok_Queue_init__ T) (hr.mono (by decide)) (by rfl) T.g_Queue T.b_Queue_init__ passE))
      (pss_cons (my_fld (pv 0) (my_make T.M_Dice (ok_Dice_init__ T) (hr.mono (by decide)) (by rfl) T.g_Dice T.b_Dice_init__ passE (pa_cons (pv 1) pa_nil)))
      (pss_cons (my_fld (pv 0) pe_bl)
      (pss_cons (my_fld (pv 0) pe_str)
      (pss_cons (my_fld (pv 0) (my_lst pa_nil))
      (pss_cons (my_fld (pv 0) pe_bl)
      (pss_one (my_fld (pv 0) pe_non)))))))), ?_⟩
    walk_at "rd"
    refine st_make w fun q qx H1 w1 => ?_
    refine of_Queue_init ⟨q, qx, _, rfl, w1.now, fun H2 d t w2 => ?_⟩
    have w3 := w1.tr w2
    clear w1 w2
    walk_at "rd"
    refine st_fld w3 3 rfl T.c_Order T.n_Order_queue (by decide) fun H3 w4 => ?_
    walk_at "rd"
    refine st_make w4 fun dc ddx H4 w5 => ?_
    refine of_Dice_init ⟨dc, ddx, n, _, rfl, w5.now, fun hn H5 w6 => ?_, fun hn => k2 hn _ ((w5.drop1.drop1.drop1.drop1).drop1)⟩
    have w7 := w5.tr w6
    clear w5 w6 w4 w3
    walk_at "rd"
    refine st_fld w7 4 rfl T.c_Order T.n_Order_dice (by show 1 < 1000; decide) fun H6 w8 => ?_
    walk_at "rd"
    refine st_fld w8 4 rfl T.c_Order T.n_Order_is_mixed (by show 2 < 1000; decide) fun H7 w9 => ?_
    walk_at "rd"
    refine st_fld w9 4 rfl T.c_Order T.n_Order_again (by show 3 < 1000; decide) fun H8 w10 => ?_
    walk_at "rd"
    refine st_new w10 fun dk H9 w11 => ?_
    walk_at "rd"
    refine st_fld w11 5 rfl T.c_Order T.n_Order_deck (by show 4 < 1000; decide) fun H10 w12 => ?_
    walk_at "rd"
    refine st_fld w12 5 rfl T.c_Order T.n_Order_is_gone (by show 5 < 1000; decide) fun H11 w13 => ?_
    walk_at "rd"
    refine st_fld w13 5 rfl T.c_Order T.n_Order_behind (by show 6 < 1000; decide) fun H12 w14 => ?_
    refine k1 hn H12 ⟨o, dx, ⟨q, qx, d, t⟩, dc, ddx, dk⟩ rfl ?_
    have w15 := ((w14.rot 1 5).rot 4 1).rot 2 3
    exact w15.rot 3 1
theorem ok_Order_set_again (T : Txt K mg A) : FnOk P w K mg base (L2.CX P w) 1 A.f_Order_set_again A.d_Order_set_again P_Order_set_again (sp_Order_set_again A) := by
  refine T.F_Order_set_again.okX sc_Order_set_again (fun vs H Q E h => ?_) (fun cdv Ar outer s H vs Q E hr h => ?_)
  · unfold sp_Order_set_again at h; obtain ⟨a, s, x, R, rfl, _⟩ := h; rfl
  · unfold sp_Order_set_again at h; obtain ⟨a, s, x, R, rfl, w, k1, k2⟩ := h
    refine ⟨_, (pss_cons (my_if (pt_cmpR op_notIn_seq (pv 1) (my_globR T.gi_REPEATS (by rfl)) (by rfl))
        (pss_one (ps_raise rfl takesE (pmk_own PySem.F.excBase_ValueError T.x_BadWord T.g_BadWord T.k_BadWord (raises_own T.r_BadWord T.t_BadWord) (by rfl))))
        pss_nil)
      (pss_one (my_fld (pv 0) (pv 1)))), ?_⟩
    walk_at "rd"
    have e : inV (.str x) [V.str (Str.ofString "none"), V.str (Str.ofString "all"), V.str (Str.ofString "one")] = decide (x ∈ repeats) := inV_strs repeats x
    by_cases hx : x ∈ repeats
    · refine xIf_F (by show (!inV (.str x) [V.str (Str.ofString "none"), V.str (Str.ofString "all"), V.str (Str.ofString "one")]) = false; rw [e, decide_eq_true hx]; rfl) ?_
      walk_at "rd"
      exact sf_Order_again T w 0 rfl fun H1 w1 => k1 hx H1 w1
    · exact xIf_T (by show (!inV (.str x) [V.str (Str.ofString "none"), V.str (Str.ofString "all"), V.str (Str.ofString "one")]) = true; rw [e, decide_eq_false hx]; rfl) (k2 hx)
theorem ok_Order_put (T : Txt K mg A) : FnOk P w K mg base (L2.CX P w) 2 A.f_Order_put A.d_Order_put P_Order_put (sp_Order_put A) := by
  refine T.F_Order_put.okX sc_Order_put (fun vs H Q E h => ?_) (fun cdv Ar outer s H vs Q E hr h => ?_)
  · unfold sp_Order_put at h; obtain ⟨a, s, x, p, R, rfl, _⟩ := h; rfl
  · unfold sp_Order_put at h; obtain ⟨a, s, x, p, R, rfl, w, ok, hz, k1, k2⟩ := h
    refine ⟨_, (pss_cons (ps_set (i := 3) sc_Order_put.nd rfl (by first | exact Or.inl rfl | exact Or.inr rfl) (my_meth (pe_fld (pv 0) rfl) T.c_Queue T.m_Queue_put (ok_Queue_put T) (hr.mono (by decide)) T.b_Queue_put passE (pa_cons (pv 1) (pa_cons (pv 2) pa_nil))))
      (pss_cons (my_if (pt_val (pe_fld (pv 0) rfl))
        (pss_one (ps_expr (pe_bm PySem.F.plainAttrs_list PySem.F.slot_list_insert PySem.F.type_list_insert my_insert (pe_fld (pv 0) rfl) (pa_cons (my_meth (pe_fld (pv 0) rfl) T.c_Dice T.m_Dice_below (ok_Dice_below T) (hr.mono (by decide)) T.b_Dice_below passE (pa_cons (pe_op op_add (pe_callB my_lenQ (by rfl) T.z_len PySem.boot_len (pa_cons (pe_fld (pv 0) rfl) pa_nil)) pe_int) pa_nil)) (pa_cons (pv 3) pa_nil)))))
        pss_nil)
      (pss_one (ps_ret (pv 3))))), ?_⟩
    have hdl := ok.len
    walk_at "rd"
    refine st_call (of_Queue_put ⟨a.q, s.q, x, p, _, rfl, (w.rot 1 3).now, ok.q, hz, fun hp H1 w1 => ?_, k2⟩)
    have w2 := w.tr w1
    clear w1
    have k1 := k1 hp
    unfold putO at k1
    walk_at "rd"
    refine xIf_2 (fun h => ?_) (fun h => ?_)
    · have h : s.mixed = true := h
      rw [if_pos h] at k1
      walk_at "rd"
      refine st_call (of_Dice_below ⟨a.dc, a.ddx, s.num, _, _, rfl, (w2.rot 4 1).now, ok.num, fun _ H2 w3 => ?_, fun z => absurd (by rw [List.length_map]; omega) z⟩)
      have w4 := w2.tr w3
      clear w3
      rw [List.length_map]
      have hd := dB_bd s.num (m := (s.deck.length : Int) + 1) (by omega)
      walk_at "rd"
      refine st_ins w4 5 rfl (by rw [List.length_map]; exact szL (by omega)) hd.1 (by omega) fun H3 w5 => ?_
      have e1 := insP_map V.int s.deck (dB s.num ((s.deck.length : Int) + 1)).toNat ((s.q.tunes.length : Int) + 1)
      unfold insP at e1
      rw [← e1] at w5
      exact ⟨_, rfl, k1 H3 (w5.pick 6 [4, 1, 2, 3, 0, 5])⟩
    · have h : ¬ s.mixed = true := by rw [show s.mixed = false from h]; exact Bool.false_ne_true
      rw [if_neg h] at k1
      exact ⟨_, rfl, k1 H1 (w2.pick 6 [3, 0, 1, 2, 4, 5])⟩
theorem ok_Order_remove (T : Txt K mg A) : FnOk P w K mg base (L2.CX P w) 3 A.f_Order_remove A.d_Order_remove P_Order_remove (sp_Order_remove A) := by
  refine T.F_Order_remove.okX sc_Order_remove (fun vs H Q E h => ?_) (fun cdv Ar outer s H vs Q E hr h => ?_)
  · unfold sp_Order_remove at h; obtain ⟨a, s, e, now, R, rfl, _⟩ := h; rfl
  · unfold sp_Order_remove at h; obtain ⟨a, s, e, now, R, rfl, w, ok, k1, k2⟩ := h
    refine ⟨_, (pss_cons (ps_set (i := 3) sc_Order_remove.nd rfl (by first | exact Or.inl rfl | exact Or.inr rfl) (pe_slice my_sl (my_meth0 (pe_fld (pv 0) rfl) T.c_Queue T.m_Queue_entries (ok_Queue_entries T) (hr.mono (by decide)) T.b_Queue_entries passE) (po_some (pe_op op_add (my_meth (pe_fld (pv 0) rfl) T.c_Queue T.m_Queue_place (ok_Queue_place T) (hr.mono (by decide)) T.b_Queue_place passE (pa_cons (pv 1) pa_nil)) pe_int)) po_none))
      (pss_cons (ps_expr (my_meth (pe_fld (pv 0) rfl) T.c_Queue T.m_Queue_remove (ok_Queue_remove T) (hr.mono (by decide)) T.b_Queue_remove passE (pa_cons (pv 1) pa_nil)))
      (pss_cons (my_if (pt_cmpR op_in_seq (pv 1) (pe_fld (pv 0) rfl) (by rfl))
        (pss_one (ps_expr (pe_bm PySem.F.plainAttrs_list PySem.F.slot_list_remove PySem.F.type_list_remove my_remove (pe_fld (pv 0) rfl) (pa_cons (pv 1) pa_nil))))
        pss_nil)
      (pss_one (my_if (PW.pt (my_or (pt_cmpR op_eq (pv 1) (pv 2) (nomark _)) (pw_or1 (PW.pt (my_and (pt_val (pe_fld (pv 0) rfl)) (pw_and1 (pt_cmpR op_eq (pv 1) (pe_fld (pv 0) rfl) (nomark _))))))))
        (pss_cons (my_fld (pv 0) pe_bl)
      (pss_one (my_fld (pv 0) (my_ifExp (pt_truth (pv 3) (by intro _; rfl)) (pe_ix ix_list (pv 3) pe_int (fun _ _ => rfl)) pe_non))))
        pss_nil))))), ?_⟩
    have hq := ok.q.sz
    walk_at "rd"
    refine st_call (of_Queue_entries ⟨a.q, s.q, _, rfl, (w.rot 1 3).now, fun H1 l w1 => ?_⟩)
    have w2 := w.tr w1
    clear w1
    walk_at "rd"
    refine st_call (of_Queue_place ⟨a.q, s.q, e, _, rfl, (w2.rot 1 3).now, fun he => ?_, fun he => k2 he H1 (w2.pick 7 [4, 1, 2, 3, 5, 6])⟩)
    have k1 := k1 he
    have hil := List.idxOf_lt_length_iff.mpr he
    walk_at "rd"
    refine st_new w2 fun m H2 w3 => ?_
    have ec : cutV (s.q.turn.map V.int) (some ((s.q.turn.idxOf e : Int) + 1)) none = (s.q.turn.drop (s.q.turn.idxOf e + 1)).map V.int := by
      unfold cutV
      rw [HT.sIx_none, show ((s.q.turn.idxOf e : Int) + 1) = ((s.q.turn.idxOf e + 1 : Nat) : Int) by push_cast; rfl, HT.sIx_nat, List.length_map, Nat.min_eq_left (by omega), ← List.map_drop, List.take_of_length_le (by rw [List.length_map, List.length_drop]; omega)]
    rw [ec] at w3
    walk_at "rd"
    refine st_call (of_Queue_remove ⟨a.q, s.q, e, _, rfl, (w3.rot 2 3).now, fun _ H3 w4 => ?_, fun z => absurd he z⟩)
    have w5 := w3.tr w4
    clear w4 w3 w2
    have w6 : W H H3 ((m, .lst ((s.q.turn.drop (s.q.turn.idxOf e + 1)).map V.int)) :: (orL A a { s with q := s.q.rem e } ++ R)) := w5.pick 8 [3, 5, 0, 1, 2, 6, 7]
    clear w5
    walk_at "rd"
    refine xIf_2 (fun h => ?_) (fun h => ?_)
    case' refine_1 =>
      have hm : e ∈ s.deck := by rw [inV_ints] at h; exact of_decide_eq_true h
      walk_at "rd"
      refine st_rem w6 6 rfl hm fun H4 w7 => ?_
    case' refine_2 =>
      have hm : e ∉ s.deck := by rw [inV_ints] at h; exact of_decide_eq_false h
      obtain ⟨H4, eH4⟩ : ∃ H4, H4 = H3 := ⟨_, rfl⟩
      have w7 : W H H4 ((m, .lst ((s.q.turn.drop (s.q.turn.idxOf e + 1)).map V.int)) :: (orL A a { s with q := s.q.rem e, deck := s.deck.erase e } ++ R)) := by
        rw [eH4, List.erase_of_not_mem hm]
        exact w6
      rw [← eH4]
    all_goals
      replace w7 : W H H4 ((m, .lst ((s.q.turn.drop (s.q.turn.idxOf e + 1)).map V.int)) :: (orL A a { s with q := s.q.rem e, deck := s.deck.erase e } ++ R)) := w7
      have sc1 := scal_io e now
      have sc2 := scal_io e s.behind
      walk_at "rd"
      rw [do_eq]
      by_cases hc : now = some e ∨ (s.gone = true ∧ s.behind = some e)
      case' neg =>
        refine xIf_F (decide_eq_false fun z => hc (.inl z)) ?_
        walk_at "rd"
        refine xIf_2 (fun h => ?_) (fun h => ?_)
        case' refine_1 =>
          walk_at "rd"
          rw [do_eq]
          refine xIf_F (decide_eq_false fun z => hc (.inr ⟨h, z⟩)) ?_
        case' refine_2 =>
          refine xIf_F rfl ?_
        all_goals
          refine k1 _ ?_
          unfold remO
          rw [if_neg hc, if_neg hc]
          exact w7.drop1
      case' pos =>
        by_cases hn : now = some e
        case' pos =>
          refine xIf_T (decide_eq_true hn) ?_
          refine xIf_T rfl ?_
        case' neg =>
          have hc2 := hc.resolve_left hn
          refine xIf_F (decide_eq_false hn) ?_
          walk_at "rd"
          refine xIf_T hc2.1 ?_
          walk_at "rd"
          rw [do_eq]
          refine xIf_T (decide_eq_true hc2.2) ?_
        all_goals
          walk_at "rd"
          refine sf_Order_is_gone T w7 1 rfl fun H5 w8 => ?_
          walk_at "rd"
          have eb : behindOf s.q.turn e = (s.q.turn.drop (s.q.turn.idxOf e + 1)).head? := by
            unfold behindOf
            rw [List.head?_drop]
          unfold remO at k1
          rw [if_pos hc, if_pos hc, eb] at k1
          generalize s.q.turn.drop (s.q.turn.idxOf e + 1) = lt at *
          cases lt with
          | nil =>
            refine xIf_F rfl ?_
            walk_at "rd"
            exact sf_Order_behind T w8 1 rfl fun H6 w9 => k1 H6 (W.drop1 w9)
          | cons x r =>
            refine xIf_T rfl ?_
            walk_at "rd"
            refine ⟨atI_nat rfl, ?_⟩
            walk_at "rd"
            exact sf_Order_behind T w8 1 rfl fun H6 w9 => k1 H6 (W.drop1 w9)
theorem idx_get {turn : List Int} {b : Int} (h : b ∈ turn) : turn[turn.idxOf b]? = some b := by
  have hl := List.idxOf_lt_length_iff.mpr h
  rw [List.getElem?_eq_getElem hl, List.getElem_idxOf hl]
theorem ok_Order_next_plain (T : Txt K mg A) : FnOk P w K mg base (L2.CX P w) 2 A.f_Order_next_plain A.d_Order_next_plain P_Order_next_plain (sp_Order_next_plain A) := by
  refine T.F_Order_next_plain.okX sc_Order_next_plain (fun vs H Q E h => ?_) (fun cdv Ar outer s H vs Q E hr h => ?_)
  · unfold sp_Order_next_plain at h; obtain ⟨a, s, e, R, rfl, _⟩ := h; rfl
  · unfold sp_Order_next_plain at h; obtain ⟨a, s, e, R, rfl, w, ok, k⟩ := h
    refine ⟨_, (pss_cons (ps_set (i := 2) sc_Order_next_plain.nd rfl (by first | exact Or.inl rfl | exact Or.inr rfl) (my_meth0 (pe_fld (pv 0) rfl) T.c_Queue T.m_Queue_entries (ok_Queue_entries T) (hr.mono (by decide)) T.b_Queue_entries passE))
      (pss_cons (ps_set (i := 3) sc_Order_next_plain.nd rfl (by first | exact Or.inl rfl | exact Or.inr rfl) (my_ifExp (pt_cmpR op_in_seq (pv 1) (pv 2) (by rfl)) (pe_op op_add (pe_bm PySem.F.plainAttrs_list PySem.F.slot_list_index PySem.F.type_list_index my_index (pv 2) (pa_cons (pv 1) pa_nil)) pe_int) pe_int))
      (pss_cons (my_if (PW.pt (my_and (pt_val (pe_fld (pv 0) rfl)) (pw_and1 (pt_cmpR op_notIn_seq (pv 1) (pv 2) (by rfl)))))
        (pss_one (ps_set (i := 3) sc_Order_next_plain.nd rfl (by first | exact Or.inl rfl | exact Or.inr rfl) (my_ifExp (pt_cmpR op_isN (pe_fld (pv 0) rfl) pe_non (nomark _)) (pe_callB my_lenQ (by rfl) T.z_len PySem.boot_len (pa_cons (pv 2) pa_nil)) (pe_bm PySem.F.plainAttrs_list PySem.F.slot_list_index PySem.F.type_list_index my_index (pv 2) (pa_cons (pe_fld (pv 0) rfl) pa_nil)))))
        pss_nil)
      (pss_cons (my_if (pt_cmpR op_lt (pv 3) (pe_callB my_lenQ (by rfl) T.z_len PySem.boot_len (pa_cons (pv 2) pa_nil)) (nomark _))
        (pss_one (ps_ret (pe_ix ix_list (pv 2) (pv 3) (fun _ _ => rfl))))
        pss_nil)
      (pss_one (ps_ret (my_ifExp (PW.pt (my_and (pt_cmpR op_eq (pe_fld (pv 0) rfl) pe_str (nomark _)) (pw_and1 (pt_truth (pv 2) (by intro _; rfl))))) (pe_ix ix_list (pv 2) pe_int (fun _ _ => rfl)) pe_non))))))), ?_⟩
    walk_at "rd"
    refine st_call (of_Queue_entries ⟨a.q, s.q, _, rfl, (w.rot 1 3).now, fun H1 l w1 => ?_⟩)
    have w2 := w.tr w1
    have w3 : W H H1 ((l, .lst (s.q.turn.map V.int)) :: (orL A a s ++ R)) := w2.pick 7 [0, 4, 1, 2, 3, 5, 6]
    clear w2 w1
    have k := k H1 w3.drop1
    have fl := flat_oV e
    have fb := flat_oV s.behind
    have hq := ok.q.sz
    walk_at "rd"
    by_cases hin : ∃ x, e = some x ∧ x ∈ s.q.turn
    case' pos =>
      refine xIf_T (by show inV (oV e) (s.q.turn.map V.int) = true; rw [inV_o]; exact decide_eq_true hin) ?_
      obtain ⟨x, rfl, hx⟩ := hin
      have hnt : (!inV (oV (some x)) (s.q.turn.map V.int)) = false := by rw [inV_o, decide_eq_true ⟨x, rfl, hx⟩]; rfl
      walk_at "rd"
      refine st_idxI (SqL.of (w3.get 0 rfl)) hx ?_
      walk_at "rd"
      obtain ⟨pl, epl, j, hj, hfr⟩ : ∃ pl : Int, pl = (s.q.turn.idxOf x : Int) + 1 ∧ ∃ j : Nat, pl = j ∧ fromO s (some x) = s.q.turn[j]? := ⟨_, rfl, s.q.turn.idxOf x + 1, by push_cast; rfl, by unfold fromO; simp only; rw [if_pos hx]; rfl⟩
      dsimp only
      rw [← epl]
      refine xIf_2 (fun h => ?_) (fun h => ?_)
      case' refine_1 =>
        walk_at "rd"
        refine xIf_F hnt ?_
      case' refine_2 =>
        refine xIf_F rfl ?_
    case' neg =>
      have hni : inV (oV e) (s.q.turn.map V.int) = false := by rw [inV_o]; exact decide_eq_false hin
      refine xIf_F hni ?_
      walk_at "rd"
      have hfo : fromO s e = if s.gone = true then s.behind else s.q.turn.head? := by
        unfold fromO
        cases e with
        | none => rfl
        | some x =>
          simp only
          rw [if_neg (fun z => hin ⟨x, rfl, z⟩)]
      refine xIf_2 (fun h => ?_) (fun h => ?_)
      case' refine_1 =>
        have hg : s.gone = true := h
        rw [if_pos hg] at hfo
        have hbh := ok.bh hg
        walk_at "rd"
        refine xIf_T (by show (!inV (oV e) (s.q.turn.map V.int)) = true; rw [hni]; rfl) ?_
        walk_at "rd"
        rcases hb : s.behind with _ | b
        case' none =>
          refine xIf_T rfl ?_
          walk_at "rd"
          obtain ⟨pl, epl, j, hj, hfr⟩ : ∃ pl : Int, pl = ((s.q.turn.map V.int).length : Int) ∧ ∃ j : Nat, pl = j ∧ fromO s e = s.q.turn[j]? := ⟨_, rfl, s.q.turn.length, by rw [List.length_map], by rw [hfo, hb, List.getElem?_eq_none (Nat.le_refl _)]⟩
          rw [← epl]
          rw [List.length_map] at epl
        case' some =>
          refine xIf_F rfl ?_
          walk_at "rd"
          refine st_idxV (SqL.of (w3.get 0 rfl)) (by rw [hb]; rfl) (hbh b hb) ?_
          obtain ⟨pl, epl, j, hj, hfr⟩ : ∃ pl : Int, pl = (s.q.turn.idxOf b : Int) ∧ ∃ j : Nat, pl = j ∧ fromO s e = s.q.turn[j]? := ⟨_, rfl, s.q.turn.idxOf b, rfl, by rw [hfo, hb, idx_get (hbh b hb)]⟩
          rw [← epl]
      case' refine_2 =>
        have hg : ¬ s.gone = true := by rw [show s.gone = false from h]; exact Bool.false_ne_true
        rw [if_neg hg] at hfo
        refine xIf_F rfl ?_
        obtain ⟨j, hj0, hfr⟩ : ∃ j : Nat, j = 0 ∧ fromO s e = s.q.turn[j]? := ⟨0, rfl, by rw [hfo, List.head?_eq_getElem?]⟩
    all_goals
      walk_at "rd"
      unfold plainN at k
      rw [hfr] at k
      first | rw [hj] | skip
      cases ht : s.q.turn[j]? with
      | some y =>
        have hjl := (List.getElem?_eq_some_iff.mp ht).1
        rw [ht] at k
        refine xIf_T (decide_eq_true (by first | omega | (rw [List.length_map]; omega))) ?_
        walk_at "rd"
        exact ⟨at_of (j := j) (by omega) (by rw [List.getElem?_map, ht]; rfl), k⟩
      | none =>
        have hjl := List.getElem?_eq_none_iff.mp ht
        rw [ht] at k
        refine xIf_F (decide_eq_false (by first | omega | (rw [List.length_map]; omega))) ?_
        walk_at "rd"
        refine xIf_2 (fun h => ?_) (fun h => ?_)
        · have ha : s.again = "all" := ds_t h
          simp only [if_pos ha] at k
          walk_at "rd"
          generalize s.q.turn = tn at *
          cases tn with
          | nil => exact xIf_F rfl k
          | cons y r =>
            refine xIf_T rfl ?_
            walk_at "rd"
            exact ⟨atI_nat rfl, k⟩
        · have ha : ¬ s.again = "all" := ds_f h
          simp only [if_neg ha] at k
          exact xIf_F rfl k
theorem cut_m1 {xs : List Int} (h : 1 ≤ xs.length) : cutV (xs.map V.int) (some (-1)) none = (xs.drop (xs.length - 1)).map V.int := by
  unfold cutV
  rw [HT.sIx_none, List.length_map, show HT.sIx xs.length 0 (some (-1)) = xs.length - 1 from by unfold HT.sIx; simp only; rw [if_pos (by decide)]; omega, ← List.map_drop, List.take_of_length_le (by rw [List.length_map, List.length_drop]; omega)]
theorem cut_1m1 {xs : List Int} (h : 2 ≤ xs.length) : cutV (xs.map V.int) (some 1) (some (-1)) = ((xs.drop 1).take (xs.length - 2)).map V.int := by
  unfold cutV
  rw [List.length_map, show HT.sIx xs.length 0 (some 1) = 1 from by unfold HT.sIx; simp only; rw [if_neg (by decide)]; show min 1 _ = 1; omega,
    show HT.sIx xs.length xs.length (some (-1)) = xs.length - 1 from by unfold HT.sIx; simp only; rw [if_pos (by decide)]; omega, ← List.map_drop, ← List.map_take]
  rfl
theorem cut_n1 {xs : List Int} (h : 1 ≤ xs.length) : cutV (xs.map V.int) none (some 1) = (xs.take 1).map V.int := by
  unfold cutV
  rw [List.length_map, HT.sIx_none, show HT.sIx xs.length xs.length (some 1) = 1 from by unfold HT.sIx; simp only; rw [if_neg (by decide)]; show min 1 _ = 1; omega, ← List.map_drop, ← List.map_take]
  rfl
theorem ok_Order_next_mixed (T : Txt K mg A) : FnOk P w K mg base (L2.CX P w) 3 A.f_Order_next_mixed A.d_Order_next_mixed P_Order_next_mixed (sp_Order_next_mixed A) := by
  refine T.F_Order_next_mixed.okX sc_Order_next_mixed (fun vs H Q E h => ?_) (fun cdv Ar outer s H vs Q E hr h => ?_)
  · unfold sp_Order_next_mixed at h; obtain ⟨a, s, e, R, rfl, _⟩ := h; rfl
  · unfold sp_Order_next_mixed at h; obtain ⟨a, s, e, R, rfl, w, ok, k⟩ := h
    refine ⟨_, (pss_cons (my_if (PW.pt (my_and (pt_not (pt_truth (pe_fld (pv 0) rfl) (by intro _; rfl))) (pw_and1 (pt_cmpR op_eq (pe_fld (pv 0) rfl) pe_str (nomark _)))))
        (pss_cons (my_fld (pv 0) (my_call (ok_mixed T) (hr.mono (by decide)) (by rfl) T.g_mixed T.k_mixed T.b_mixed passE (pa_cons (pe_fld (pv 0) rfl) (pa_cons (my_meth0 (pe_fld (pv 0) rfl) T.c_Queue T.m_Queue_entries (ok_Queue_entries T) (hr.mono (by decide)) T.b_Queue_entries passE) pa_nil))))
      (pss_one (my_if (PW.pt (my_and (pt_cmpR op_gt (pe_callB my_lenQ (by rfl) T.z_len PySem.boot_len (pa_cons (pe_fld (pv 0) rfl) pa_nil)) pe_int (nomark _)) (pw_and1 (pt_cmpR op_eq (pe_ix ix_list (pe_fld (pv 0) rfl) pe_int (fun _ _ => rfl)) (pv 1) (nomark _)))))
        (pss_one (my_fld (pv 0) (pe_op my_cat (pe_op my_cat (pe_slice my_sl (pe_fld (pv 0) rfl) (po_some (pe_un un_neg pe_int)) po_none) (pe_slice my_sl (pe_fld (pv 0) rfl) (po_some pe_int) (po_some (pe_un un_neg pe_int)))) (pe_slice my_sl (pe_fld (pv 0) rfl) po_none (po_some pe_int)))))
        pss_nil)))
        pss_nil)
      (pss_one (ps_ret (my_ifExp (pt_truth (pe_fld (pv 0) rfl) (by intro _; rfl)) (pe_bm PySem.F.plainAttrs_list PySem.F.slot_list_pop PySem.F.type_list_pop my_popAt (pe_fld (pv 0) rfl) (pa_cons pe_int pa_nil)) pe_non)))), ?_⟩
    have hq := ok.q.sz
    have hdl := ok.len
    have hnum := ok.num
    have sc1 := fun x => scal_io x e
    obtain ⟨q, num, mixed, again, deck, gone, behind⟩ := s
    have hq : q.turn.length ≤ 12 := hq
    have hdl : deck.length ≤ 12 := hdl
    have hnum : 0 ≤ num ∧ num < 6075 := hnum
    clear ok
    cases deck with
    | cons x r =>
      have er : refill ⟨q, num, mixed, again, x :: r, gone, behind⟩ e = ⟨q, num, mixed, again, x :: r, gone, behind⟩ := if_neg (fun z => nomatch z.1)
      rw [er] at k
      walk_at "rd"
      refine xIf_F rfl ?_
      refine xIf_F rfl ?_
      walk_at "rd"
      refine xIf_T rfl ?_
      walk_at "rd"
      exact st_pop0 w 5 rfl fun H1 w1 => k H1 a.k w1
    | nil =>
      walk_at "rd"
      refine xIf_T rfl ?_
      walk_at "rd"
      refine xIf_2 (fun h => ?_) (fun h => ?_)
      · have ha : again = "all" := ds_t h
        have er : refill ⟨q, num, mixed, again, [], gone, behind⟩ e = ⟨q, (mixL num q.turn).1, mixed, again, if 1 < (mixL num q.turn).2.length ∧ (mixL num q.turn).2.head? = e then swE (mixL num q.turn).2 else (mixL num q.turn).2, gone, behind⟩ := if_pos ⟨rfl, ha⟩
        rw [er] at k
        walk_at "rd"
        refine st_call (of_Queue_entries ⟨a.q, q, _, rfl, (w.rot 1 3).now, fun H1 l w1 => ?_⟩)
        have w2 := w.tr w1
        clear w1
        walk_at "rd"
        refine st_call (of_mixed ⟨a.dc, a.ddx, l, num, q.turn.map V.int, _, rfl, (w2.rot 5 1).now, hnum, fun _ _ v => SqL.of (v.get 0 rfl), by rw [List.length_map]; omega, fun H3 dk w4 => ?_⟩)
        have w5 := w2.tr w4
        clear w4 w2
        rw [mixL_map] at w5
        have hml := mixL_len num q.turn
        generalize mixL num q.turn = mm at *
        obtain ⟨n', ys⟩ := mm
        have hml : ys.length = q.turn.length := hml
        dsimp only at k
        walk_at "rd"
        refine sf_Order_deck T w5 6 rfl fun H4 w6 => ?_
        have w7 : W H H4 (orL A { a with k := dk } ⟨q, n', mixed, again, ys, gone, behind⟩ ++ R) := w6.pick 8 [6, 3, 4, 5, 1, 0]
        clear w6 w5
        walk_at "rd"
        rcases ys with _ | ⟨y, _ | ⟨z, r⟩⟩
        · refine xIf_F rfl ?_
          refine xIf_F rfl ?_
          walk_at "rd"
          refine xIf_F rfl ?_
          rw [if_neg (fun z => absurd z.1 (by decide))] at k
          exact k H4 dk w7
        · refine xIf_F rfl ?_
          refine xIf_F rfl ?_
          walk_at "rd"
          refine xIf_T rfl ?_
          walk_at "rd"
          rw [if_neg (fun z => absurd z.1 (by show ¬ 1 < 1; decide))] at k
          exact st_pop0 w7 5 rfl fun H5 w8 => k H5 dk w8
        · refine xIf_T (decide_eq_true (by show (1 : Int) < ((r.map V.int).length + 1 + 1 : Nat); omega)) ?_
          have sc2 := sc1 y
          have hlen : (y :: z :: r).length = q.turn.length := hml
          rw [List.length_cons, List.length_cons] at hlen
          walk_at "rd"
          refine ⟨atI_nat rfl, ?_⟩
          walk_at "rd"
          rw [do_eq]
          by_cases he : e = some y
          · refine xIf_T (decide_eq_true he) ?_
            rw [if_pos ⟨by rw [List.length_cons, List.length_cons]; omega, he.symm⟩] at k
            unfold swE at k
            have hle : 2 ≤ (y :: z :: r).length := by rw [List.length_cons, List.length_cons]; omega
            generalize hys : y :: z :: r = ys at *
            have w7 : W H H4 (orL A { a with k := dk } ⟨q, n', mixed, again, ys, gone, behind⟩ ++ R) := w7
            walk_at "rd"
            refine st_new w7 fun l1 H5 w8 => ?_
            replace w8 : W H H5 ((l1, .lst ((ys.drop (ys.length - 1)).map V.int)) :: (orL A { a with k := dk } ⟨q, n', mixed, again, ys, gone, behind⟩ ++ R)) := by
              rw [← cut_m1 (by omega)]; exact w8
            walk_at "rd"
            refine st_new w8 fun l2 H6 w9 => ?_
            replace w9 : W H H6 ((l2, .lst (((ys.drop 1).take (ys.length - 2)).map V.int)) :: (l1, .lst ((ys.drop (ys.length - 1)).map V.int)) :: (orL A { a with k := dk } ⟨q, n', mixed, again, ys, gone, behind⟩ ++ R)) := by
              rw [← cut_1m1 hle]; exact w9
            walk_at "rd"
            refine st_new w9 fun l3 H7 w10 => ?_
            walk_at "rd"
            refine st_new w10 fun l4 H8 w11 => ?_
            replace w11 : W H H8 ((l4, .lst ((ys.take 1).map V.int)) :: (l3, .lst ((ys.drop (ys.length - 1)).map V.int ++ ((ys.drop 1).take (ys.length - 2)).map V.int)) :: (l2, .lst (((ys.drop 1).take (ys.length - 2)).map V.int)) :: (l1, .lst ((ys.drop (ys.length - 1)).map V.int)) :: (orL A { a with k := dk } ⟨q, n', mixed, again, ys, gone, behind⟩ ++ R)) := by
              rw [← cut_n1 (by omega)]; exact w11
            walk_at "rd"
            refine st_new w11 fun l5 H9 w12 => ?_
            walk_at "rd"
            refine sf_Order_deck T w12 5 rfl fun H10 w13 => ?_
            rw [← List.map_append, ← List.map_append] at w13
            have w14 : W H H10 (orL A { a with k := l5 } ⟨q, n', mixed, again, ys.drop (ys.length - 1) ++ (ys.drop 1).take (ys.length - 2) ++ ys.take 1, gone, behind⟩ ++ R) := w13.pick 11 [5, 6, 7, 8, 9, 0]
            clear w13 w12 w11 w10 w9 w8 w7
            have hnn : ys.drop (ys.length - 1) ++ (ys.drop 1).take (ys.length - 2) ++ ys.take 1 ≠ [] := fun z => by
              have := congrArg List.length z
              simp only [List.length_append, List.length_drop, List.length_take, List.length_nil] at this
              omega
            generalize ys.drop (ys.length - 1) ++ (ys.drop 1).take (ys.length - 2) ++ ys.take 1 = ds at *
            cases ds with
            | nil => exact absurd rfl hnn
            | cons d ds =>
              walk_at "rd"
              refine xIf_T rfl ?_
              walk_at "rd"
              exact st_pop0 w14 5 rfl fun H11 w15 => k H11 l5 w15
          · refine xIf_F (decide_eq_false he) ?_
            rw [if_neg (fun z => he z.2.symm)] at k
            walk_at "rd"
            refine xIf_T rfl ?_
            walk_at "rd"
            exact st_pop0 w7 5 rfl fun H5 w8 => k H5 dk w8
      · have ha : again ≠ "all" := ds_f h
        have er : refill ⟨q, num, mixed, again, [], gone, behind⟩ e = ⟨q, num, mixed, again, [], gone, behind⟩ := if_neg (fun z => ha z.2)
        rw [er] at k
        walk_at "rd"
        refine xIf_F rfl ?_
        exact k H a.k w
theorem ok_Order_skip (T : Txt K mg A) : FnOk P w K mg base (L2.CX P w) 4 A.f_Order_skip A.d_Order_skip P_Order_skip (sp_Order_skip A) := by
  refine T.F_Order_skip.okX sc_Order_skip (fun vs H Q E h => ?_) (fun cdv Ar outer s H vs Q E hr h => ?_)
  · unfold sp_Order_skip at h; obtain ⟨a, s, e, R, rfl, _⟩ := h; rfl
  · unfold sp_Order_skip at h; obtain ⟨a, s, e, R, rfl, w, ok, k⟩ := h
    refine ⟨_, (pss_one (ps_ret (my_ifExp (pt_val (pe_fld (pv 0) rfl)) (my_meth (pv 0) T.c_Order T.m_Order_next_mixed (ok_Order_next_mixed T) (hr.mono (by decide)) T.b_Order_next_mixed passE (pa_cons (pv 1) pa_nil)) (my_meth (pv 0) T.c_Order T.m_Order_next_plain (ok_Order_next_plain T) (hr.mono (by decide)) T.b_Order_next_plain passE (pa_cons (pv 1) pa_nil))))), ?_⟩
    unfold skipV skipS at k
    walk_at "rd"
    refine xIf_2 (fun h => ?_) (fun h => ?_)
    · have h : s.mixed = true := h
      rw [if_pos h, if_pos h] at k
      walk_at "rd"
      exact st_call (of_Order_next_mixed ⟨a, s, e, R, rfl, w, ok, k⟩)
    · have h : ¬ s.mixed = true := by rw [show s.mixed = false from h]; exact Bool.false_ne_true
      rw [if_neg h, if_neg h] at k
      walk_at "rd"
      exact st_call (of_Order_next_plain ⟨a, s, e, R, rfl, w, ok, fun H1 w1 => k H1 a.k w1⟩)
theorem ok_Order_after (T : Txt K mg A) : FnOk P w K mg base (L2.CX P w) 5 A.f_Order_after A.d_Order_after P_Order_after (sp_Order_after A) := by
  refine T.F_Order_after.okX sc_Order_after (fun vs H Q E h => ?_) (fun cdv Ar outer s H vs Q E hr h => ?_)
  · unfold sp_Order_after at h; obtain ⟨a, s, e, R, rfl, _⟩ := h; rfl
  · unfold sp_Order_after at h; obtain ⟨a, s, e, R, rfl, w, ok, k⟩ := h
    refine ⟨_, (pss_cons (my_if (PW.pt (my_and (pt_cmpR op_eq (pe_fld (pv 0) rfl) pe_str (nomark _)) (pw_and1 (pt_cmpR op_in_seq (pv 1) (my_meth0 (pe_fld (pv 0) rfl) T.c_Queue T.m_Queue_entries (ok_Queue_entries T) (hr.mono (by decide)) T.b_Queue_entries passE) (by rfl)))))
        (pss_one (ps_ret (pv 1)))
        pss_nil)
      (pss_one (ps_ret (my_meth (pv 0) T.c_Order T.m_Order_skip (ok_Order_skip T) (hr.mono (by decide)) T.b_Order_skip passE (pa_cons (pv 1) pa_nil))))), ?_⟩
    have fl := flat_oV e
    unfold afterV afterS at k
    walk_at "rd"
    refine xIf_2 (fun h => ?_) (fun h => ?_)
    · have ha : s.again = "one" := ds_t h
      walk_at "rd"
      refine st_call (of_Queue_entries ⟨a.q, s.q, _, rfl, (w.rot 1 3).now, fun H1 l w1 => ?_⟩)
      have w2 : W H H1 (orL A a s ++ R) := (w.tr w1).pick 7 [4, 1, 2, 3, 5, 6]
      have w3 := w.tr w1
      walk_at "rd"
      refine xIf_2 (fun h => ?_) (fun h => ?_)
      · have hin : ∃ x, e = some x ∧ x ∈ s.q.turn := by
          have h : inV (oV e) (s.q.turn.map V.int) = true := h
          rw [inV_o] at h
          exact of_decide_eq_true h
        rw [if_pos ⟨ha, hin⟩, if_pos ⟨ha, hin⟩] at k
        walk_at "rd"
        exact k H1 a.k w2
      · have hin : ¬ ∃ x, e = some x ∧ x ∈ s.q.turn := by
          have h : inV (oV e) (s.q.turn.map V.int) = false := h
          rw [inV_o] at h
          exact of_decide_eq_false h
        rw [if_neg (fun z => hin z.2), if_neg (fun z => hin z.2)] at k
        walk_at "rd"
        exact st_call (of_Order_skip ⟨a, s, e, R, rfl, w2.now, ok, fun H2 k' w4 => k H2 k' (w2.tr w4)⟩)
    · have ha : s.again ≠ "one" := ds_f h
      rw [if_neg (fun z => ha z.1), if_neg (fun z => ha z.1)] at k
      refine xIf_F rfl ?_
      walk_at "rd"
      exact st_call (of_Order_skip ⟨a, s, e, R, rfl, w, ok, k⟩)
theorem ok_Order_first (T : Txt K mg A) : FnOk P w K mg base (L2.CX P w) 3 A.f_Order_first A.d_Order_first P_Order_first (sp_Order_first A) := by
  refine T.F_Order_first.okX sc_Order_first (fun vs H Q E h => ?_) (fun cdv Ar outer s H vs Q E hr h => ?_)
  · unfold sp_Order_first at h; obtain ⟨a, s, R, rfl, _⟩ := h; rfl
  · unfold sp_Order_first at h; obtain ⟨a, s, R, rfl, w, ok, k⟩ := h
    refine ⟨_, (pss_cons (my_if (pt_not (pt_val (pe_fld (pv 0) rfl)))
        (pss_one (ps_ret (my_ifExp (pt_truth (my_meth0 (pe_fld (pv 0) rfl) T.c_Queue T.m_Queue_entries (ok_Queue_entries T) (hr.mono (by decide)) T.b_Queue_entries passE) (by intro _; rfl)) (pe_ix ix_list (my_meth0 (pe_fld (pv 0) rfl) T.c_Queue T.m_Queue_entries (ok_Queue_entries T) (hr.mono (by decide)) T.b_Queue_entries passE) pe_int (fun _ _ => rfl)) pe_non)))
        pss_nil)
      (pss_cons (my_if (pt_not (pt_truth (pe_fld (pv 0) rfl) (by intro _; rfl)))
        (pss_one (my_fld (pv 0) (my_call (ok_mixed T) (hr.mono (by decide)) (by rfl) T.g_mixed T.k_mixed T.b_mixed passE (pa_cons (pe_fld (pv 0) rfl) (pa_cons (my_meth0 (pe_fld (pv 0) rfl) T.c_Queue T.m_Queue_entries (ok_Queue_entries T) (hr.mono (by decide)) T.b_Queue_entries passE) pa_nil)))))
        pss_nil)
      (pss_one (ps_ret (my_ifExp (pt_truth (pe_fld (pv 0) rfl) (by intro _; rfl)) (pe_bm PySem.F.plainAttrs_list PySem.F.slot_list_pop PySem.F.type_list_pop my_popAt (pe_fld (pv 0) rfl) (pa_cons pe_int pa_nil)) pe_non))))), ?_⟩
    have hq := ok.q.sz
    have hnum := ok.num
    obtain ⟨q, num, mixed, again, deck, gone, behind⟩ := s
    have hq : q.turn.length ≤ 12 := hq
    have hnum : 0 ≤ num ∧ num < 6075 := hnum
    clear ok
    unfold firstV firstS at k
    cases mixed with
    | false =>
      walk_at "rd"
      refine xIf_T rfl ?_
      walk_at "rd"
      refine st_call (of_Queue_entries ⟨a.q, q, _, rfl, (w.rot 1 3).now, fun H1 l w1 => ?_⟩)
      have w2 := w.tr w1
      clear w1
      walk_at "rd"
      have w3 : W H H1 (orL A a ⟨q, num, false, again, deck, gone, behind⟩ ++ R) := w2.pick 7 [4, 1, 2, 3, 5, 6]
      obtain ⟨tunes, turn⟩ := q
      cases turn with
      | nil =>
        refine xIf_F rfl ?_
        exact k H1 a.k w3
      | cons x r =>
        refine xIf_T rfl ?_
        walk_at "rd"
        refine st_call (of_Queue_entries ⟨a.q, ⟨tunes, x :: r⟩, _, rfl, (w3.rot 1 3).now, fun H2 l2 w4 => ?_⟩)
        have w5 := w3.tr w4
        clear w4
        walk_at "rd"
        refine ⟨atI_nat rfl, ?_⟩
        exact k H2 a.k (w5.pick 7 [4, 1, 2, 3, 5, 6])
    | true =>
      rw [if_pos rfl, if_pos rfl] at k
      walk_at "rd"
      refine xIf_F rfl ?_
      walk_at "rd"
      cases deck with
      | cons x r =>
        have er : fillF ⟨q, num, true, again, x :: r, gone, behind⟩ = ⟨q, num, true, again, x :: r, gone, behind⟩ := if_neg (fun z => nomatch z)
        rw [er] at k
        refine xIf_F rfl ?_
        walk_at "rd"
        refine xIf_T rfl ?_
        walk_at "rd"
        exact st_pop0 w 5 rfl fun H1 w1 => k H1 a.k w1
      | nil =>
        have er : fillF ⟨q, num, true, again, [], gone, behind⟩ = ⟨q, (mixL num q.turn).1, true, again, (mixL num q.turn).2, gone, behind⟩ := if_pos rfl
        rw [er] at k
        refine xIf_T rfl ?_
        walk_at "rd"
        refine st_call (of_Queue_entries ⟨a.q, q, _, rfl, (w.rot 1 3).now, fun H1 l w1 => ?_⟩)
        have w2 := w.tr w1
        clear w1
        walk_at "rd"
        refine st_call (of_mixed ⟨a.dc, a.ddx, l, num, q.turn.map V.int, _, rfl, (w2.rot 5 1).now, hnum, fun _ _ v => SqL.of (v.get 0 rfl), by rw [List.length_map]; omega, fun H3 dk w4 => ?_⟩)
        have w5 := w2.tr w4
        clear w4 w2
        rw [mixL_map] at w5
        generalize mixL num q.turn = mm at *
        obtain ⟨n', ys⟩ := mm
        dsimp only at k
        walk_at "rd"
        refine sf_Order_deck T w5 6 rfl fun H4 w6 => ?_
        have w7 : W H H4 (orL A { a with k := dk } ⟨q, n', true, again, ys, gone, behind⟩ ++ R) := w6.pick 8 [6, 3, 4, 5, 1, 0]
        clear w6 w5
        walk_at "rd"
        cases ys with
        | nil =>
          refine xIf_F rfl ?_
          exact k H4 dk w7
        | cons y r =>
          refine xIf_T rfl ?_
          walk_at "rd"
          exact st_pop0 w7 5 rfl fun H5 w8 => k H5 dk w8
theorem ok_Order_began (T : Txt K mg A) : FnOk P w K mg base (L2.CX P w) 2 A.f_Order_began A.d_Order_began P_Order_began (sp_Order_began A) := by
  refine T.F_Order_began.okX sc_Order_began (fun vs H Q E h => ?_) (fun cdv Ar outer s H vs Q E hr h => ?_)
  · unfold sp_Order_began at h; obtain ⟨a, s, e, R, rfl, _⟩ := h; rfl
  · unfold sp_Order_began at h; obtain ⟨a, s, e, R, rfl, w, ok, k⟩ := h
    refine ⟨_, (pss_cons (my_if (pt_cmpR op_in_seq (pv 1) (my_meth0 (pe_fld (pv 0) rfl) T.c_Queue T.m_Queue_entries (ok_Queue_entries T) (hr.mono (by decide)) T.b_Queue_entries passE) (by rfl))
        (pss_one (my_fld (pv 0) pe_bl))
        pss_nil)
      (pss_one (my_if (pt_cmpR op_in_seq (pv 1) (pe_fld (pv 0) rfl) (by rfl))
        (pss_one (ps_expr (pe_bm PySem.F.plainAttrs_list PySem.F.slot_list_remove PySem.F.type_list_remove my_remove (pe_fld (pv 0) rfl) (pa_cons (pv 1) pa_nil))))
        pss_nil))), ?_⟩
    unfold beganO at k
    walk_at "rd"
    refine st_call (of_Queue_entries ⟨a.q, s.q, _, rfl, (w.rot 1 3).now, fun H1 l w1 => ?_⟩)
    have w2 := w.tr w1
    clear w1
    walk_at "rd"
    refine xIf_2 (fun h => ?_) (fun h => ?_)
    case' refine_1 =>
      have hm : e ∈ s.q.turn := by
        have h : inV (V.int e) (s.q.turn.map V.int) = true := h
        rw [inV_ints] at h; exact of_decide_eq_true h
      rw [if_pos hm] at k
      walk_at "rd"
      refine sf_Order_is_gone T w2 4 rfl fun H2 w3 => ?_
      have w4 : W H H2 (orL A a { s with gone := false } ++ R) := w3.pick 7 [4, 1, 2, 3, 5, 6]
    case' refine_2 =>
      have hm : e ∉ s.q.turn := by
        have h : inV (V.int e) (s.q.turn.map V.int) = false := h
        rw [inV_ints] at h; exact of_decide_eq_false h
      rw [if_neg hm] at k
      have w4 : W H H1 (orL A a s ++ R) := w2.pick 7 [4, 1, 2, 3, 5, 6]
    all_goals
      walk_at "rd"
      refine xIf_2 (fun h => ?_) (fun h => ?_)
      · have hd : e ∈ s.deck := by
          have h : inV (V.int e) (s.deck.map V.int) = true := h
          rw [inV_ints] at h; exact of_decide_eq_true h
        walk_at "rd"
        exact st_rem w4 5 rfl hd fun H3 w5 => k H3 w5
      · have hd : e ∉ s.deck := by
          have h : inV (V.int e) (s.deck.map V.int) = false := h
          rw [inV_ints] at h; exact of_decide_eq_false h
        rw [List.erase_of_not_mem hd] at k
        exact k _ w4
end
end TR

namespace TR
open PySem L2 PyProof.Rows
/-! ### shelves -/
def small : Str := "abcdefghijklmnopqrstuvwxyz"
def okN (x : Str) : Bool := decide (1 ≤ (x.length : Int)) && decide ((x.length : Int) ≤ 6) && (x.cps.toList.map fun c => decide (c ∈ small.cps.toList)).all id
abbrev Sf := List (Str × Int)
def sfK (s : Sf) : List (Key × V) := s.map fun p => (Sum.inr p.1, V.int p.2)
theorem sfK_len (s : Sf) : (sfK s).length = s.length := by unfold sfK; rw [List.length_map]
theorem sfK_keys (s : Sf) : (sfK s).map (·.1) = (s.map (·.1)).map Sum.inr := by unfold sfK; rw [List.map_map, List.map_map]; rfl
structure SA where
  q : Addr
  dx : Addr
  d : Addr
def sL (A : Ads) (a : SA) (s : Sf) : List Ent := [(a.q, .ins A.c_Shelf a.dx (fl_Shelf (.ref a.d))), (a.d, .dK (sfK s))]
def Sf.val (s : Sf) (x : Str) : Option Int := s.lookup x
theorem sfK_val (s : Sf) (x : Str) : valV (sfK s) (Sum.inr x) = (s.lookup x).map V.int := by
  induction s with
  | nil => rfl
  | cons p r ih =>
    show valV ((Sum.inr p.1, V.int p.2) :: sfK r) (Sum.inr x) = _
    rw [List.lookup_cons]
    by_cases h : p.1 = x
    · rw [valV_pos (by rw [h]), h, beq_self_eq_true]; rfl
    · have e2 : (x == p.1) = false := by simpa using fun z : x = p.1 => h z.symm
      rw [valV_neg (fun z => h (Sum.inr.inj z)), e2, ih]
theorem sfK_put {s : Sf} {x : Str} {n : Int} (h : s.lookup x = none) : putK (sfK s) (Sum.inr x) (.int n) = sfK (s ++ [(x, n)]) := by
  rw [putK_new _ (by rw [sfK_val, h]; rfl)]
  unfold sfK
  rw [List.map_append]
  rfl
@[irreducible] def sp_look_name (A : Ads) : Sp := fun vs H Q E => ∃ (x : Str) (R : List Ent), vs = [.str x] ∧ W H H R ∧ x.length < 1000 ∧ (okN x = true → ∀ H', W H H' R → Q .non H') ∧ (okN x = false → ∀ H', W H H' R → E (.ref A.c_BadTune) none H')
theorem of_look_name {A : Ads} {vs : List V} {H : Hp} {Q : VK} {E : XK} (h :  ∃ (x : Str) (R : List Ent), vs = [.str x] ∧ W H H R ∧ x.length < 1000 ∧ (okN x = true → ∀ H', W H H' R → Q .non H') ∧ (okN x = false → ∀ H', W H H' R → E (.ref A.c_BadTune) none H')) : sp_look_name A vs H Q E := by unfold sp_look_name; exact h
@[irreducible] def sp_Shelf_init (A : Ads) : Sp := fun vs H Q _ => ∃ (q dx : Addr) (R : List Ent), vs = [.ref q] ∧ W H H ((q, .ins A.c_Shelf dx []) :: R) ∧ ∀ H' d, W H H' (sL A ⟨q, dx, d⟩ [] ++ R) → Q .non H'
theorem of_Shelf_init {A : Ads} {vs : List V} {H : Hp} {Q : VK} {E : XK} (h :  ∃ (q dx : Addr) (R : List Ent), vs = [.ref q] ∧ W H H ((q, .ins A.c_Shelf dx []) :: R) ∧ ∀ H' d, W H H' (sL A ⟨q, dx, d⟩ [] ++ R) → Q .non H') : sp_Shelf_init A vs H Q E := by unfold sp_Shelf_init; exact h
@[irreducible] def sp_Shelf_add (A : Ads) : Sp := fun vs H Q E => ∃ (a : SA) (s : Sf) (x : Str) (n : Int) (R : List Ent), vs = [.ref a.q, .str x, .int n] ∧ W H H (sL A a s ++ R) ∧ x.length < 1000 ∧ s.length < 1000 ∧
  (okN x = true → s.lookup x = none → s.length ≠ 6 → 1 ≤ n ∧ n ≤ 40 → ∀ H', W H H' (sL A a (s ++ [(x, n)]) ++ R) → Q .non H') ∧
  (¬ (okN x = true ∧ s.lookup x = none ∧ s.length ≠ 6) → ∀ H', W H H' (sL A a s ++ R) → E (.ref A.c_BadTune) none H') ∧
  (okN x = true → s.lookup x = none → s.length ≠ 6 → ¬ (1 ≤ n ∧ n ≤ 40) → ∀ H', W H H' (sL A a s ++ R) → E (.ref A.c_BadNumber) none H')
theorem of_Shelf_add {A : Ads} {vs : List V} {H : Hp} {Q : VK} {E : XK} (h :  ∃ (a : SA) (s : Sf) (x : Str) (n : Int) (R : List Ent), vs = [.ref a.q, .str x, .int n] ∧ W H H (sL A a s ++ R) ∧ x.length < 1000 ∧ s.length < 1000 ∧
  (okN x = true → s.lookup x = none → s.length ≠ 6 → 1 ≤ n ∧ n ≤ 40 → ∀ H', W H H' (sL A a (s ++ [(x, n)]) ++ R) → Q .non H') ∧
  (¬ (okN x = true ∧ s.lookup x = none ∧ s.length ≠ 6) → ∀ H', W H H' (sL A a s ++ R) → E (.ref A.c_BadTune) none H') ∧
  (okN x = true → s.lookup x = none → s.length ≠ 6 → ¬ (1 ≤ n ∧ n ≤ 40) → ∀ H', W H H' (sL A a s ++ R) → E (.ref A.c_BadNumber) none H')) : sp_Shelf_add A vs H Q E := by unfold sp_Shelf_add; exact h
@[irreducible] def sp_Shelf_need (A : Ads) : Sp := fun vs H Q E => ∃ (a : SA) (s : Sf) (x : Str) (R : List Ent), vs = [.ref a.q, .str x] ∧ W H H (sL A a s ++ R) ∧ (s.lookup x ≠ none → Q .non H) ∧ (s.lookup x = none → E (.ref A.c_BadTune) none H)
theorem of_Shelf_need {A : Ads} {vs : List V} {H : Hp} {Q : VK} {E : XK} (h :  ∃ (a : SA) (s : Sf) (x : Str) (R : List Ent), vs = [.ref a.q, .str x] ∧ W H H (sL A a s ++ R) ∧ (s.lookup x ≠ none → Q .non H) ∧ (s.lookup x = none → E (.ref A.c_BadTune) none H)) : sp_Shelf_need A vs H Q E := by unfold sp_Shelf_need; exact h
@[irreducible] def sp_Shelf_long (A : Ads) : Sp := fun vs H Q E => ∃ (a : SA) (s : Sf) (x : Str) (R : List Ent), vs = [.ref a.q, .str x] ∧ W H H (sL A a s ++ R) ∧ (∀ n, s.lookup x = some n → Q (.int n) H) ∧ (s.lookup x = none → E (.ref A.c_BadTune) none H)
theorem of_Shelf_long {A : Ads} {vs : List V} {H : Hp} {Q : VK} {E : XK} (h :  ∃ (a : SA) (s : Sf) (x : Str) (R : List Ent), vs = [.ref a.q, .str x] ∧ W H H (sL A a s ++ R) ∧ (∀ n, s.lookup x = some n → Q (.int n) H) ∧ (s.lookup x = none → E (.ref A.c_BadTune) none H)) : sp_Shelf_long A vs H Q E := by unfold sp_Shelf_long; exact h
@[irreducible] def sp_Shelf_names (A : Ads) : Sp := fun vs H Q _ => ∃ (a : SA) (s : Sf) (R : List Ent), vs = [.ref a.q] ∧ W H H (sL A a s ++ R) ∧ s.length < 64 ∧ ∀ (ys : List Str) p H', ys.Perm (s.map (·.1)) → sortedS ys = true → W H H' ((p, .lst (ys.map V.str)) :: (sL A a s ++ R)) → Q (.ref p) H'
theorem of_Shelf_names {A : Ads} {vs : List V} {H : Hp} {Q : VK} {E : XK} (h :  ∃ (a : SA) (s : Sf) (R : List Ent), vs = [.ref a.q] ∧ W H H (sL A a s ++ R) ∧ s.length < 64 ∧ ∀ (ys : List Str) p H', ys.Perm (s.map (·.1)) → sortedS ys = true → W H H' ((p, .lst (ys.map V.str)) :: (sL A a s ++ R)) → Q (.ref p) H') : sp_Shelf_names A vs H Q E := by unfold sp_Shelf_names; exact h
section
variable {P : Program} {w : World} {K : PySem.W.Frag} {mg : Str → Option Value} {base : Heap} {A : Ads}
theorem ok_look_name (T : Txt K mg A) : FnOk P w K mg base (L2.CX P w) 1 A.f_look_name A.d_look_name P_look_name (sp_look_name A) := by
  refine T.F_look_name.okX sc_look_name (fun vs H Q E h => ?_) (fun cdv Ar outer s H vs Q E hr h => ?_)
  · unfold sp_look_name at h; obtain ⟨x, R, rfl, _⟩ := h; rfl
  · unfold sp_look_name at h; obtain ⟨x, R, rfl, w, hx, k1, k2⟩ := h
    refine ⟨_, (pss_one (my_if (PW.pt (my_or (pt_not (my_chIT op_le op_le pe_int (pe_callB my_lenSQ (by rfl) T.z_len PySem.boot_len (pa_cons (pv 0) pa_nil)) (my_globI T.gi_MOST_NAME (by rfl)) still_c (still_lenS still_v) still_c)) (pw_or1 (pt_not (pt_val (pe_callB (cr_all rfl) (by rfl) T.z_all (by decide +kernel) (pa_cons (my_lc (own := [("sign", 1)]) rfl sc_look_name.nd (pi_str (pv 0)) (blkOk_by (own := [("sign", 1)]) (N := N_look_name) (sc := defScope s_look_name) (by decide +kernel)) (fun _ _ _ _ _ => (pg_name (i := 1) sc_look_name.nd rfl (by first | exact Or.inl rfl | exact Or.inr rfl))) (fun _ _ _ _ _ => pts_nil) (fun _ _ _ _ _ => (pe_cmpR op_in_sign (pv 1) (my_globS T.gi_SMALL (by rfl)) (by rfl)))) pa_nil)))))))
        (pss_one (ps_raise rfl takesE (pmk_own PySem.F.excBase_ValueError T.x_BadTune T.g_BadTune T.k_BadTune (raises_own T.r_BadTune T.t_BadTune) (by rfl))))
        pss_nil)), ?_⟩
    have hxs : x.length ≤ sizeLine := szE (by omega)
    walk_at "rd"
    refine xIf_2 (fun h => ?_) (fun h => ?_)
    · refine xIf_T rfl (k2 ?_ _ w)
      have h1 := nb_t h
      unfold okN
      by_cases a1 : 1 ≤ (x.length : Int)
      · have a2 : ¬ (x.length : Int) ≤ 6 := fun z => h1 ⟨a1, z⟩
        rw [decide_eq_false a2, Bool.and_false, Bool.false_and]
      · rw [decide_eq_false a1, Bool.false_and, Bool.false_and]
    · have h1 := nb_f h
      walk_at "rd"
      refine st_lcS (fun D i H' => W H H' ((D, .lst (((x.cps.toList.take i).map fun c => decide (c ∈ small.cps.toList)).map V.bl)) :: R)) w (fun D H' w1 => w1) ?_ ?_
      · intro D i c H' hc w1
        walk_at "rd"
        refine xIf_T rfl ?_
        walk_at "rd"
        have hi := (List.getElem?_eq_some_iff.mp hc).1
        have hxl : x.cps.toList.length = x.length := by simp [Str.length]
        refine st_acc w1 0 rfl (by walk_at "sz") fun H2 w2 => ?_
        have e : (x.cps.toList.take (i + 1)) = x.cps.toList.take i ++ [c] := by rw [List.take_succ, hc]; rfl
        show W H H2 _
        rw [e, List.map_append, List.map_append]
        exact w2
      · intro D H' w1
        rw [List.take_length] at w1
        walk_at "rd"
        refine xIf_2 (fun h => k2 ?_ _ w1.drop1) (fun h => k1 ?_ _ w1.drop1)
        · unfold okN
          rw [decide_eq_true h1.1, decide_eq_true h1.2]
          simpa using h
        · unfold okN
          rw [decide_eq_true h1.1, decide_eq_true h1.2]
          simpa using h
theorem ok_Shelf_init__ (T : Txt K mg A) : FnOk P w K mg base (L2.CX P w) 1 A.f_Shelf_init__ A.d_Shelf_init__ P_Shelf_init__ (sp_Shelf_init A) := by
  refine T.F_Shelf_init__.okX sc_Shelf_init__ (fun vs H Q E h => ?_) (fun cdv Ar outer s H vs Q E hr h => ?_)
  · unfold sp_Shelf_init at h; obtain ⟨q, dx, R, rfl, _⟩ := h; rfl
  · unfold sp_Shelf_init at h; obtain ⟨q, dx, R, rfl, w, k⟩ := h
    refine ⟨_, (pss_one (my_fld (pv 0) my_dnew)), ?_⟩
    refine st_new w fun d H1 w1 => ?_
    walk_at "rd"
    refine st_fld w1 1 rfl T.c_Shelf T.n_Shelf_longs (by decide) fun H2 w2 => ?_
    exact k H2 d (w2.rot 1 1)
theorem ok_Shelf_add (T : Txt K mg A) : FnOk P w K mg base (L2.CX P w) 2 A.f_Shelf_add A.d_Shelf_add P_Shelf_add (sp_Shelf_add A) := by
  refine T.F_Shelf_add.okX sc_Shelf_add (fun vs H Q E h => ?_) (fun cdv Ar outer s H vs Q E hr h => ?_)
  · unfold sp_Shelf_add at h; obtain ⟨a, s, x, n, R, rfl, _⟩ := h; rfl
  · unfold sp_Shelf_add at h; obtain ⟨a, s, x, n, R, rfl, w, hx, hz, k1, k2, k3⟩ := h
    refine ⟨_, (pss_cons (ps_expr (my_call (ok_look_name T) (hr.mono (by decide)) (by rfl) T.g_look_name T.k_look_name T.b_look_name passE (pa_cons (pv 1) pa_nil)))
      (pss_cons (my_if (PW.pt (my_or (pt_cmp (pc_din (hu_of hr) (pv 1) (pe_fld (pv 0) rfl)) (by rfl)) (pw_or1 (pt_cmpR op_eq (pe_callB call_lenD (by rfl) T.z_len PySem.boot_len (pa_cons (pe_fld (pv 0) rfl) pa_nil)) (my_globI T.gi_MOST_TUNES (by rfl)) (nomark _)))))
        (pss_one (ps_raise rfl takesE (pmk_own PySem.F.excBase_ValueError T.x_BadTune T.g_BadTune T.k_BadTune (raises_own T.r_BadTune T.t_BadTune) (by rfl))))
        pss_nil)
      (pss_cons (my_if (pt_not (my_chIT op_le op_le pe_int (pv 2) (my_globI T.gi_MOST_LONG (by rfl)) still_c still_v still_c))
        (pss_one (ps_raise rfl takesE (pmk_own PySem.F.excBase_ValueError T.x_BadNumber T.g_BadNumber T.k_BadNumber (raises_own T.r_BadNumber T.t_BadNumber) (by rfl))))
        pss_nil)
      (pss_one (my_dput (hu_of hr) (pe_fld (pv 0) rfl) (pv 1) (pv 2)))))), ?_⟩
    walk_at "rd"
    refine st_call (of_look_name ⟨x, _, rfl, w, hx, fun hn H1 w1 => ?_, fun hn H1 w1 => k2 (fun z => by rw [hn] at z; cases z.1) _ w1⟩)
    walk_at "rd"
    rw [sfK_val]
    cases e : s.lookup x with
    | some m => exact xIf_T rfl (xIf_T rfl (k2 (fun z => by rw [e] at z; cases z.2.1) _ w1))
    | none =>
      refine xIf_F rfl ?_
      walk_at "rd"
      rw [sfK_len]
      refine xIf_2 (fun h => ?_) (fun h => ?_)
      · have h6 := de_t h
        exact k2 (fun z => z.2.2 (by omega)) _ w1
      · have h6 := de_f h
        walk_at "rd"
        refine xIf_2 (fun h => k3 hn e (by omega) (nb_t h) _ w1) (fun h => ?_)
        have h1 := nb_f h
        walk_at "rd"
        refine st_dput w1 1 (key := Sum.inr _) rfl rfl (by rw [sfK_len]; exact szL (by omega)) fun H2 w2 => ?_
        refine k1 hn e (by omega) h1 _ ?_
        rw [sfK_put e] at w2
        exact w2
theorem ok_Shelf_need (T : Txt K mg A) : FnOk P w K mg base (L2.CX P w) 1 A.f_Shelf_need A.d_Shelf_need P_Shelf_need (sp_Shelf_need A) := by
  refine T.F_Shelf_need.okX sc_Shelf_need (fun vs H Q E h => ?_) (fun cdv Ar outer s H vs Q E hr h => ?_)
  · unfold sp_Shelf_need at h; obtain ⟨a, s, x, R, rfl, _⟩ := h; rfl
  · unfold sp_Shelf_need at h; obtain ⟨a, s, x, R, rfl, w, k1, k2⟩ := h
    refine ⟨_, (pss_one (my_if (pt_cmp (pc_dnotin (hu_of hr) (pv 1) (pe_fld (pv 0) rfl)) (by rfl))
        (pss_one (ps_raise rfl takesE (pmk_own PySem.F.excBase_ValueError T.x_BadTune T.g_BadTune T.k_BadTune (raises_own T.r_BadTune T.t_BadTune) (by rfl))))
        pss_nil)), ?_⟩
    walk_at "rd"
    rw [sfK_val]
    cases e : s.lookup x with
    | none => exact xIf_T rfl (k2 e)
    | some m => exact xIf_F rfl (k1 (by rw [e]; exact fun z => nomatch z))
theorem ok_Shelf_long (T : Txt K mg A) : FnOk P w K mg base (L2.CX P w) 2 A.f_Shelf_long A.d_Shelf_long P_Shelf_long (sp_Shelf_long A) := by
  refine T.F_Shelf_long.okX sc_Shelf_long (fun vs H Q E h => ?_) (fun cdv Ar outer s H vs Q E hr h => ?_)
  · unfold sp_Shelf_long at h; obtain ⟨a, s, x, R, rfl, _⟩ := h; rfl
  · unfold sp_Shelf_long at h; obtain ⟨a, s, x, R, rfl, w, k1, k2⟩ := h
    refine ⟨_, (pss_cons (ps_expr (my_meth (pv 0) T.c_Shelf T.m_Shelf_need (ok_Shelf_need T) (hr.mono (by decide)) T.b_Shelf_need passE (pa_cons (pv 1) pa_nil)))
      (pss_one (ps_ret (pe_dget (hu_of hr) (pe_fld (pv 0) rfl) (pv 1) (fun _ _ => rfl))))), ?_⟩
    walk_at "rd"
    refine st_call (of_Shelf_need ⟨a, s, x, R, rfl, w, fun hn => ?_, k2⟩)
    cases e : s.lookup x with
    | none => exact absurd e hn
    | some m =>
      walk_at "rd"
      refine ⟨?_, k1 m e⟩
      have hv := sfK_val s x
      rw [e] at hv
      show DGet H a.d (.str x) (some (.int m))
      rw [show some (V.int m) = valV (sfK s) (Sum.inr x) from hv.symm]
      exact DGet.k (k := Sum.inr x) (w.get 1 rfl)
end
end TR
namespace TR
open PySem L2
/-! ### players, as plain data -/
structure Pl where
  ov : Int
  o : Or
  time : Int
  now : Option Int
  spot : Int
  old : Option (Int × Int × Int)
  soon : List Int
  past : List Int
  rows : List (Int × Int)
  plays : Bool
  stops : Bool
  sleep : Option Int
def longO (f : Sf) (o : Or) (e : Int) : Int := (f.lookup (o.q.tune e)).getD 0
def pl0 (ov n : Int) : Pl := ⟨ov, order0 n, 0, none, 0, none, [], [], [], false, false, none⟩
def nextV (s : Pl) (l : Bool) : Option Int := match s.soon with
  | x :: _ => some x
  | [] => if l = true then skipV s.o s.now else afterV s.o s.now
def nextS (s : Pl) (l : Bool) : Pl := match s.soon with
  | _ :: r => { s with soon := r }
  | [] => { s with o := if l = true then skipS s.o s.now else afterS s.o s.now }
def oldJ (f : Sf) (s : Pl) (j : Bool) : Option (Int × Int × Int) := if j = true then s.now.map fun n => (n, s.spot, longO f s.o n - s.spot) else none
def beginP (f : Sf) (s : Pl) (e : Option Int) (j : Bool) : Pl := match e with
  | none => { s with old := oldJ f s j, now := none, spot := 0 }
  | some x => { s with old := oldJ f s j, now := some x, spot := 0, o := beganO s.o x, rows := s.rows ++ [(s.time, x)] }
def pushN (s : Pl) : Pl := match s.now with
  | none => s
  | some n => { s with past := s.past ++ [n] }
def playP (f : Sf) (s : Pl) (e : Int) : Pl := { beginP f (pushN s) (some e) false with plays := true }
def resumeP (f : Sf) (s : Pl) : Pl := match s.now with
  | some _ => { s with plays := true }
  | none => match s.soon with
    | x :: r => { beginP f { s with soon := r } (some x) false with plays := true }
    | [] => match firstV s.o with
      | none => { s with o := firstS s.o, plays := false }
      | some x => { beginP f { s with o := firstS s.o } (some x) false with plays := true }
def skipP (f : Sf) (s : Pl) : Pl := { beginP f (pushN (nextS s true)) (nextV s true) false with plays := s.plays && (nextV s true).isSome }
def dropT (turn past : List Int) : List Int := (past.reverse.dropWhile fun x => decide (x ∉ turn)).reverse
def backSoon (s : Pl) : List Int := match s.now with
  | none => s.soon
  | some n => if n ∈ s.o.q.turn then n :: s.soon else s.soon
def againP (f : Sf) (s : Pl) : Pl := match s.now with
  | none => s
  | some n => beginP f s (some n) false
def backP (f : Sf) (s : Pl) : Pl := match (dropT s.o.q.turn s.past).getLast? with
  | none => againP f { s with past := dropT s.o.q.turn s.past }
  | some y => if 3 < s.spot then againP f { s with past := dropT s.o.q.turn s.past }
    else beginP f { s with past := (dropT s.o.q.turn s.past).dropLast, soon := backSoon s } (some y) false
def seekP (s : Pl) (n : Int) : Pl := { s with spot := n, old := none }
def joinL (f : Sf) (s : Pl) (n x : Int) : Int := mn2 (mn2 s.ov (longO f s.o n / 2)) (longO f s.o x / 2)
def foundP (s : Pl) : Option Int := if s.stops = true then none else nextV s false
def goOn (f : Sf) (s : Pl) (n x : Int) : Pl := beginP f { nextS s false with past := s.past ++ [n] } (some x) (decide (s.spot < longO f s.o n))
def endP (f : Sf) (s : Pl) (n : Int) : Pl := { beginP f { s with past := s.past ++ [n] } none false with plays := false, stops := false }
def turnP (f : Sf) (s : Pl) : Pl := match s.now with
  | none => s
  | some n => match foundP s with
    | some x => if longO f s.o n - joinL f s n x ≤ s.spot then goOn f s n x else s
    | none => if longO f s.o n ≤ s.spot then endP f s n else s
def oldP (f : Sf) (s : Pl) : Option (Int × Int × Int) := match s.old with
  | none => none
  | some (e, p, l) => if p + 1 < longO f s.o e then some (e, p + 1, l) else none
def sleepP (s : Pl) : Pl := match s.sleep with
  | none => s
  | some k => if k - 1 = 0 then { s with sleep := none, plays := false } else { s with sleep := some (k - 1) }
def preP (f : Sf) (s : Pl) : Pl := { s with time := s.time + 1, spot := s.spot + 1, old := oldP f s }
def stepP (f : Sf) (s : Pl) : Pl := sleepP (turnP f (preP f s))
def tick1 (f : Sf) (s : Pl) : Pl := if s.plays = true then stepP f s else s
def tickP (f : Sf) : Nat → Pl → Pl
  | 0, s => s
  | n + 1, s => tickP f n (tick1 f s)
def soundsP (f : Sf) (s : Pl) : List (Int × Int × Int × Int) := match s.now with
  | none => []
  | some n => match s.old with
    | none => [(n, s.spot, 1, 1)]
    | some (e, p, w) => [(e, p, longO f s.o e - p, w), (n, s.spot, w - (longO f s.o e - p), w)]
def addP (s : Pl) (x : Str) (p : Int) : Pl := { s with o := putO s.o x p }
def removeP (s : Pl) (e : Int) : Pl := { s with o := remO s.o e s.now, soon := s.soon.filter fun x => !decide (V.int x = V.int e) }
def moveP (s : Pl) (e p : Int) : Pl := { s with o := movO s.o e p }
def soonP (s : Pl) (e : Int) : Pl := { s with soon := s.soon ++ [e] }
def againS (s : Pl) (x : Str) : Pl := { s with o := { s.o with again := x } }
def mixedP (s : Pl) (b : Bool) : Pl := { s with o := setM s.o b s.now }
/-- steps till so many rows are there, or it ends -/
def goP (f : Sf) (n : Nat) : Nat → Pl → Pl
  | 0, s => s
  | m + 1, s => if s.plays = true ∧ s.rows.length < n then goP f n m (stepP f s) else s
def wakeP (s : Pl) : Pl := { s with sleep := none, plays := s.now.isSome }
def aheadFuel : Nat := 1000
def aheadS (f : Sf) (s : Pl) (m : Nat) : Pl := goP f (s.rows.length + m) aheadFuel (wakeP s)
def aheadP (f : Sf) (s : Pl) (m : Nat) : List (Int × Int) := ((aheadS f s m).rows.drop s.rows.length).map fun p => (p.1 - s.time, p.2)
/-! what holds -/
def Or.has (o : Or) (e : Int) : Prop := 1 ≤ e ∧ e ≤ o.q.tunes.length
/-- an entry whose tune is on the shelf -/
structure Kn (f : Sf) (o : Or) (e : Int) : Prop where
  has : o.has e
  lk : f.lookup (o.q.tune e) = some (longO f o e)
  lo : 1 ≤ longO f o e
  hi : longO f o e ≤ 40
def TnOk (f : Sf) (o : Or) : Prop := ∀ x ∈ o.q.tunes, ∃ n, f.lookup x = some n ∧ 1 ≤ n ∧ n ≤ 40
theorem TnOk.kn {f : Sf} {o : Or} (h : TnOk f o) {e : Int} (he : o.has e) : Kn f o e := by
  have hm : o.q.tune e ∈ o.q.tunes := by
    unfold Qu.tune
    have hl : (e - 1).toNat < o.q.tunes.length := by have := he.1; have := he.2; omega
    rw [List.getD_eq_getElem?_getD, List.getElem?_eq_getElem hl]
    exact List.getElem_mem hl
  obtain ⟨n, h1, h2, h3⟩ := h _ hm
  have e1 : longO f o e = n := by unfold longO; rw [h1]; rfl
  exact ⟨he, by rw [h1, e1], by rw [e1]; exact h2, by rw [e1]; exact h3⟩
/-- d: by how much the spot may be beyond the last one -/
structure Pl.OkB (f : Sf) (d : Int) (s : Pl) : Prop where
  o : s.o.Ok
  ov : 0 ≤ s.ov ∧ s.ov ≤ 9
  tn : TnOk f s.o
  nw : ∀ n, s.now = some n → s.o.has n ∧ 0 ≤ s.spot ∧ s.spot < longO f s.o n + d
  n0 : s.now = none → s.spot = 0 ∧ s.plays = false
  od : ∀ e p l, s.old = some (e, p, l) → s.o.has e
  sn : ∀ e ∈ s.soon, e ∈ s.o.q.turn
  ps : ∀ e ∈ s.past, s.o.has e
  sl : ∀ k, s.sleep = some k → 1 ≤ k
abbrev Pl.Ok (f : Sf) (s : Pl) : Prop := s.OkB f 0
structure Sz (s : Pl) (n : Nat) : Prop where
  r : s.rows.length ≤ n
  p : s.past.length ≤ n
  s : s.soon.length ≤ n
theorem Or.Ok.has {o : Or} (h : o.Ok) {e : Int} (he : e ∈ o.q.turn) : o.has e := h.q.bd e he
theorem skipV_mem {o : Or} (h : o.Ok) {e : Option Int} {x : Int} (hx : skipV o e = some x) : x ∈ o.q.turn := by
  unfold skipV at hx
  split at hx
  · have h1 := (h.refill e).sub x (List.mem_of_mem_head? hx)
    have h2 : (refill o e).q = o.q := by unfold refill; split <;> rfl
    rw [h2] at h1
    exact h1
  · unfold plainN at hx
    have tl : ∀ g : Option Int, (if o.gone = true then o.behind else o.q.turn.head?) = g → g = some x → x ∈ o.q.turn := by
      intro g hg hx
      rw [hx] at hg
      split at hg
      · rename_i hgo
        exact h.bh hgo x hg
      · exact List.mem_of_mem_head? hg
    have fr : ∀ y, fromO o e = some y → y = x → x ∈ o.q.turn := by
      intro y hy e1
      subst e1
      unfold fromO at hy
      cases e with
      | none => exact tl _ rfl hy
      | some z =>
        simp only at hy
        split at hy
        · exact behindOf_mem hy
        · exact tl _ rfl hy
    cases hf : fromO o e with
    | some y => rw [hf] at hx; exact fr y hf (Option.some.inj hx)
    | none =>
      rw [hf] at hx
      simp only at hx
      split at hx
      · exact List.mem_of_mem_head? hx
      · cases hx
theorem afterV_mem {o : Or} (h : o.Ok) {e : Option Int} {x : Int} (hx : afterV o e = some x) : x ∈ o.q.turn := by
  unfold afterV at hx
  split at hx
  · rename_i h1
    obtain ⟨_, y, hy, hm⟩ := h1
    rw [hy] at hx
    cases hx
    exact hm
  · exact skipV_mem h hx
theorem firstV_mem {o : Or} (h : o.Ok) {x : Int} (hx : firstV o = some x) : x ∈ o.q.turn := by
  unfold firstV at hx
  split at hx
  · have h1 := h.fill.sub x (List.mem_of_mem_head? hx)
    have h2 : (fillF o).q = o.q := by unfold fillF; split <;> rfl
    rw [h2] at h1
    exact h1
  · exact List.mem_of_mem_head? hx
theorem skipS_q (o : Or) (e : Option Int) : (skipS o e).q = o.q := by
  unfold skipS
  split
  · show (refill o e).q = o.q
    unfold refill; split <;> rfl
  · rfl
theorem afterS_q (o : Or) (e : Option Int) : (afterS o e).q = o.q := by
  unfold afterS
  split
  · rfl
  · exact skipS_q o e
theorem firstS_q (o : Or) : (firstS o).q = o.q := by
  unfold firstS
  split
  · show (fillF o).q = o.q
    unfold fillF; split <;> rfl
  · rfl
theorem longO_q {f : Sf} {o o' : Or} (h : o'.q = o.q) (e : Int) : longO f o' e = longO f o e := by unfold longO; rw [h]
theorem has_q {o o' : Or} (h : o'.q = o.q) {e : Int} (he : o.has e) : o'.has e := by unfold Or.has; rw [h]; exact he
theorem nextV_mem {s : Pl} (h : s.o.Ok) (hs : ∀ e ∈ s.soon, e ∈ s.o.q.turn) {l : Bool} {x : Int} (hx : nextV s l = some x) : x ∈ s.o.q.turn := by
  unfold nextV at hx
  split at hx
  · rename_i y r e
    cases hx
    exact hs _ (by rw [e]; exact List.mem_cons_self)
  · split at hx
    · exact skipV_mem h hx
    · exact afterV_mem h hx
theorem nextS_o (s : Pl) (l : Bool) : (nextS s l).o.q = s.o.q := by
  unfold nextS
  split
  · rfl
  · show (if l = true then skipS s.o s.now else afterS s.o s.now).q = s.o.q
    split
    · exact skipS_q _ _
    · exact afterS_q _ _
theorem nextS_ok {s : Pl} (h : s.o.Ok) (l : Bool) : (nextS s l).o.Ok := by
  unfold nextS
  split
  · exact h
  · show (if l = true then skipS s.o s.now else afterS s.o s.now).Ok
    split
    · exact h.skip _
    · exact h.after _
theorem nextS_soon (s : Pl) (l : Bool) : ∀ e ∈ (nextS s l).soon, e ∈ s.soon := by
  intro e he
  unfold nextS at he
  split at he
  · rename_i y r e1
    rw [e1]
    exact List.mem_cons_of_mem _ he
  · exact he
theorem nextS_same (s : Pl) (l : Bool) : nextS s l = { s with o := (nextS s l).o, soon := (nextS s l).soon } := by unfold nextS; split <;> rfl
/-- a change of the order that leaves the queue -/
theorem Pl.OkB.order {f : Sf} {d : Int} {s : Pl} (h : s.OkB f d) {o : Or} (ho : o.Ok) (hq : o.q = s.o.q) : ({ s with o := o } : Pl).OkB f d :=
  ⟨ho, h.ov, (fun x hx => h.tn x (by rw [← hq]; exact hx)), (fun n hn => ⟨has_q hq (h.nw n hn).1, (h.nw n hn).2.1, by show _ < longO f o n + d; rw [longO_q hq]; exact (h.nw n hn).2.2⟩), h.n0,
    (fun e p l e1 => has_q hq (h.od e p l e1)), (fun e he => by show e ∈ o.q.turn; rw [hq]; exact h.sn e he), (fun e he => has_q hq (h.ps e he)), h.sl⟩
theorem Pl.OkB.soon {f : Sf} {d : Int} {s : Pl} (h : s.OkB f d) {xs : List Int} (hx : ∀ e ∈ xs, e ∈ s.o.q.turn) : ({ s with soon := xs } : Pl).OkB f d := ⟨h.o, h.ov, h.tn, h.nw, h.n0, h.od, hx, h.ps, h.sl⟩
theorem Pl.OkB.past {f : Sf} {d : Int} {s : Pl} (h : s.OkB f d) {xs : List Int} (hx : ∀ e ∈ xs, s.o.has e) : ({ s with past := xs } : Pl).OkB f d := ⟨h.o, h.ov, h.tn, h.nw, h.n0, h.od, h.sn, hx, h.sl⟩
theorem Pl.OkB.next {f : Sf} {d : Int} {s : Pl} (h : s.OkB f d) (l : Bool) : (nextS s l).OkB f d := by
  have h1 := (h.order (nextS_ok h.o l) (nextS_o s l)).soon (xs := (nextS s l).soon) (fun e he => by show e ∈ (nextS s l).o.q.turn; rw [nextS_o]; exact h.sn e (nextS_soon s l e he))
  rw [nextS_same]
  exact h1
theorem Pl.OkB.push {f : Sf} {d : Int} {s : Pl} (h : s.OkB f d) : (pushN s).OkB f d := by
  unfold pushN
  split
  · exact h
  · rename_i n hn
    refine h.past fun e he => ?_
    rcases List.mem_append.mp he with q | q
    · exact h.ps e q
    · rw [List.mem_singleton.mp q]
      exact (h.nw n hn).1
/-- an entry begins; d gives way to 0 -/
theorem Pl.OkB.begin {f : Sf} {d : Int} {s : Pl} (h : s.OkB f d) {x : Int} (hx : s.o.has x) (j : Bool) : (beginP f s (some x) j).Ok f := by
  have hq : (beganO s.o x).q = s.o.q := rfl
  have hk := h.tn.kn hx
  refine ⟨h.o.began x, h.ov, h.tn, ?_, (fun z => nomatch z), ?_, h.sn, h.ps, h.sl⟩
  · intro n hn
    cases hn
    exact ⟨hx, Int.le_refl 0, by show (0 : Int) < longO f s.o x + 0; have := hk.lo; omega⟩
  · intro e p l he
    have he : oldJ f s j = some (e, p, l) := he
    unfold oldJ at he
    split at he
    · cases hn : s.now with
      | none => rw [hn] at he; cases he
      | some n =>
        rw [hn] at he
        cases he
        exact (h.nw e hn).1
    · cases he
theorem Pl.OkB.plays {f : Sf} {d : Int} {s : Pl} (h : s.OkB f d) {b c : Bool} (hb : s.now = none → b = false) : ({ s with plays := b, stops := c } : Pl).OkB f d := ⟨h.o, h.ov, h.tn, h.nw, (fun z => ⟨(h.n0 z).1, hb z⟩), h.od, h.sn, h.ps, h.sl⟩
theorem Pl.OkB.plays1 {f : Sf} {d : Int} {s : Pl} (h : s.OkB f d) {b : Bool} (hb : s.now = none → b = false) : ({ s with plays := b } : Pl).OkB f d := ⟨h.o, h.ov, h.tn, h.nw, (fun z => ⟨(h.n0 z).1, hb z⟩), h.od, h.sn, h.ps, h.sl⟩
/-- nothing is now -/
theorem Pl.OkB.rest {f : Sf} {d : Int} {s : Pl} (h : s.OkB f d) (c : Bool) : ({ beginP f s none false with plays := false, stops := c } : Pl).Ok f :=
  ⟨h.o, h.ov, h.tn, (fun n z => nomatch z), (fun _ => ⟨rfl, rfl⟩), (fun e p l z => nomatch z), h.sn, h.ps, h.sl⟩
theorem Pl.Ok.play {f : Sf} {s : Pl} (h : s.Ok f) {e : Int} (he : e ∈ s.o.q.turn) : (playP f s e).Ok f := by
  have h1 : (pushN s).o = s.o := by unfold pushN; split <;> rfl
  exact (h.push.begin (x := e) (by rw [h1]; exact h.o.has he) false).plays1 fun z => nomatch z
theorem Pl.Ok.resume {f : Sf} {s : Pl} (h : s.Ok f) : (resumeP f s).Ok f := by
  unfold resumeP
  split
  · rename_i n hn
    exact h.plays1 fun z => by rw [hn] at z; cases z
  · split
    · rename_i x r e
      have h2 := h.soon (xs := r) fun y hy => h.sn y (by rw [e]; exact List.mem_cons_of_mem _ hy)
      exact (h2.begin (x := x) (h.o.has (h.sn x (by rw [e]; exact List.mem_cons_self))) false).plays1 fun z => nomatch z
    · have h2 := h.order h.o.first (firstS_q s.o)
      split
      · exact h2.plays1 fun _ => rfl
      · rename_i x hx
        exact (h2.begin (x := x) (has_q (firstS_q s.o) (h.o.has (firstV_mem h.o hx))) false).plays1 fun z => nomatch z
theorem Pl.Ok.skip {f : Sf} {s : Pl} (h : s.Ok f) : (skipP f s).Ok f := by
  unfold skipP
  have h1 := (Pl.OkB.next h true).push
  have eo : (pushN (nextS s true)).o = (nextS s true).o := by unfold pushN; split <;> rfl
  cases hv : nextV s true with
  | none =>
    have e : ({ beginP f (pushN (nextS s true)) none false with plays := s.plays && (none : Option Int).isSome } : Pl) = { beginP f (pushN (nextS s true)) none false with plays := false, stops := (beginP f (pushN (nextS s true)) none false).stops } := by
      simp
    rw [e]
    exact h1.rest _
  | some x =>
    have hx := h.o.has (nextV_mem h.o h.sn hv)
    exact (h1.begin (x := x) (by rw [eo]; exact has_q (nextS_o s true) hx) false).plays1 fun z => nomatch z
theorem dropT_mem {turn past : List Int} {e : Int} (h : e ∈ dropT turn past) : e ∈ past := by
  unfold dropT at h
  rw [List.mem_reverse] at h
  exact List.mem_reverse.mp ((List.dropWhile_sublist _).subset h)
theorem dropT_last {turn past : List Int} {y : Int} (h : (dropT turn past).getLast? = some y) : y ∈ turn := by
  unfold dropT at h
  rw [List.getLast?_reverse] at h
  have h2 := List.head?_dropWhile_not (fun x => decide (x ∉ turn)) past.reverse
  rw [h] at h2
  simpa using h2
theorem Pl.OkB.againP {f : Sf} {s : Pl} (h : s.Ok f) : (againP f s).Ok f := by
  unfold TR.againP
  split
  · exact h
  · rename_i n hn
    exact Pl.OkB.begin h (h.nw n hn).1 false
theorem Pl.Ok.back {f : Sf} {s : Pl} (h : s.Ok f) : (backP f s).Ok f := by
  have h1 := Pl.OkB.past h (xs := dropT s.o.q.turn s.past) fun e he => h.ps e (dropT_mem he)
  unfold backP
  split
  · exact h1.againP
  · rename_i y hy
    split
    · exact h1.againP
    · have h2 := Pl.OkB.past h (xs := (dropT s.o.q.turn s.past).dropLast) fun e he => h.ps e (dropT_mem (List.dropLast_subset _ he))
      have h3 := h2.soon (xs := backSoon s) fun e he => by
        unfold backSoon at he
        split at he
        · exact h.sn e he
        · split at he
          · rcases List.mem_cons.mp he with rfl | he
            · assumption
            · exact h.sn e he
          · exact h.sn e he
      exact h3.begin (x := y) (h.o.has (dropT_last hy)) false
theorem Pl.Ok.seek {f : Sf} {s : Pl} (h : s.Ok f) {n x : Int} (hn : s.now = some n) (h0 : 0 ≤ x) (h1 : x < longO f s.o n) : (seekP s x).Ok f :=
  ⟨h.o, h.ov, h.tn, (fun m hm => by have hm : s.now = some m := hm; rw [hn] at hm; cases hm; exact ⟨(h.nw n hn).1, h0, by show x < longO f s.o n + 0; omega⟩), (fun z => by have z : s.now = none := z; rw [hn] at z; cases z), (fun e p l z => nomatch z), h.sn, h.ps, h.sl⟩
theorem Pl.Ok.sleep {f : Sf} {s : Pl} (h : s.Ok f) {m : Option Int} (hm : ∀ k, m = some k → 1 ≤ k) : ({ s with sleep := m } : Pl).Ok f := ⟨h.o, h.ov, h.tn, h.nw, h.n0, h.od, h.sn, h.ps, hm⟩
theorem Pl.OkB.sleepP {f : Sf} {s : Pl} (h : s.Ok f) : (sleepP s).Ok f := by
  unfold TR.sleepP
  split
  · exact h
  · rename_i k hk
    split
    · have h1 : ({ s with sleep := none } : Pl).Ok f := Pl.Ok.sleep h fun _ z => nomatch z
      exact Pl.OkB.plays1 h1 fun _ => rfl
    · refine Pl.Ok.sleep h fun j hj => ?_
      cases hj
      have := h.sl k hk
      omega
theorem mn2_le (i j : Int) : mn2 i j ≤ i ∧ mn2 i j ≤ j := by unfold mn2; split <;> omega
theorem mn2_ge {i j m : Int} (h1 : m ≤ i) (h2 : m ≤ j) : m ≤ mn2 i j := by unfold mn2; split <;> omega
theorem joinL_nn {f : Sf} {s : Pl} {n x : Int} (ho : 0 ≤ s.ov) (h1 : 1 ≤ longO f s.o n) (h2 : 1 ≤ longO f s.o x) : 0 ≤ joinL f s n x := mn2_ge (mn2_ge ho (by omega)) (by omega)
theorem Pl.OkB.turn {f : Sf} {s : Pl} (h : s.OkB f 1) : (turnP f s).Ok f := by
  unfold turnP
  split
  · rename_i hn
    exact ⟨h.o, h.ov, h.tn, (fun n z => by rw [hn] at z; cases z), h.n0, h.od, h.sn, h.ps, h.sl⟩
  · rename_i n hn
    have hk := h.tn.kn (h.nw n hn).1
    have lt : s.spot < longO f s.o n → s.Ok f := fun hlt => ⟨h.o, h.ov, h.tn, (fun m hm => by rw [hn] at hm; cases hm; exact ⟨(h.nw n hn).1, (h.nw n hn).2.1, by omega⟩), h.n0, h.od, h.sn, h.ps, h.sl⟩
    have hp : ∀ e ∈ s.past ++ [n], s.o.has e := fun e he => by
      rcases List.mem_append.mp he with q | q
      · exact h.ps e q
      · rw [List.mem_singleton.mp q]
        exact hk.has
    split
    · rename_i x hx
      have hxm : x ∈ s.o.q.turn := by
        unfold foundP at hx
        split at hx
        · cases hx
        · exact nextV_mem h.o h.sn hx
      have hkx := h.tn.kn (h.o.has hxm)
      split
      · unfold goOn
        have h2 := (h.next false).past (xs := s.past ++ [n]) fun e he => has_q (nextS_o s false) (hp e he)
        exact h2.begin (x := x) (has_q (nextS_o s false) hkx.has) _
      · rename_i hle
        have := joinL_nn (f := f) (s := s) (n := n) (x := x) h.ov.1 hk.lo hkx.lo
        exact lt (by omega)
    · split
      · exact (h.past hp).rest false
      · exact lt (by omega)
theorem Pl.Ok.pre {f : Sf} {s : Pl} (h : s.Ok f) (hp : s.now ≠ none) : (preP f s).OkB f 1 := by
  refine ⟨h.o, h.ov, h.tn, ?_, (fun z => absurd z hp), ?_, h.sn, h.ps, h.sl⟩
  · intro n hn
    obtain ⟨a, b, c⟩ := h.nw n hn
    exact ⟨a, by show 0 ≤ s.spot + 1; omega, by show s.spot + 1 < longO f s.o n + 1; omega⟩
  · intro e p l he
    have he : oldP f s = some (e, p, l) := he
    unfold oldP at he
    split at he
    · cases he
    · rename_i e2 p2 l2 h2
      split at he
      · cases he
        exact h.od _ _ _ h2
      · cases he
theorem Pl.Ok.now_of {f : Sf} {s : Pl} (h : s.Ok f) (hp : s.plays = true) : ∃ n, s.now = some n := by
  cases hn : s.now with
  | none => have := (h.n0 hn).2; rw [hp] at this; cases this
  | some n => exact ⟨n, rfl⟩
theorem Pl.Ok.step {f : Sf} {s : Pl} (h : s.Ok f) (hp : s.plays = true) : (stepP f s).Ok f := by
  obtain ⟨n, hn⟩ := h.now_of hp
  exact (Pl.Ok.pre h (by rw [hn]; exact fun z => nomatch z)).turn.sleepP
theorem Pl.Ok.tick1 {f : Sf} {s : Pl} (h : s.Ok f) : (tick1 f s).Ok f := by
  unfold TR.tick1
  split
  · rename_i hp; exact h.step hp
  · exact h
theorem Pl.Ok.tick {f : Sf} : ∀ (n : Nat) {s : Pl}, s.Ok f → (tickP f n s).Ok f
  | 0, _, h => h
  | n + 1, _, h => Pl.Ok.tick n h.tick1
theorem Pl.Ok.wake {f : Sf} {s : Pl} (h : s.Ok f) : (wakeP s).Ok f :=
  ⟨h.o, h.ov, h.tn, h.nw, (fun z => ⟨(h.n0 z).1, by show s.now.isSome = false; rw [show s.now = none from z]; rfl⟩), h.od, h.sn, h.ps, (fun _ z => nomatch z)⟩
theorem ok_pl0 {f : Sf} {ov n : Int} (h1 : 0 ≤ ov ∧ ov ≤ 9) (h2 : 0 ≤ n ∧ n < 6075) : (pl0 ov n).Ok f :=
  ⟨ok0 h2, h1, (fun x hx => nomatch hx), (fun _ z => nomatch z), (fun _ => ⟨rfl, rfl⟩), (fun _ _ _ z => nomatch z), (fun _ z => nomatch z), (fun _ z => nomatch z), (fun _ z => nomatch z)⟩
theorem putO_q (o : Or) (x : Str) (p : Int) : (putO o x p).q = o.q.put x p := by unfold putO; split <;> rfl
theorem tune_put {q : Qu} {x : Str} {p e : Int} (h1 : 1 ≤ e) (h2 : e ≤ q.tunes.length) : (q.put x p).tune e = q.tune e := by
  unfold Qu.tune Qu.put
  simp only
  rw [List.getD_eq_getElem?_getD, List.getD_eq_getElem?_getD, List.getElem?_append_left (by omega)]
theorem has_put {o : Or} {x : Str} {p e : Int} (h : o.has e) : (putO o x p).has e := by
  unfold Or.has
  rw [putO_q]
  unfold Qu.put
  simp only [List.length_append, List.length_singleton]
  exact ⟨h.1, by have := h.2; push_cast; omega⟩
theorem Pl.Ok.add {f : Sf} {s : Pl} (h : s.Ok f) {x : Str} {p : Int} (hx : ∃ n, f.lookup x = some n ∧ 1 ≤ n ∧ n ≤ 40) (h2 : s.o.q.turn.length ≠ 12) (h3 : s.o.q.tunes.length < 1000) : (addP s x p).Ok f := by
  refine ⟨h.o.put x h2 h3, h.ov, ?_, ?_, h.n0, (fun e a l z => has_put (h.od e a l z)), ?_, (fun e he => has_put (h.ps e he)), h.sl⟩
  · intro y hy
    have hy : y ∈ (putO s.o x p).q.tunes := hy
    rw [putO_q] at hy
    rcases List.mem_append.mp hy with q | q
    · exact h.tn y q
    · rw [List.mem_singleton.mp q]; exact hx
  · intro n hn
    obtain ⟨a, b, c⟩ := h.nw n hn
    refine ⟨has_put a, b, ?_⟩
    show s.spot < longO f (putO s.o x p) n + 0
    unfold longO
    rw [putO_q, tune_put a.1 a.2]
    exact c
  · intro e he
    show e ∈ (putO s.o x p).q.turn
    rw [putO_q]
    exact mem_insP.mpr (.inr (h.sn e he))
theorem Pl.Ok.remove {f : Sf} {s : Pl} (h : s.Ok f) {e : Int} (he : e ∈ s.o.q.turn) : (removeP s e).Ok f := by
  refine ⟨h.o.rem he _, h.ov, h.tn, h.nw, h.n0, h.od, ?_, h.ps, h.sl⟩
  intro x hx
  have hx := List.mem_filter.mp hx
  have hne : x ≠ e := fun z => by
    have := hx.2
    rw [z] at this
    simp at this
  exact (List.Nodup.mem_erase_iff h.o.q.nd).mpr ⟨hne, h.sn x hx.1⟩
theorem Pl.Ok.move {f : Sf} {s : Pl} (h : s.Ok f) {e p : Int} (he : e ∈ s.o.q.turn) : (moveP s e p).Ok f := by
  refine ⟨h.o.mov he, h.ov, h.tn, h.nw, h.n0, h.od, ?_, h.ps, h.sl⟩
  intro x hx
  by_cases z : x = e
  · exact mem_insP.mpr (.inl z)
  · exact mem_insP.mpr (.inr ((List.Nodup.mem_erase_iff h.o.q.nd).mpr ⟨z, h.sn x hx⟩))
theorem Pl.Ok.playSoon {f : Sf} {s : Pl} (h : s.Ok f) {e : Int} (he : e ∈ s.o.q.turn) : (soonP s e).Ok f := Pl.OkB.soon h fun x hx => by
  rcases List.mem_append.mp hx with q | q
  · exact h.sn x q
  · rw [List.mem_singleton.mp q]; exact he
theorem Pl.Ok.again {f : Sf} {s : Pl} (h : s.Ok f) (x : Str) : (againS s x).Ok f := Pl.OkB.order h (o := { s.o with again := x }) ⟨h.o.q, h.o.num, h.o.nd, h.o.sub, h.o.bh⟩ rfl
theorem setM_q (o : Or) (b : Bool) (e : Option Int) : (setM o b e).q = o.q := by
  unfold setM
  split
  · split <;> rfl
  · rfl
theorem Pl.Ok.mixed {f : Sf} {s : Pl} (h : s.Ok f) (b : Bool) : (mixedP s b).Ok f := Pl.OkB.order h (h.o.setM b s.now) (setM_q s.o b s.now)
theorem Pl.Ok.stop {f : Sf} {s : Pl} (h : s.Ok f) (b : Bool) : ({ s with stops := b } : Pl).Ok f := ⟨h.o, h.ov, h.tn, h.nw, h.n0, h.od, h.sn, h.ps, h.sl⟩
theorem Pl.Ok.pause {f : Sf} {s : Pl} (h : s.Ok f) : ({ s with plays := false } : Pl).Ok f := Pl.OkB.plays1 h fun _ => rfl
end TR

namespace TR
open PySem L2
/-! ### twins -/
@[irreducible] def sp_Dice_twin (A : Ads) : Sp := fun vs H Q _ => ∃ (p dx : Addr) (n : Int) (R : List Ent), vs = [.ref p] ∧ W H H ((p, .ins A.c_Dice dx (fl_Dice (.int n))) :: R) ∧ (0 ≤ n ∧ n < 6075) ∧
  ∀ H' p' dx', W H H' ((p', .ins A.c_Dice dx' (fl_Dice (.int n))) :: (p, .ins A.c_Dice dx (fl_Dice (.int n))) :: R) → Q (.ref p') H'
theorem of_Dice_twin {A : Ads} {vs : List V} {H : Hp} {Q : VK} {E : XK} (h :  ∃ (p dx : Addr) (n : Int) (R : List Ent), vs = [.ref p] ∧ W H H ((p, .ins A.c_Dice dx (fl_Dice (.int n))) :: R) ∧ (0 ≤ n ∧ n < 6075) ∧
  ∀ H' p' dx', W H H' ((p', .ins A.c_Dice dx' (fl_Dice (.int n))) :: (p, .ins A.c_Dice dx (fl_Dice (.int n))) :: R) → Q (.ref p') H') : sp_Dice_twin A vs H Q E := by unfold sp_Dice_twin; exact h
@[irreducible] def sp_Queue_twin (A : Ads) : Sp := fun vs H Q _ => ∃ (a : QA) (s : Qu) (R : List Ent), vs = [.ref a.q] ∧ W H H (qL A a s ++ R) ∧ ∀ H' a', W H H' (qL A a' s ++ (qL A a s ++ R)) → Q (.ref a'.q) H'
theorem of_Queue_twin {A : Ads} {vs : List V} {H : Hp} {Q : VK} {E : XK} (h :  ∃ (a : QA) (s : Qu) (R : List Ent), vs = [.ref a.q] ∧ W H H (qL A a s ++ R) ∧ ∀ H' a', W H H' (qL A a' s ++ (qL A a s ++ R)) → Q (.ref a'.q) H') : sp_Queue_twin A vs H Q E := by unfold sp_Queue_twin; exact h
@[irreducible] def sp_Order_twin (A : Ads) : Sp := fun vs H Q _ => ∃ (a : OA) (s : Or) (R : List Ent), vs = [.ref a.o] ∧ W H H (orL A a s ++ R) ∧ s.Ok ∧ ∀ H' a', W H H' (orL A a' s ++ (orL A a s ++ R)) → Q (.ref a'.o) H'
theorem of_Order_twin {A : Ads} {vs : List V} {H : Hp} {Q : VK} {E : XK} (h :  ∃ (a : OA) (s : Or) (R : List Ent), vs = [.ref a.o] ∧ W H H (orL A a s ++ R) ∧ s.Ok ∧ ∀ H' a', W H H' (orL A a' s ++ (orL A a s ++ R)) → Q (.ref a'.o) H') : sp_Order_twin A vs H Q E := by unfold sp_Order_twin; exact h
section
variable {P : Program} {w : World} {K : PySem.W.Frag} {mg : Str → Option Value} {base : Heap} {A : Ads}
theorem ok_Dice_twin (T : Txt K mg A) : FnOk P w K mg base (L2.CX P w) 3 A.f_Dice_twin A.d_Dice_twin P_Dice_twin (sp_Dice_twin A) := by
  refine T.F_Dice_twin.okX sc_Dice_twin (fun vs H Q E h => ?_) (fun cdv Ar outer s H vs Q E hr h => ?_)
  · unfold sp_Dice_twin at h; obtain ⟨p, dx, n, R, rfl, _⟩ := h; rfl
  · unfold sp_Dice_twin at h; obtain ⟨p, dx, n, R, rfl, w, hn, k⟩ := h
    refine ⟨_, (pss_one (ps_ret (my_make T.M_Dice (ok_Dice_init__ T) (hr.mono (by decide)) (by rfl) T.g_Dice T.b_Dice_init__ passE (pa_cons (pe_fld (pv 0) rfl) pa_nil)))), ?_⟩
    walk_at "rd"
    refine st_make w fun p' dx' H1 w1 => ?_
    refine of_Dice_init ⟨p', dx', n, _, rfl, w1.now, fun _ H2 w2 => ⟨rfl, k H2 p' dx' (w1.tr w2)⟩, fun z => absurd hn z⟩
theorem ok_Queue_twin (T : Txt K mg A) : FnOk P w K mg base (L2.CX P w) 3 A.f_Queue_twin A.d_Queue_twin P_Queue_twin (sp_Queue_twin A) := by
  refine T.F_Queue_twin.okX sc_Queue_twin (fun vs H Q E h => ?_) (fun cdv Ar outer s H vs Q E hr h => ?_)
  · unfold sp_Queue_twin at h; obtain ⟨a, s, R, rfl, _⟩ := h; rfl
  · unfold sp_Queue_twin at h; obtain ⟨a, s, R, rfl, w, k⟩ := h
    refine ⟨_, (pss_cons (ps_set (i := 1) sc_Queue_twin.nd rfl (by first | exact Or.inl rfl | exact Or.inr rfl) (my_make0 T.M_Queue (ok_Queue_init__ T) (hr.mono (by decide)) (by rfl) T.g_Queue T.b_Queue_init__ passE))
      (pss_cons (my_fld (pv 1) (my_dcopy (pe_fld (pv 0) rfl)))
      (pss_cons (my_fld (pv 1) (pe_callTy my_listOf (by rfl) T.z_list (by decide +kernel) (pa_cons (pe_fld (pv 0) rfl) pa_nil)))
      (pss_cons (my_fld (pv 1) (pe_fld (pv 0) rfl))
      (pss_one (ps_ret (pv 1))))))), ?_⟩
    walk_at "rd"
    refine st_make w fun q qx H1 w1 => ?_
    refine of_Queue_init ⟨q, qx, _, rfl, w1.now, fun H2 d t w2 => ?_⟩
    have w3 := w1.tr w2
    clear w1 w2 w
    walk_at "rd"
    refine st_dcopy w3 4 rfl fun d' H3 w4 => ?_
    walk_at "rd"
    refine sf_Queue_tunes T w4 1 rfl fun H4 w5 => ?_
    walk_at "rd"
    refine st_new w5 fun t' H5 w6 => ?_
    walk_at "rd"
    refine sf_Queue_turn T w6 2 rfl fun H6 w7 => ?_
    walk_at "rd"
    refine sf_Queue_last T w7 2 rfl fun H7 w8 => ?_
    walk_at "rd"
    exact k H7 ⟨q, qx, d', t'⟩ (w8.pick 5 [2, 1, 0])
theorem ok_Order_twin (T : Txt K mg A) : FnOk P w K mg base (L2.CX P w) 5 A.f_Order_twin A.d_Order_twin P_Order_twin (sp_Order_twin A) := by
  refine T.F_Order_twin.okX sc_Order_twin (fun vs H Q E h => ?_) (fun cdv Ar outer s H vs Q E hr h => ?_)
  · unfold sp_Order_twin at h; obtain ⟨a, s, R, rfl, _⟩ := h; rfl
  · unfold sp_Order_twin at h; obtain ⟨a, s, R, rfl, w, ok, k⟩ := h
    refine ⟨_, (pss_cons (ps_set (i := 1) sc_Order_twin.nd rfl (by first | exact Or.inl rfl | exact Or.inr rfl) (my_make T.M_Order (ok_Order_init__ T) (hr.mono (by decide)) (by rfl) T.g_Order T.b_Order_init__ passE (pa_cons pe_int pa_nil)))
      (pss_cons (my_fld (pv 1) (my_meth0 (pe_fld (pv 0) rfl) T.c_Queue T.m_Queue_twin (ok_Queue_twin T) (hr.mono (by decide)) T.b_Queue_twin passE))
      (pss_cons (my_fld (pv 1) (my_meth0 (pe_fld (pv 0) rfl) T.c_Dice T.m_Dice_twin (ok_Dice_twin T) (hr.mono (by decide)) T.b_Dice_twin passE))
      (pss_cons (my_fld (pv 1) (pe_fld (pv 0) rfl))
      (pss_cons (my_fld (pv 1) (pe_fld (pv 0) rfl))
      (pss_cons (my_fld (pv 1) (pe_callTy my_listOf (by rfl) T.z_list (by decide +kernel) (pa_cons (pe_fld (pv 0) rfl) pa_nil)))
      (pss_cons (my_fld (pv 1) (pe_fld (pv 0) rfl))
      (pss_cons (my_fld (pv 1) (pe_fld (pv 0) rfl))
      (pss_one (ps_ret (pv 1))))))))))), ?_⟩
    walk_at "rd"
    refine st_make w fun o dx H1 w1 => ?_
    refine of_Order_init ⟨o, dx, 0, _, rfl, w1.now, fun _ H2 b eo w2 => ?_, fun z => absurd ⟨by decide, by decide⟩ z⟩
    subst eo
    have w3 : W H H2 (orL A b (order0 0) ++ (orL A a s ++ R)) := w1.tr w2
    clear w1 w2 w
    walk_at "rd"
    refine st_call (of_Queue_twin ⟨a.q, s.q, _, rfl, (w3.rot 7 3).now, fun H3 q' w4 => ?_⟩)
    have w5 := w3.tr w4
    clear w4 w3
    walk_at "rd"
    refine sf_Order_queue T w5 6 rfl fun H4 w6 => ?_
    walk_at "rd"
    refine st_call (of_Dice_twin ⟨a.dc, a.ddx, s.num, _, rfl, (w6.rot 13 1).now, ok.num, fun H5 p' dx' w7 => ?_⟩)
    have w8 := w6.tr w7
    clear w7 w6 w5
    walk_at "rd"
    refine sf_Order_dice T w8 8 rfl fun H6 w9 => ?_
    walk_at "rd"
    refine sf_Order_is_mixed T w9 8 rfl fun H7 w10 => ?_
    walk_at "rd"
    refine sf_Order_again T w10 8 rfl fun H8 w11 => ?_
    walk_at "rd"
    refine st_new w11 fun k' H9 w12 => ?_
    walk_at "rd"
    refine sf_Order_deck T w12 9 rfl fun H10 w13 => ?_
    walk_at "rd"
    refine sf_Order_is_gone T w13 9 rfl fun H11 w14 => ?_
    walk_at "rd"
    refine sf_Order_behind T w14 9 rfl fun H12 w15 => ?_
    walk_at "rd"
    exact k H12 ⟨b.o, b.dx, q', p', dx', k'⟩ (w15.pick 17 [9, 3, 4, 5, 1, 0, 15, 6, 7, 8, 2, 16])
end
end TR

namespace TR
open PySem L2
/-! ### players: the walk -/
def OldAt (H : Hp) (v : V) : Option (Int × Int × Int) → Prop
  | none => v = .non
  | some (e, p, l) => ∃ q, v = .ref q ∧ H q = some (.tup [.int e, .int p, .int l])
def RowAt (H : Hp) (v : V) (r : Int × Int) : Prop := ∃ q, v = .ref q ∧ H q = some (.tup [.int r.1, .int r.2])
def RowsAt (H : Hp) : List V → List (Int × Int) → Prop
  | [], [] => True
  | v :: vs, r :: rs => RowAt H v r ∧ RowsAt H vs rs
  | _, _ => False
abbrev Tps (H H' : Hp) : Prop := ∀ a xs, H a = some (.tup xs) → H' a = some (.tup xs)
theorem OldAt.mono {H H' : Hp} (t : Tps H H') {v : V} {o : Option (Int × Int × Int)} (h : OldAt H v o) : OldAt H' v o := by
  match o, h with
  | none, h => exact h
  | some (e, p, l), ⟨q, e1, e2⟩ => exact ⟨q, e1, t _ _ e2⟩
theorem RowAt.mono {H H' : Hp} (t : Tps H H') {v : V} {r : Int × Int} (h : RowAt H v r) : RowAt H' v r := let ⟨q, a, b⟩ := h; ⟨q, a, t _ _ b⟩
theorem RowsAt.mono {H H' : Hp} (t : Tps H H') : ∀ {vs : List V} {rs : List (Int × Int)}, RowsAt H vs rs → RowsAt H' vs rs
  | [], [], _ => True.intro
  | v :: vs, r :: rs, ⟨a, b⟩ => ⟨a.mono t, RowsAt.mono t b⟩
  | [], _ :: _, h => h.elim
  | _ :: _, [], h => h.elim
theorem RowsAt.len {H : Hp} : ∀ {vs : List V} {rs : List (Int × Int)}, RowsAt H vs rs → vs.length = rs.length
  | [], [], _ => rfl
  | v :: vs, r :: rs, ⟨a, b⟩ => by rw [List.length_cons, List.length_cons, RowsAt.len b]
  | [], _ :: _, h => h.elim
  | _ :: _, [], h => h.elim
theorem RowsAt.snoc {H : Hp} : ∀ {vs : List V} {rs : List (Int × Int)} {v : V} {r : Int × Int}, RowsAt H vs rs → RowAt H v r → RowsAt H (vs ++ [v]) (rs ++ [r])
  | [], [], _, _, _, h => ⟨h, True.intro⟩
  | v :: vs, r :: rs, _, _, ⟨a, b⟩, h => ⟨a, RowsAt.snoc b h⟩
  | [], _ :: _, _, _, h, _ => h.elim
  | _ :: _, [], _, _, h, _ => h.elim
theorem RowsAt.drop {H : Hp} : ∀ (n : Nat) {vs : List V} {rs : List (Int × Int)}, RowsAt H vs rs → RowsAt H (vs.drop n) (rs.drop n)
  | 0, _, _, h => h
  | n + 1, [], [], h => h
  | n + 1, v :: vs, r :: rs, ⟨_, b⟩ => RowsAt.drop n b
  | n + 1, [], _ :: _, h => h.elim
  | n + 1, _ :: _, [], h => h.elim
theorem RowsAt.get {H : Hp} : ∀ {vs : List V} {rs : List (Int × Int)} (i : Nat) {v : V}, RowsAt H vs rs → vs[i]? = some v → ∃ r, rs[i]? = some r ∧ RowAt H v r
  | v :: vs, r :: rs, 0, _, ⟨a, _⟩, e => by cases e; exact ⟨r, rfl, a⟩
  | v :: vs, r :: rs, i + 1, _, ⟨_, b⟩, e => RowsAt.get i b e
  | [], [], _, _, _, e => by simp at e
  | [], _ :: _, _, _, h, _ => h.elim
  | _ :: _, [], _, _, h, _ => h.elim
structure PA where
  p : Addr
  dx : Addr
  so : Addr
  pa : Addr
  ro : Addr
  o : OA
def plL (A : Ads) (a : PA) (sh : V) (s : Pl) (ov : V) (rs : List V) : List Ent :=
  (a.p, .ins A.c_Player a.dx (fl_Player sh (.int s.ov) (.ref a.o.o) (.int s.time) (oV s.now) (.int s.spot) ov (.ref a.so) (.ref a.pa) (.ref a.ro) (.bl s.plays) (.bl s.stops) (oV s.sleep))) ::
  (a.so, .lst (s.soon.map V.int)) :: (a.pa, .lst (s.past.map V.int)) :: (a.ro, .lst rs) :: orL A a.o s.o
structure PlF (H : Hp) (s : Pl) (ov : V) (rs : List V) : Prop where
  old : OldAt H ov s.old
  rows : RowsAt H rs s.rows
theorem PlF.mono {H H' : Hp} (t : Tps H H') {s : Pl} {ov : V} {rs : List V} (h : PlF H s ov rs) : PlF H' s ov rs := ⟨h.old.mono t, h.rows.mono t⟩
/-- a player stands, and R -/
def PlW (A : Ads) (H0 H : Hp) (a : PA) (sh : V) (s : Pl) (R : List Ent) : Prop := ∃ ov rs, W H0 H (plL A a sh s ov rs ++ R) ∧ PlF H s ov rs
theorem PlW.tr {A : Ads} {H0 H H' : Hp} {a : PA} {sh : V} {s : Pl} {L R : List Ent} (w : W H0 H L) (h : PlW A H H' a sh s R) : PlW A H0 H' a sh s R := let ⟨ov, rs, v, f⟩ := h; ⟨ov, rs, w.tr v, f⟩
@[irreducible] def sp_Player_init (A : Ads) : Sp := fun vs H Q E => ∃ (p dx : Addr) (sh : V) (ov n : Int) (R : List Ent), vs = [.ref p, sh, .int ov, .int n] ∧ W H H ((p, .ins A.c_Player dx []) :: R) ∧
  ((0 ≤ ov ∧ ov ≤ 9) ∧ (0 ≤ n ∧ n < 6075) → ∀ H' a, a.p = p → W H H' (plL A a sh (pl0 ov n) .non [] ++ R) → Q .non H') ∧ (¬ ((0 ≤ ov ∧ ov ≤ 9) ∧ (0 ≤ n ∧ n < 6075)) → ∀ H', W H H' R → E (.ref A.c_BadNumber) none H')
theorem of_Player_init {A : Ads} {vs : List V} {H : Hp} {Q : VK} {E : XK} (h :  ∃ (p dx : Addr) (sh : V) (ov n : Int) (R : List Ent), vs = [.ref p, sh, .int ov, .int n] ∧ W H H ((p, .ins A.c_Player dx []) :: R) ∧
  ((0 ≤ ov ∧ ov ≤ 9) ∧ (0 ≤ n ∧ n < 6075) → ∀ H' a, a.p = p → W H H' (plL A a sh (pl0 ov n) .non [] ++ R) → Q .non H') ∧ (¬ ((0 ≤ ov ∧ ov ≤ 9) ∧ (0 ≤ n ∧ n < 6075)) → ∀ H', W H H' R → E (.ref A.c_BadNumber) none H')) : sp_Player_init A vs H Q E := by unfold sp_Player_init; exact h
@[irreducible] def sp_Player_long (A : Ads) : Sp := fun vs H Q _ => ∃ (a : PA) (b : SA) (f : Sf) (s : Pl) (ov : V) (rs : List V) (e : Int) (R : List Ent), vs = [.ref a.p, .int e] ∧ W H H (plL A a (.ref b.q) s ov rs ++ (sL A b f ++ R)) ∧ Kn f s.o e ∧ Q (.int (longO f s.o e)) H
theorem of_Player_long {A : Ads} {vs : List V} {H : Hp} {Q : VK} {E : XK} (h :  ∃ (a : PA) (b : SA) (f : Sf) (s : Pl) (ov : V) (rs : List V) (e : Int) (R : List Ent), vs = [.ref a.p, .int e] ∧ W H H (plL A a (.ref b.q) s ov rs ++ (sL A b f ++ R)) ∧ Kn f s.o e ∧ Q (.int (longO f s.o e)) H) : sp_Player_long A vs H Q E := by unfold sp_Player_long; exact h
@[irreducible] def sp_Player_add (A : Ads) : Sp := fun vs H Q E => ∃ (a : PA) (b : SA) (f : Sf) (s : Pl) (ov : V) (rs : List V) (x : Str) (p : Int) (R : List Ent), vs = [.ref a.p, .str x, .int p] ∧ W H H (plL A a (.ref b.q) s ov rs ++ (sL A b f ++ R)) ∧ s.o.Ok ∧ s.o.q.tunes.length < 1000 ∧
  (f.lookup x ≠ none → 0 ≤ p ∧ p ≤ s.o.q.turn.length ∧ s.o.q.turn.length ≠ 12 → ∀ H', W H H' (plL A a (.ref b.q) (addP s x p) ov rs ++ (sL A b f ++ R)) → Q (.int ((s.o.q.tunes.length : Int) + 1)) H') ∧
  (f.lookup x = none → E (.ref A.c_BadTune) none H) ∧ (f.lookup x ≠ none → ¬ (0 ≤ p ∧ p ≤ s.o.q.turn.length ∧ s.o.q.turn.length ≠ 12) → E (.ref A.c_BadNumber) none H)
theorem of_Player_add {A : Ads} {vs : List V} {H : Hp} {Q : VK} {E : XK} (h :  ∃ (a : PA) (b : SA) (f : Sf) (s : Pl) (ov : V) (rs : List V) (x : Str) (p : Int) (R : List Ent), vs = [.ref a.p, .str x, .int p] ∧ W H H (plL A a (.ref b.q) s ov rs ++ (sL A b f ++ R)) ∧ s.o.Ok ∧ s.o.q.tunes.length < 1000 ∧
  (f.lookup x ≠ none → 0 ≤ p ∧ p ≤ s.o.q.turn.length ∧ s.o.q.turn.length ≠ 12 → ∀ H', W H H' (plL A a (.ref b.q) (addP s x p) ov rs ++ (sL A b f ++ R)) → Q (.int ((s.o.q.tunes.length : Int) + 1)) H') ∧
  (f.lookup x = none → E (.ref A.c_BadTune) none H) ∧ (f.lookup x ≠ none → ¬ (0 ≤ p ∧ p ≤ s.o.q.turn.length ∧ s.o.q.turn.length ≠ 12) → E (.ref A.c_BadNumber) none H)) : sp_Player_add A vs H Q E := by unfold sp_Player_add; exact h
@[irreducible] def sp_Player_remove (A : Ads) : Sp := fun vs H Q E => ∃ (a : PA) (sh : V) (s : Pl) (ov : V) (rs : List V) (e : Int) (R : List Ent), vs = [.ref a.p, .int e] ∧ W H H (plL A a sh s ov rs ++ R) ∧ s.o.Ok ∧ s.soon.length ≤ 50000 ∧
  (e ∈ s.o.q.turn → ∀ H' so', W H H' (plL A { a with so := so' } sh (removeP s e) ov rs ++ R) → Q .non H') ∧ (e ∉ s.o.q.turn → ∀ H', W H H' (plL A a sh s ov rs ++ R) → E (.ref A.c_BadEntry) none H')
theorem of_Player_remove {A : Ads} {vs : List V} {H : Hp} {Q : VK} {E : XK} (h :  ∃ (a : PA) (sh : V) (s : Pl) (ov : V) (rs : List V) (e : Int) (R : List Ent), vs = [.ref a.p, .int e] ∧ W H H (plL A a sh s ov rs ++ R) ∧ s.o.Ok ∧ s.soon.length ≤ 50000 ∧
  (e ∈ s.o.q.turn → ∀ H' so', W H H' (plL A { a with so := so' } sh (removeP s e) ov rs ++ R) → Q .non H') ∧ (e ∉ s.o.q.turn → ∀ H', W H H' (plL A a sh s ov rs ++ R) → E (.ref A.c_BadEntry) none H')) : sp_Player_remove A vs H Q E := by unfold sp_Player_remove; exact h
@[irreducible] def sp_Player_move (A : Ads) : Sp := fun vs H Q E => ∃ (a : PA) (sh : V) (s : Pl) (ov : V) (rs : List V) (e p : Int) (R : List Ent), vs = [.ref a.p, .int e, .int p] ∧ W H H (plL A a sh s ov rs ++ R) ∧ s.o.Ok ∧
  (e ∈ s.o.q.turn → 0 ≤ p ∧ p < s.o.q.turn.length → ∀ H', W H H' (plL A a sh (moveP s e p) ov rs ++ R) → Q .non H') ∧ (e ∉ s.o.q.turn → E (.ref A.c_BadEntry) none H) ∧ (e ∈ s.o.q.turn → ¬ (0 ≤ p ∧ p < s.o.q.turn.length) → E (.ref A.c_BadNumber) none H)
theorem of_Player_move {A : Ads} {vs : List V} {H : Hp} {Q : VK} {E : XK} (h :  ∃ (a : PA) (sh : V) (s : Pl) (ov : V) (rs : List V) (e p : Int) (R : List Ent), vs = [.ref a.p, .int e, .int p] ∧ W H H (plL A a sh s ov rs ++ R) ∧ s.o.Ok ∧
  (e ∈ s.o.q.turn → 0 ≤ p ∧ p < s.o.q.turn.length → ∀ H', W H H' (plL A a sh (moveP s e p) ov rs ++ R) → Q .non H') ∧ (e ∉ s.o.q.turn → E (.ref A.c_BadEntry) none H) ∧ (e ∈ s.o.q.turn → ¬ (0 ≤ p ∧ p < s.o.q.turn.length) → E (.ref A.c_BadNumber) none H)) : sp_Player_move A vs H Q E := by unfold sp_Player_move; exact h
@[irreducible] def sp_Player_play_soon (A : Ads) : Sp := fun vs H Q E => ∃ (a : PA) (sh : V) (s : Pl) (ov : V) (rs : List V) (e : Int) (R : List Ent), vs = [.ref a.p, .int e] ∧ W H H (plL A a sh s ov rs ++ R) ∧ s.soon.length ≤ 50000 ∧
  (e ∈ s.o.q.turn → ∀ H', W H H' (plL A a sh (soonP s e) ov rs ++ R) → Q .non H') ∧ (e ∉ s.o.q.turn → E (.ref A.c_BadEntry) none H)
theorem of_Player_play_soon {A : Ads} {vs : List V} {H : Hp} {Q : VK} {E : XK} (h :  ∃ (a : PA) (sh : V) (s : Pl) (ov : V) (rs : List V) (e : Int) (R : List Ent), vs = [.ref a.p, .int e] ∧ W H H (plL A a sh s ov rs ++ R) ∧ s.soon.length ≤ 50000 ∧
  (e ∈ s.o.q.turn → ∀ H', W H H' (plL A a sh (soonP s e) ov rs ++ R) → Q .non H') ∧ (e ∉ s.o.q.turn → E (.ref A.c_BadEntry) none H)) : sp_Player_play_soon A vs H Q E := by unfold sp_Player_play_soon; exact h
@[irreducible] def sp_Player_entries (A : Ads) : Sp := fun vs H Q _ => ∃ (a : PA) (sh : V) (s : Pl) (ov : V) (rs : List V) (R : List Ent), vs = [.ref a.p] ∧ W H H (plL A a sh s ov rs ++ R) ∧ ∀ H' l, W H H' ((l, .lst (s.o.q.turn.map V.int)) :: (plL A a sh s ov rs ++ R)) → Q (.ref l) H'
theorem of_Player_entries {A : Ads} {vs : List V} {H : Hp} {Q : VK} {E : XK} (h :  ∃ (a : PA) (sh : V) (s : Pl) (ov : V) (rs : List V) (R : List Ent), vs = [.ref a.p] ∧ W H H (plL A a sh s ov rs ++ R) ∧ ∀ H' l, W H H' ((l, .lst (s.o.q.turn.map V.int)) :: (plL A a sh s ov rs ++ R)) → Q (.ref l) H') : sp_Player_entries A vs H Q E := by unfold sp_Player_entries; exact h
@[irreducible] def sp_Player_tune (A : Ads) : Sp := fun vs H Q E => ∃ (a : PA) (sh : V) (s : Pl) (ov : V) (rs : List V) (e : Int) (R : List Ent), vs = [.ref a.p, .int e] ∧ W H H (plL A a sh s ov rs ++ R) ∧ (s.o.has e → Q (.str (s.o.q.tune e)) H) ∧ (¬ s.o.has e → E (.ref A.c_BadEntry) none H)
theorem of_Player_tune {A : Ads} {vs : List V} {H : Hp} {Q : VK} {E : XK} (h :  ∃ (a : PA) (sh : V) (s : Pl) (ov : V) (rs : List V) (e : Int) (R : List Ent), vs = [.ref a.p, .int e] ∧ W H H (plL A a sh s ov rs ++ R) ∧ (s.o.has e → Q (.str (s.o.q.tune e)) H) ∧ (¬ s.o.has e → E (.ref A.c_BadEntry) none H)) : sp_Player_tune A vs H Q E := by unfold sp_Player_tune; exact h
@[irreducible] def sp_Player_set_again (A : Ads) : Sp := fun vs H Q E => ∃ (a : PA) (sh : V) (s : Pl) (ov : V) (rs : List V) (x : Str) (R : List Ent), vs = [.ref a.p, .str x] ∧ W H H (plL A a sh s ov rs ++ R) ∧
  (x ∈ repeats → ∀ H', W H H' (plL A a sh (againS s x) ov rs ++ R) → Q .non H') ∧ (x ∉ repeats → E (.ref A.c_BadWord) none H)
theorem of_Player_set_again {A : Ads} {vs : List V} {H : Hp} {Q : VK} {E : XK} (h :  ∃ (a : PA) (sh : V) (s : Pl) (ov : V) (rs : List V) (x : Str) (R : List Ent), vs = [.ref a.p, .str x] ∧ W H H (plL A a sh s ov rs ++ R) ∧
  (x ∈ repeats → ∀ H', W H H' (plL A a sh (againS s x) ov rs ++ R) → Q .non H') ∧ (x ∉ repeats → E (.ref A.c_BadWord) none H)) : sp_Player_set_again A vs H Q E := by unfold sp_Player_set_again; exact h
@[irreducible] def sp_Player_set_mixed (A : Ads) : Sp := fun vs H Q _ => ∃ (a : PA) (sh : V) (s : Pl) (ov : V) (rs : List V) (b : Bool) (R : List Ent), vs = [.ref a.p, .bl b] ∧ W H H (plL A a sh s ov rs ++ R) ∧ s.o.Ok ∧
  ∀ H' k', W H H' (plL A { a with o := { a.o with k := k' } } sh (mixedP s b) ov rs ++ R) → Q .non H'
theorem of_Player_set_mixed {A : Ads} {vs : List V} {H : Hp} {Q : VK} {E : XK} (h :  ∃ (a : PA) (sh : V) (s : Pl) (ov : V) (rs : List V) (b : Bool) (R : List Ent), vs = [.ref a.p, .bl b] ∧ W H H (plL A a sh s ov rs ++ R) ∧ s.o.Ok ∧
  ∀ H' k', W H H' (plL A { a with o := { a.o with k := k' } } sh (mixedP s b) ov rs ++ R) → Q .non H') : sp_Player_set_mixed A vs H Q E := by unfold sp_Player_set_mixed; exact h
@[irreducible] def sp_Player_begin (A : Ads) : Sp := fun vs H Q _ => ∃ (a : PA) (b : SA) (f : Sf) (s : Pl) (e : Option Int) (j : Bool) (R : List Ent), vs = [.ref a.p, oV e, .bl j] ∧ PlW A H H a (.ref b.q) s (sL A b f ++ R) ∧ s.o.Ok ∧ s.rows.length ≤ 50000 ∧ (j = true → ∃ n, s.now = some n ∧ Kn f s.o n) ∧
  ∀ H', PlW A H H' a (.ref b.q) (beginP f s e j) (sL A b f ++ R) → Q .non H'
theorem of_Player_begin {A : Ads} {vs : List V} {H : Hp} {Q : VK} {E : XK} (h :  ∃ (a : PA) (b : SA) (f : Sf) (s : Pl) (e : Option Int) (j : Bool) (R : List Ent), vs = [.ref a.p, oV e, .bl j] ∧ PlW A H H a (.ref b.q) s (sL A b f ++ R) ∧ s.o.Ok ∧ s.rows.length ≤ 50000 ∧ (j = true → ∃ n, s.now = some n ∧ Kn f s.o n) ∧
  ∀ H', PlW A H H' a (.ref b.q) (beginP f s e j) (sL A b f ++ R) → Q .non H') : sp_Player_begin A vs H Q E := by unfold sp_Player_begin; exact h
@[irreducible] def sp_Player_pause (A : Ads) : Sp := fun vs H Q _ => ∃ (a : PA) (sh : V) (s : Pl) (ov : V) (rs : List V) (R : List Ent), vs = [.ref a.p] ∧ W H H (plL A a sh s ov rs ++ R) ∧ ∀ H', W H H' (plL A a sh { s with plays := false } ov rs ++ R) → Q .non H'
theorem of_Player_pause {A : Ads} {vs : List V} {H : Hp} {Q : VK} {E : XK} (h :  ∃ (a : PA) (sh : V) (s : Pl) (ov : V) (rs : List V) (R : List Ent), vs = [.ref a.p] ∧ W H H (plL A a sh s ov rs ++ R) ∧ ∀ H', W H H' (plL A a sh { s with plays := false } ov rs ++ R) → Q .non H') : sp_Player_pause A vs H Q E := by unfold sp_Player_pause; exact h
@[irreducible] def sp_Player_stop_behind (A : Ads) : Sp := fun vs H Q _ => ∃ (a : PA) (sh : V) (s : Pl) (ov : V) (rs : List V) (b : Bool) (R : List Ent), vs = [.ref a.p, .bl b] ∧ W H H (plL A a sh s ov rs ++ R) ∧ ∀ H', W H H' (plL A a sh { s with stops := b } ov rs ++ R) → Q .non H'
theorem of_Player_stop_behind {A : Ads} {vs : List V} {H : Hp} {Q : VK} {E : XK} (h :  ∃ (a : PA) (sh : V) (s : Pl) (ov : V) (rs : List V) (b : Bool) (R : List Ent), vs = [.ref a.p, .bl b] ∧ W H H (plL A a sh s ov rs ++ R) ∧ ∀ H', W H H' (plL A a sh { s with stops := b } ov rs ++ R) → Q .non H') : sp_Player_stop_behind A vs H Q E := by unfold sp_Player_stop_behind; exact h
@[irreducible] def sp_Player_sleep (A : Ads) : Sp := fun vs H Q E => ∃ (a : PA) (sh : V) (s : Pl) (ov : V) (rs : List V) (m : Option Int) (R : List Ent), vs = [.ref a.p, oV m] ∧ W H H (plL A a sh s ov rs ++ R) ∧
  ((∀ k, m = some k → 1 ≤ k ∧ k ≤ 60) → ∀ H', W H H' (plL A a sh { s with sleep := m } ov rs ++ R) → Q .non H') ∧ (¬ (∀ k, m = some k → 1 ≤ k ∧ k ≤ 60) → E (.ref A.c_BadNumber) none H)
theorem of_Player_sleep {A : Ads} {vs : List V} {H : Hp} {Q : VK} {E : XK} (h :  ∃ (a : PA) (sh : V) (s : Pl) (ov : V) (rs : List V) (m : Option Int) (R : List Ent), vs = [.ref a.p, oV m] ∧ W H H (plL A a sh s ov rs ++ R) ∧
  ((∀ k, m = some k → 1 ≤ k ∧ k ≤ 60) → ∀ H', W H H' (plL A a sh { s with sleep := m } ov rs ++ R) → Q .non H') ∧ (¬ (∀ k, m = some k → 1 ≤ k ∧ k ≤ 60) → E (.ref A.c_BadNumber) none H)) : sp_Player_sleep A vs H Q E := by unfold sp_Player_sleep; exact h
@[irreducible] def sp_Player_next_entry (A : Ads) : Sp := fun vs H Q _ => ∃ (a : PA) (sh : V) (s : Pl) (ov : V) (rs : List V) (l : Bool) (R : List Ent), vs = [.ref a.p, .bl l] ∧ W H H (plL A a sh s ov rs ++ R) ∧ s.o.Ok ∧
  ∀ H' k', W H H' (plL A { a with o := { a.o with k := k' } } sh (nextS s l) ov rs ++ R) → Q (oV (nextV s l)) H'
theorem of_Player_next_entry {A : Ads} {vs : List V} {H : Hp} {Q : VK} {E : XK} (h :  ∃ (a : PA) (sh : V) (s : Pl) (ov : V) (rs : List V) (l : Bool) (R : List Ent), vs = [.ref a.p, .bl l] ∧ W H H (plL A a sh s ov rs ++ R) ∧ s.o.Ok ∧
  ∀ H' k', W H H' (plL A { a with o := { a.o with k := k' } } sh (nextS s l) ov rs ++ R) → Q (oV (nextV s l)) H') : sp_Player_next_entry A vs H Q E := by unfold sp_Player_next_entry; exact h
@[irreducible] def sp_Player_twin (A : Ads) : Sp := fun vs H Q _ => ∃ (a : PA) (sh : V) (s : Pl) (ov : V) (rs : List V) (R : List Ent), vs = [.ref a.p] ∧ W H H (plL A a sh s ov rs ++ R) ∧ s.o.Ok ∧ (0 ≤ s.ov ∧ s.ov ≤ 9) ∧
  ∀ H' a', W H H' (plL A a' sh s ov rs ++ (plL A a sh s ov rs ++ R)) → Q (.ref a'.p) H'
theorem of_Player_twin {A : Ads} {vs : List V} {H : Hp} {Q : VK} {E : XK} (h :  ∃ (a : PA) (sh : V) (s : Pl) (ov : V) (rs : List V) (R : List Ent), vs = [.ref a.p] ∧ W H H (plL A a sh s ov rs ++ R) ∧ s.o.Ok ∧ (0 ≤ s.ov ∧ s.ov ≤ 9) ∧
  ∀ H' a', W H H' (plL A a' sh s ov rs ++ (plL A a sh s ov rs ++ R)) → Q (.ref a'.p) H') : sp_Player_twin A vs H Q E := by unfold sp_Player_twin; exact h
@[irreducible] def sp_Player_join_long (A : Ads) : Sp := fun vs H Q _ => ∃ (a : PA) (b : SA) (f : Sf) (s : Pl) (ov : V) (rs : List V) (n x : Int) (R : List Ent), vs = [.ref a.p, .int x] ∧ W H H (plL A a (.ref b.q) s ov rs ++ (sL A b f ++ R)) ∧ s.now = some n ∧ Kn f s.o n ∧ Kn f s.o x ∧ Q (.int (joinL f s n x)) H
theorem of_Player_join_long {A : Ads} {vs : List V} {H : Hp} {Q : VK} {E : XK} (h :  ∃ (a : PA) (b : SA) (f : Sf) (s : Pl) (ov : V) (rs : List V) (n x : Int) (R : List Ent), vs = [.ref a.p, .int x] ∧ W H H (plL A a (.ref b.q) s ov rs ++ (sL A b f ++ R)) ∧ s.now = some n ∧ Kn f s.o n ∧ Kn f s.o x ∧ Q (.int (joinL f s n x)) H) : sp_Player_join_long A vs H Q E := by unfold sp_Player_join_long; exact h
@[irreducible] def sp_Player_ticks (A : Ads) : Sp := fun vs H Q _ => ∃ (a : PA) (sh : V) (s : Pl) (ov : V) (rs : List V) (R : List Ent), vs = [.ref a.p] ∧ W H H (plL A a sh s ov rs ++ R) ∧ Q (.int s.time) H
theorem of_Player_ticks {A : Ads} {vs : List V} {H : Hp} {Q : VK} {E : XK} (h :  ∃ (a : PA) (sh : V) (s : Pl) (ov : V) (rs : List V) (R : List Ent), vs = [.ref a.p] ∧ W H H (plL A a sh s ov rs ++ R) ∧ Q (.int s.time) H) : sp_Player_ticks A vs H Q E := by unfold sp_Player_ticks; exact h
@[irreducible] def sp_Player_log (A : Ads) : Sp := fun vs H Q _ => ∃ (a : PA) (sh : V) (s : Pl) (ov : V) (rs : List V) (R : List Ent), vs = [.ref a.p] ∧ W H H (plL A a sh s ov rs ++ R) ∧ ∀ H' l, W H H' ((l, .lst rs) :: (plL A a sh s ov rs ++ R)) → Q (.ref l) H'
theorem of_Player_log {A : Ads} {vs : List V} {H : Hp} {Q : VK} {E : XK} (h :  ∃ (a : PA) (sh : V) (s : Pl) (ov : V) (rs : List V) (R : List Ent), vs = [.ref a.p] ∧ W H H (plL A a sh s ov rs ++ R) ∧ ∀ H' l, W H H' ((l, .lst rs) :: (plL A a sh s ov rs ++ R)) → Q (.ref l) H') : sp_Player_log A vs H Q E := by unfold sp_Player_log; exact h
@[irreducible] def sp_Player_state (A : Ads) : Sp := fun vs H Q _ => ∃ (a : PA) (sh : V) (s : Pl) (ov : V) (rs : List V) (R : List Ent), vs = [.ref a.p] ∧ W H H (plL A a sh s ov rs ++ R) ∧ ∀ H' t, W H H' ((t, .tup [oV s.now, .int s.spot, .bl s.plays]) :: (plL A a sh s ov rs ++ R)) → Q (.ref t) H'
theorem of_Player_state {A : Ads} {vs : List V} {H : Hp} {Q : VK} {E : XK} (h :  ∃ (a : PA) (sh : V) (s : Pl) (ov : V) (rs : List V) (R : List Ent), vs = [.ref a.p] ∧ W H H (plL A a sh s ov rs ++ R) ∧ ∀ H' t, W H H' ((t, .tup [oV s.now, .int s.spot, .bl s.plays]) :: (plL A a sh s ov rs ++ R)) → Q (.ref t) H') : sp_Player_state A vs H Q E := by unfold sp_Player_state; exact h
section
variable {P : Program} {w : World} {K : PySem.W.Frag} {mg : Str → Option Value} {base : Heap} {A : Ads}
theorem ok_Player_init__ (T : Txt K mg A) : FnOk P w K mg base (L2.CX P w) 5 A.f_Player_init__ A.d_Player_init__ P_Player_init__ (sp_Player_init A) := by
  refine T.F_Player_init__.okX sc_Player_init__ (fun vs H Q E h => ?_) (fun cdv Ar outer s H vs Q E hr h => ?_)
  · unfold sp_Player_init at h; obtain ⟨p, dx, sh, ov, n, R, rfl, _⟩ := h; rfl
  · unfold sp_Player_init at h; obtain ⟨p, dx, sh, ov, n, R, rfl, w, k1, k2⟩ := h
    refine ⟨_, (pss_cons (my_if (pt_not (my_chIT op_le op_le pe_int (pv 2) (my_globI T.gi_MOST_OVERLAP (by rfl)) still_c still_v still_c))
        (pss_one (ps_raise rfl takesE (pmk_own PySem.F.excBase_ValueError T.x_BadNumber T.g_BadNumber T.k_BadNumber (raises_own T.r_BadNumber T.t_BadNumber) (by rfl))))
        pss_nil)
      (pss_cons (my_fld (pv 0) (pv 1))
      (pss_cons (my_fld (pv 0) (pv 2))
      (pss_cons (my_fld (pv 0) (my_make T.M_Order (ok_Order_init__ T) (hr.mono (by decide)) (by rfl) T.g_Order T.b_Order_init__ passE (pa_cons (pv 3) pa_nil)))
      (pss_cons (my_fld (pv 0) pe_int)
      (pss_cons (my_fld (pv 0) pe_non)
      (pss_cons (my_fld (pv 0) pe_int)
      (pss_cons (my_fld (pv 0) pe_non)
      (pss_cons (my_fld (pv 0) (my_lst pa_nil))
      (pss_cons (my_fld (pv 0) (my_lst pa_nil))
      (pss_cons (my_fld (pv 0) (my_lst pa_nil))
      (pss_cons (my_fld (pv 0) pe_bl)
      (pss_cons (my_fld (pv 0) pe_bl)
      (pss_one (my_fld (pv 0) pe_non))))))))))))))), ?_⟩
    walk_at "rd"
    refine xIf_2 (fun h => k2 (fun z => nb_t h z.1) _ w.drop1) (fun h => ?_)
    have h1 := nb_f h
    walk_at "rd"
    refine st_fld w 0 rfl T.c_Player T.n_Player_shelf (by decide) fun H1 w1 => ?_
    walk_at "rd"
    refine st_fld w1 0 rfl T.c_Player T.n_Player_overlap (by show 1 < 1000; decide) fun H2 w2 => ?_
    walk_at "rd"
    refine st_make w2 fun o ox H3 w3 => ?_
    refine of_Order_init ⟨o, ox, n, _, rfl, w3.now, fun hn H4 a eo w4 => ?_, fun hn H4 w4 => k2 (fun z => hn z.2) H4 (w3.tr w4).drop1⟩
    subst eo
    have w5 := w3.tr w4
    clear w4 w3 w2 w1
    walk_at "rd"
    refine st_fld w5 6 rfl T.c_Player T.n_Player_order (by show 2 < 1000; decide) fun H5 w6 => ?_
    walk_at "rd"
    refine st_fld w6 6 rfl T.c_Player T.n_Player_time (by show 3 < 1000; decide) fun H6 w7 => ?_
    walk_at "rd"
    refine st_fld w7 6 rfl T.c_Player T.n_Player_now (by show 4 < 1000; decide) fun H7 w8 => ?_
    walk_at "rd"
    refine st_fld w8 6 rfl T.c_Player T.n_Player_spot (by show 5 < 1000; decide) fun H8 w9 => ?_
    walk_at "rd"
    refine st_fld w9 6 rfl T.c_Player T.n_Player_old (by show 6 < 1000; decide) fun H9 w10 => ?_
    walk_at "rd"
    refine st_new w10 fun so H10 w11 => ?_
    walk_at "rd"
    refine st_fld w11 7 rfl T.c_Player T.n_Player_soon (by show 7 < 1000; decide) fun H11 w12 => ?_
    walk_at "rd"
    refine st_new w12 fun pa H12 w13 => ?_
    walk_at "rd"
    refine st_fld w13 8 rfl T.c_Player T.n_Player_past (by show 8 < 1000; decide) fun H13 w14 => ?_
    walk_at "rd"
    refine st_new w14 fun ro H14 w15 => ?_
    walk_at "rd"
    refine st_fld w15 9 rfl T.c_Player T.n_Player_rows (by show 9 < 1000; decide) fun H15 w16 => ?_
    walk_at "rd"
    refine st_fld w16 9 rfl T.c_Player T.n_Player_is_playing (by show 10 < 1000; decide) fun H16 w17 => ?_
    walk_at "rd"
    refine st_fld w17 9 rfl T.c_Player T.n_Player_stops (by show 11 < 1000; decide) fun H17 w18 => ?_
    walk_at "rd"
    refine st_fld w18 9 rfl T.c_Player T.n_Player_sleep_left (by show 12 < 1000; decide) fun H18 w19 => ?_
    exact k1 ⟨h1, hn⟩ H18 ⟨p, dx, so, pa, ro, a⟩ rfl (w19.pick 10 [9, 2, 1, 0, 3, 4, 5, 6, 7, 8])
theorem ok_Player_long (T : Txt K mg A) : FnOk P w K mg base (L2.CX P w) 3 A.f_Player_long A.d_Player_long P_Player_long (sp_Player_long A) := by
  refine T.F_Player_long.okX sc_Player_long (fun vs H Q E h => ?_) (fun cdv Ar outer s H vs Q E hr h => ?_)
  · unfold sp_Player_long at h; obtain ⟨a, b, f, s, ov, rs, e, R, rfl, _⟩ := h; rfl
  · unfold sp_Player_long at h; obtain ⟨a, b, f, s, ov, rs, e, R, rfl, w, kn, q⟩ := h
    refine ⟨_, (pss_one (ps_ret (my_meth (pe_fld (pv 0) rfl) T.c_Shelf T.m_Shelf_long (ok_Shelf_long T) (hr.mono (by decide)) T.b_Shelf_long passE (pa_cons (my_meth (pe_fld (pe_fld (pv 0) rfl) rfl) T.c_Queue T.m_Queue_tune (ok_Queue_tune T) (hr.mono (by decide)) T.b_Queue_tune passE (pa_cons (pv 1) pa_nil)) pa_nil)))), ?_⟩
    walk_at "rd"
    refine st_call (of_Queue_tune ⟨a.o.q, s.o.q, e, _, rfl, (w.rot 5 3).now, fun _ => ?_, fun z => absurd kn.has z⟩)
    refine st_call (of_Shelf_long ⟨b, f, _, _, rfl, (w.rot 10 2).now, fun n hn => ?_, fun z => ?_⟩)
    · rw [kn.lk] at hn
      cases hn
      exact q
    · rw [kn.lk] at z
      cases z
theorem ok_Player_add (T : Txt K mg A) : FnOk P w K mg base (L2.CX P w) 3 A.f_Player_add A.d_Player_add P_Player_add (sp_Player_add A) := by
  refine T.F_Player_add.okX sc_Player_add (fun vs H Q E h => ?_) (fun cdv Ar outer s H vs Q E hr h => ?_)
  · unfold sp_Player_add at h; obtain ⟨a, b, f, s, ov, rs, x, p, R, rfl, _⟩ := h; rfl
  · unfold sp_Player_add at h; obtain ⟨a, b, f, s, ov, rs, x, p, R, rfl, w, ok, hz, k1, k2, k3⟩ := h
    refine ⟨_, (pss_cons (ps_expr (my_meth (pe_fld (pv 0) rfl) T.c_Shelf T.m_Shelf_need (ok_Shelf_need T) (hr.mono (by decide)) T.b_Shelf_need passE (pa_cons (pv 1) pa_nil)))
      (pss_one (ps_ret (my_meth (pe_fld (pv 0) rfl) T.c_Order T.m_Order_put (ok_Order_put T) (hr.mono (by decide)) T.b_Order_put passE (pa_cons (pv 1) (pa_cons (pv 2) pa_nil)))))), ?_⟩
    walk_at "rd"
    refine st_call (of_Shelf_need ⟨b, f, x, _, rfl, (w.rot 10 2).now, fun hx => ?_, k2⟩)
    walk_at "rd"
    refine st_call (of_Order_put ⟨a.o, s.o, x, p, _, rfl, (w.rot 4 6).now, ok, hz, fun hp H1 w1 => ?_, fun hp => k3 hx hp⟩)
    exact k1 hx hp H1 ((w.tr w1).rot 6 4)
theorem ok_Player_remove (T : Txt K mg A) : FnOk P w K mg base (L2.CX P w) 4 A.f_Player_remove A.d_Player_remove P_Player_remove (sp_Player_remove A) := by
  refine T.F_Player_remove.okX sc_Player_remove (fun vs H Q E h => ?_) (fun cdv Ar outer s H vs Q E hr h => ?_)
  · unfold sp_Player_remove at h; obtain ⟨a, sh, s, ov, rs, e, R, rfl, _⟩ := h; rfl
  · unfold sp_Player_remove at h; obtain ⟨a, sh, s, ov, rs, e, R, rfl, w, ok, hz, k1, k2⟩ := h
    refine ⟨_, (pss_cons (ps_expr (my_meth (pe_fld (pv 0) rfl) T.c_Order T.m_Order_remove (ok_Order_remove T) (hr.mono (by decide)) T.b_Order_remove passE (pa_cons (pv 1) (pa_cons (pe_fld (pv 0) rfl) pa_nil))))
      (pss_one (my_fld (pv 0) (my_lc (own := [("one", 2)]) rfl sc_Player_remove.nd (pi_list (pe_fld (pv 0) rfl)) (blkOk_by (own := [("one", 2)]) (N := N_Player_remove) (sc := defScope s_Player_remove) (by decide +kernel)) (fun _ _ _ _ _ => (pg_name (i := 2) sc_Player_remove.nd rfl (by first | exact Or.inl rfl | exact Or.inr rfl))) (fun _ _ _ _ _ => (pts_one (pt_cmpR op_ne (pv 2) (pv 1) (nomark _)))) (fun _ _ _ _ _ => (pv 2)))))), ?_⟩
    walk_at "rd"
    refine st_call (of_Order_remove ⟨a.o, s.o, e, s.now, _, rfl, (w.rot 4 6).now, ok, fun he H1 w1 => ?_, fun he H1 w1 => k2 he H1 ((w.tr w1).rot 6 4)⟩)
    have w2 := (w.tr w1).rot 6 4
    clear w1
    walk_at "rd"
    refine st_but (fun x => !decide (V.int x = V.int e)) w2 1 rfl (by omega) ?_ ?_
    · intro D n P H' h1 h2
      walk_at "rd"
      refine xIf_2 (fun h => ?_) (fun h => h2 h)
      walk_at "rd"
      exact h1 h
    · intro D H2 w3
      walk_at "rd"
      refine sf_Player_soon T w3 1 rfl fun H3 w4 => ?_
      exact k1 he H3 D (w4.pick 5 [1, 0, 3, 4])
theorem ok_Player_entries (T : Txt K mg A) : FnOk P w K mg base (L2.CX P w) 2 A.f_Player_entries A.d_Player_entries P_Player_entries (sp_Player_entries A) := by
  refine T.F_Player_entries.okX sc_Player_entries (fun vs H Q E h => ?_) (fun cdv Ar outer s H vs Q E hr h => ?_)
  · unfold sp_Player_entries at h; obtain ⟨a, sh, s, ov, rs, R, rfl, _⟩ := h; rfl
  · unfold sp_Player_entries at h; obtain ⟨a, sh, s, ov, rs, R, rfl, w, k⟩ := h
    refine ⟨_, (pss_one (ps_ret (my_meth0 (pe_fld (pe_fld (pv 0) rfl) rfl) T.c_Queue T.m_Queue_entries (ok_Queue_entries T) (hr.mono (by decide)) T.b_Queue_entries passE))), ?_⟩
    walk_at "rd"
    refine st_call (of_Queue_entries ⟨a.o.q, s.o.q, _, rfl, (w.rot 5 3).now, fun H1 l w1 => k H1 l ?_⟩)
    exact (w.tr w1).pick 9 [0, 4, 5, 6, 7, 8, 1, 2, 3]
theorem ok_Player_tune (T : Txt K mg A) : FnOk P w K mg base (L2.CX P w) 2 A.f_Player_tune A.d_Player_tune P_Player_tune (sp_Player_tune A) := by
  refine T.F_Player_tune.okX sc_Player_tune (fun vs H Q E h => ?_) (fun cdv Ar outer s H vs Q E hr h => ?_)
  · unfold sp_Player_tune at h; obtain ⟨a, sh, s, ov, rs, e, R, rfl, _⟩ := h; rfl
  · unfold sp_Player_tune at h; obtain ⟨a, sh, s, ov, rs, e, R, rfl, w, k1, k2⟩ := h
    refine ⟨_, (pss_one (ps_ret (my_meth (pe_fld (pe_fld (pv 0) rfl) rfl) T.c_Queue T.m_Queue_tune (ok_Queue_tune T) (hr.mono (by decide)) T.b_Queue_tune passE (pa_cons (pv 1) pa_nil)))), ?_⟩
    walk_at "rd"
    exact st_call (of_Queue_tune ⟨a.o.q, s.o.q, e, _, rfl, (w.rot 5 3).now, k1, k2⟩)
theorem ok_Player_set_again (T : Txt K mg A) : FnOk P w K mg base (L2.CX P w) 2 A.f_Player_set_again A.d_Player_set_again P_Player_set_again (sp_Player_set_again A) := by
  refine T.F_Player_set_again.okX sc_Player_set_again (fun vs H Q E h => ?_) (fun cdv Ar outer s H vs Q E hr h => ?_)
  · unfold sp_Player_set_again at h; obtain ⟨a, sh, s, ov, rs, x, R, rfl, _⟩ := h; rfl
  · unfold sp_Player_set_again at h; obtain ⟨a, sh, s, ov, rs, x, R, rfl, w, k1, k2⟩ := h
    refine ⟨_, (pss_one (ps_expr (my_meth (pe_fld (pv 0) rfl) T.c_Order T.m_Order_set_again (ok_Order_set_again T) (hr.mono (by decide)) T.b_Order_set_again passE (pa_cons (pv 1) pa_nil)))), ?_⟩
    walk_at "rd"
    exact st_call (of_Order_set_again ⟨a.o, s.o, x, _, rfl, (w.rot 4 6).now, fun hx H1 w1 => k1 hx H1 ((w.tr w1).rot 6 4), k2⟩)
theorem ok_Player_next_entry (T : Txt K mg A) : FnOk P w K mg base (L2.CX P w) 6 A.f_Player_next_entry A.d_Player_next_entry P_Player_next_entry (sp_Player_next_entry A) := by
  refine T.F_Player_next_entry.okX sc_Player_next_entry (fun vs H Q E h => ?_) (fun cdv Ar outer s H vs Q E hr h => ?_)
  · unfold sp_Player_next_entry at h; obtain ⟨a, sh, s, ov, rs, l, R, rfl, _⟩ := h; rfl
  · unfold sp_Player_next_entry at h; obtain ⟨a, sh, s, ov, rs, l, R, rfl, w, ok, k⟩ := h
    refine ⟨_, (pss_cons (my_if (pt_truth (pe_fld (pv 0) rfl) (by intro _; rfl))
        (pss_one (ps_ret (pe_bm PySem.F.plainAttrs_list PySem.F.slot_list_pop PySem.F.type_list_pop my_popAt (pe_fld (pv 0) rfl) (pa_cons pe_int pa_nil))))
        pss_nil)
      (pss_one (ps_ret (my_ifExp (pt_val (pv 1)) (my_meth (pe_fld (pv 0) rfl) T.c_Order T.m_Order_skip (ok_Order_skip T) (hr.mono (by decide)) T.b_Order_skip passE (pa_cons (pe_fld (pv 0) rfl) pa_nil)) (my_meth (pe_fld (pv 0) rfl) T.c_Order T.m_Order_after (ok_Order_after T) (hr.mono (by decide)) T.b_Order_after passE (pa_cons (pe_fld (pv 0) rfl) pa_nil)))))), ?_⟩
    obtain ⟨pov, o, time, now, spot, old, soon, past, rows, plays, stops, sleep⟩ := s
    have ok : o.Ok := ok
    cases soon with
    | cons x r =>
      walk_at "rd"
      refine xIf_T rfl ?_
      walk_at "rd"
      exact st_pop0 w 1 rfl fun H1 w1 => k H1 a.o.k w1
    | nil =>
      walk_at "rd"
      refine xIf_F rfl ?_
      walk_at "rd"
      cases l with
      | true =>
        refine xIf_T rfl ?_
        walk_at "rd"
        exact st_call (of_Order_skip ⟨a.o, o, now, _, rfl, (w.rot 4 6).now, ok, fun H1 k' w1 => k H1 k' ((w.tr w1).rot 6 4)⟩)
      | false =>
        refine xIf_F rfl ?_
        walk_at "rd"
        exact st_call (of_Order_after ⟨a.o, o, now, _, rfl, (w.rot 4 6).now, ok, fun H1 k' w1 => k H1 k' ((w.tr w1).rot 6 4)⟩)
theorem ok_Player_join_long (T : Txt K mg A) : FnOk P w K mg base (L2.CX P w) 4 A.f_Player_join_long A.d_Player_join_long P_Player_join_long (sp_Player_join_long A) := by
  refine T.F_Player_join_long.okX sc_Player_join_long (fun vs H Q E h => ?_) (fun cdv Ar outer s H vs Q E hr h => ?_)
  · unfold sp_Player_join_long at h; obtain ⟨a, b, f, s, ov, rs, n, x, R, rfl, _⟩ := h; rfl
  · unfold sp_Player_join_long at h; obtain ⟨a, b, f, s, ov, rs, n, x, R, rfl, w, hn, kn, kx, q⟩ := h
    refine ⟨_, (pss_one (ps_ret (pe_callB (my_min3 rfl) (by rfl) T.z_min (by decide +kernel) (pa_cons (pe_fld (pv 0) rfl) (pa_cons (pe_op op_fdiv (my_meth (pv 0) T.c_Player T.m_Player_long (ok_Player_long T) (hr.mono (by decide)) T.b_Player_long passE (pa_cons (pe_fld (pv 0) rfl) pa_nil)) pe_int) (pa_cons (pe_op op_fdiv (my_meth (pv 0) T.c_Player T.m_Player_long (ok_Player_long T) (hr.mono (by decide)) T.b_Player_long passE (pa_cons (pv 1) pa_nil)) pe_int) pa_nil)))))), ?_⟩
    have e1 : oV s.now = .int n := by rw [hn]; rfl
    walk_at "rd"
    refine st_call (of_Player_long ⟨a, b, f, s, ov, rs, n, R, by rw [e1], w, kn, ?_⟩)
    walk_at "rd"
    refine st_call (of_Player_long ⟨a, b, f, s, ov, rs, x, R, rfl, w, kx, ?_⟩)
    walk_at "rd"
    exact q
theorem ok_Player_ticks (T : Txt K mg A) : FnOk P w K mg base (L2.CX P w) 1 A.f_Player_ticks A.d_Player_ticks P_Player_ticks (sp_Player_ticks A) := by
  refine T.F_Player_ticks.okX sc_Player_ticks (fun vs H Q E h => ?_) (fun cdv Ar outer s H vs Q E hr h => ?_)
  · unfold sp_Player_ticks at h; obtain ⟨a, sh, s, ov, rs, R, rfl, _⟩ := h; rfl
  · unfold sp_Player_ticks at h; obtain ⟨a, sh, s, ov, rs, R, rfl, w, q⟩ := h
    refine ⟨_, (pss_one (ps_ret (pe_fld (pv 0) rfl))), ?_⟩
    walk_at "rd"
    exact q
theorem ok_Player_log (T : Txt K mg A) : FnOk P w K mg base (L2.CX P w) 1 A.f_Player_log A.d_Player_log P_Player_log (sp_Player_log A) := by
  refine T.F_Player_log.okX sc_Player_log (fun vs H Q E h => ?_) (fun cdv Ar outer s H vs Q E hr h => ?_)
  · unfold sp_Player_log at h; obtain ⟨a, sh, s, ov, rs, R, rfl, _⟩ := h; rfl
  · unfold sp_Player_log at h; obtain ⟨a, sh, s, ov, rs, R, rfl, w, k⟩ := h
    refine ⟨_, (pss_one (ps_ret (pe_callTy my_listOf (by rfl) T.z_list (by decide +kernel) (pa_cons (pe_fld (pv 0) rfl) pa_nil)))), ?_⟩
    walk_at "rd"
    exact st_new w fun l H1 w1 => k H1 l w1
theorem ok_Player_state (T : Txt K mg A) : FnOk P w K mg base (L2.CX P w) 1 A.f_Player_state A.d_Player_state P_Player_state (sp_Player_state A) := by
  refine T.F_Player_state.okX sc_Player_state (fun vs H Q E h => ?_) (fun cdv Ar outer s H vs Q E hr h => ?_)
  · unfold sp_Player_state at h; obtain ⟨a, sh, s, ov, rs, R, rfl, _⟩ := h; rfl
  · unfold sp_Player_state at h; obtain ⟨a, sh, s, ov, rs, R, rfl, w, k⟩ := h
    refine ⟨_, (pss_one (ps_ret (my_tup (pa_cons (pe_fld (pv 0) rfl) (pa_cons (pe_fld (pv 0) rfl) (pa_cons (pe_fld (pv 0) rfl) pa_nil)))))), ?_⟩
    walk_at "rd"
    exact st_new w fun l H1 w1 => k H1 l w1
end
end TR

namespace TR
open PySem L2
@[irreducible] def xWb (Wv : Nat → L2.St → Hp → Prop) (tb : TS) (D : Ends) (m : Nat) (σ : L2.St) (b : Bool) (H1 : Hp) : Prop :=
  if b = true then ∃ N : L2.St → Hp → Prop, (∀ σ' H', N σ' H' → ∃ m', m' < m ∧ Wv m' σ' H') ∧ tb { D with nx := N, ct := N, bk := D.nx } σ H1 else D.nx σ H1
theorem st_while2 {H : Hp} {c : TT} {tb : TS} {D : Ends} {σ : L2.St} (Wv : Nat → L2.St → Hp → Prop) (m0 : Nat) (h0 : Wv m0 σ H) (hs : ∀ m σ H, Wv m σ H → c σ H (xWb Wv tb D m σ)) : xWhile c tb D σ H := by
  unfold xWb at hs
  unfold xWhile
  exact ⟨Wv, ⟨m0, h0⟩, hs⟩
theorem xWb_T {Wv : Nat → L2.St → Hp → Prop} {tb : TS} {D : Ends} {m : Nat} {σ : L2.St} {b : Bool} {H1 : Hp} (hb : b = true) (h : tb { D with nx := fun σ' H' => ∃ m', m' < m ∧ Wv m' σ' H', ct := fun σ' H' => ∃ m', m' < m ∧ Wv m' σ' H', bk := D.nx } σ H1) : xWb Wv tb D m σ b H1 := by
  unfold xWb; rw [if_pos hb]; exact ⟨_, fun _ _ z => z, h⟩
theorem xWb_F {Wv : Nat → L2.St → Hp → Prop} {tb : TS} {D : Ends} {m : Nat} {σ : L2.St} {b : Bool} {H1 : Hp} (hb : b = false) (h : D.nx σ H1) : xWb Wv tb D m σ b H1 := by
  unfold xWb; rw [hb, if_neg Bool.false_ne_true]; exact h
theorem atI_last (q : List Int) (y : Int) : atI ((q ++ [y]).map V.int) (-1) = some (.int y) := by
  unfold atI ixN
  rw [List.length_map, List.length_append, List.length_singleton, if_neg (by decide), if_pos (by push_cast; omega)]
  show ((q ++ [y]).map V.int)[((-1 : Int) + ((q.length + 1 : Nat) : Int)).toNat]? = _
  rw [show ((-1 : Int) + ((q.length + 1 : Nat) : Int)).toNat = q.length by push_cast; omega, List.getElem?_map, List.getElem?_append_right (Nat.le_refl _), Nat.sub_self]
  rfl
theorem dropT_out {turn q : List Int} {y : Int} (h : y ∉ turn) : dropT turn (q ++ [y]) = dropT turn q := by
  unfold dropT
  rw [List.reverse_append, List.reverse_singleton, List.singleton_append, List.dropWhile_cons_of_pos (by simpa using h)]
theorem dropT_in {turn q : List Int} {y : Int} (h : y ∈ turn) : dropT turn (q ++ [y]) = q ++ [y] := by
  unfold dropT
  rw [List.reverse_append, List.reverse_singleton, List.singleton_append, List.dropWhile_cons_of_neg (by simpa using h), List.reverse_cons, List.reverse_reverse]
theorem dropT_len (turn p : List Int) : (dropT turn p).length ≤ p.length := by
  unfold dropT
  rw [List.length_reverse]
  have := (List.dropWhile_sublist (l := p.reverse) (fun x => decide (x ∉ turn))).length_le
  rw [List.length_reverse] at this
  exact this
theorem snoc_cases (p : List Int) : p = [] ∨ ∃ q y, p = q ++ [y] := by
  rcases List.eq_nil_or_concat p with h | ⟨q, y, h⟩
  · exact .inl h
  · exact .inr ⟨q, y, by rw [h, List.concat_eq_append]⟩
theorem beginP_plays (f : Sf) (s : Pl) (e : Option Int) (j : Bool) : (beginP f s e j).plays = s.plays := by cases e <;> rfl
theorem pushN_F {H H' : Hp} (t : Tps H H') {s : Pl} {ov : V} {rs : List V} (h : PlF H s ov rs) : PlF H' (pushN s) ov rs := by
  unfold pushN
  split
  · exact h.mono t
  · exact ⟨h.old.mono t, h.rows.mono t⟩
@[irreducible] def sp_Player_play (A : Ads) : Sp := fun vs H Q E => ∃ (a : PA) (b : SA) (f : Sf) (s : Pl) (e : Int) (R : List Ent), vs = [.ref a.p, .int e] ∧ PlW A H H a (.ref b.q) s (sL A b f ++ R) ∧ s.o.Ok ∧ Sz s 50000 ∧
  (e ∈ s.o.q.turn → ∀ H', PlW A H H' a (.ref b.q) (playP f s e) (sL A b f ++ R) → Q .non H') ∧ (e ∉ s.o.q.turn → E (.ref A.c_BadEntry) none H)
theorem of_Player_play {A : Ads} {vs : List V} {H : Hp} {Q : VK} {E : XK} (h :  ∃ (a : PA) (b : SA) (f : Sf) (s : Pl) (e : Int) (R : List Ent), vs = [.ref a.p, .int e] ∧ PlW A H H a (.ref b.q) s (sL A b f ++ R) ∧ s.o.Ok ∧ Sz s 50000 ∧
  (e ∈ s.o.q.turn → ∀ H', PlW A H H' a (.ref b.q) (playP f s e) (sL A b f ++ R) → Q .non H') ∧ (e ∉ s.o.q.turn → E (.ref A.c_BadEntry) none H)) : sp_Player_play A vs H Q E := by unfold sp_Player_play; exact h
@[irreducible] def sp_Player_resume (A : Ads) : Sp := fun vs H Q _ => ∃ (a : PA) (b : SA) (f : Sf) (s : Pl) (R : List Ent), vs = [.ref a.p] ∧ PlW A H H a (.ref b.q) s (sL A b f ++ R) ∧ s.o.Ok ∧ Sz s 50000 ∧
  ∀ H' a', a'.p = a.p → PlW A H H' a' (.ref b.q) (resumeP f s) (sL A b f ++ R) → Q .non H'
theorem of_Player_resume {A : Ads} {vs : List V} {H : Hp} {Q : VK} {E : XK} (h :  ∃ (a : PA) (b : SA) (f : Sf) (s : Pl) (R : List Ent), vs = [.ref a.p] ∧ PlW A H H a (.ref b.q) s (sL A b f ++ R) ∧ s.o.Ok ∧ Sz s 50000 ∧
  ∀ H' a', a'.p = a.p → PlW A H H' a' (.ref b.q) (resumeP f s) (sL A b f ++ R) → Q .non H') : sp_Player_resume A vs H Q E := by unfold sp_Player_resume; exact h
@[irreducible] def sp_Player_skip (A : Ads) : Sp := fun vs H Q _ => ∃ (a : PA) (b : SA) (f : Sf) (s : Pl) (R : List Ent), vs = [.ref a.p] ∧ PlW A H H a (.ref b.q) s (sL A b f ++ R) ∧ s.o.Ok ∧ Sz s 50000 ∧
  ∀ H' a', a'.p = a.p → PlW A H H' a' (.ref b.q) (skipP f s) (sL A b f ++ R) → Q .non H'
theorem of_Player_skip {A : Ads} {vs : List V} {H : Hp} {Q : VK} {E : XK} (h :  ∃ (a : PA) (b : SA) (f : Sf) (s : Pl) (R : List Ent), vs = [.ref a.p] ∧ PlW A H H a (.ref b.q) s (sL A b f ++ R) ∧ s.o.Ok ∧ Sz s 50000 ∧
  ∀ H' a', a'.p = a.p → PlW A H H' a' (.ref b.q) (skipP f s) (sL A b f ++ R) → Q .non H') : sp_Player_skip A vs H Q E := by unfold sp_Player_skip; exact h
@[irreducible] def sp_Player_back (A : Ads) : Sp := fun vs H Q _ => ∃ (a : PA) (b : SA) (f : Sf) (s : Pl) (R : List Ent), vs = [.ref a.p] ∧ PlW A H H a (.ref b.q) s (sL A b f ++ R) ∧ s.o.Ok ∧ Sz s 50000 ∧
  ∀ H', PlW A H H' a (.ref b.q) (backP f s) (sL A b f ++ R) → Q .non H'
theorem of_Player_back {A : Ads} {vs : List V} {H : Hp} {Q : VK} {E : XK} (h :  ∃ (a : PA) (b : SA) (f : Sf) (s : Pl) (R : List Ent), vs = [.ref a.p] ∧ PlW A H H a (.ref b.q) s (sL A b f ++ R) ∧ s.o.Ok ∧ Sz s 50000 ∧
  ∀ H', PlW A H H' a (.ref b.q) (backP f s) (sL A b f ++ R) → Q .non H') : sp_Player_back A vs H Q E := by unfold sp_Player_back; exact h
@[irreducible] def sp_Player_seek (A : Ads) : Sp := fun vs H Q E => ∃ (a : PA) (b : SA) (f : Sf) (s : Pl) (ov : V) (rs : List V) (x : Int) (R : List Ent), vs = [.ref a.p, .int x] ∧ W H H (plL A a (.ref b.q) s ov rs ++ (sL A b f ++ R)) ∧ (∀ n, s.now = some n → Kn f s.o n) ∧
  (∀ n, s.now = some n → 0 ≤ x ∧ x < longO f s.o n → ∀ H', W H H' (plL A a (.ref b.q) (seekP s x) .non rs ++ (sL A b f ++ R)) → Q .non H') ∧ (s.now = none → E (.ref A.c_BadEntry) none H) ∧ (∀ n, s.now = some n → ¬ (0 ≤ x ∧ x < longO f s.o n) → E (.ref A.c_BadNumber) none H)
theorem of_Player_seek {A : Ads} {vs : List V} {H : Hp} {Q : VK} {E : XK} (h :  ∃ (a : PA) (b : SA) (f : Sf) (s : Pl) (ov : V) (rs : List V) (x : Int) (R : List Ent), vs = [.ref a.p, .int x] ∧ W H H (plL A a (.ref b.q) s ov rs ++ (sL A b f ++ R)) ∧ (∀ n, s.now = some n → Kn f s.o n) ∧
  (∀ n, s.now = some n → 0 ≤ x ∧ x < longO f s.o n → ∀ H', W H H' (plL A a (.ref b.q) (seekP s x) .non rs ++ (sL A b f ++ R)) → Q .non H') ∧ (s.now = none → E (.ref A.c_BadEntry) none H) ∧ (∀ n, s.now = some n → ¬ (0 ≤ x ∧ x < longO f s.o n) → E (.ref A.c_BadNumber) none H)) : sp_Player_seek A vs H Q E := by unfold sp_Player_seek; exact h
section
variable {P : Program} {w : World} {K : PySem.W.Frag} {mg : Str → Option Value} {base : Heap} {A : Ads}
theorem ok_Player_twin (T : Txt K mg A) : FnOk P w K mg base (L2.CX P w) 7 A.f_Player_twin A.d_Player_twin P_Player_twin (sp_Player_twin A) := by
  refine T.F_Player_twin.okX sc_Player_twin (fun vs H Q E h => ?_) (fun cdv Ar outer s H vs Q E hr h => ?_)
  · unfold sp_Player_twin at h; obtain ⟨a, sh, s, ov, rs, R, rfl, _⟩ := h; rfl
  · unfold sp_Player_twin at h; obtain ⟨a, sh, s, ov, rs, R, rfl, w, ok, hov, k⟩ := h
    refine ⟨_, (pss_cons (ps_set (i := 1) sc_Player_twin.nd rfl (by first | exact Or.inl rfl | exact Or.inr rfl) (my_make T.M_Player (ok_Player_init__ T) (hr.mono (by decide)) (by rfl) T.g_Player T.b_Player_init__ passE (pa_cons (pe_fld (pv 0) rfl) (pa_cons (pe_fld (pv 0) rfl) (pa_cons pe_int pa_nil)))))
      (pss_cons (my_fld (pv 1) (my_meth0 (pe_fld (pv 0) rfl) T.c_Order T.m_Order_twin (ok_Order_twin T) (hr.mono (by decide)) T.b_Order_twin passE))
      (pss_cons (my_fld (pv 1) (pe_fld (pv 0) rfl))
      (pss_cons (my_fld (pv 1) (pe_fld (pv 0) rfl))
      (pss_cons (my_fld (pv 1) (pe_fld (pv 0) rfl))
      (pss_cons (my_fld (pv 1) (pe_fld (pv 0) rfl))
      (pss_cons (my_fld (pv 1) (pe_callTy my_listOf (by rfl) T.z_list (by decide +kernel) (pa_cons (pe_fld (pv 0) rfl) pa_nil)))
      (pss_cons (my_fld (pv 1) (pe_callTy my_listOf (by rfl) T.z_list (by decide +kernel) (pa_cons (pe_fld (pv 0) rfl) pa_nil)))
      (pss_cons (my_fld (pv 1) (pe_callTy my_listOf (by rfl) T.z_list (by decide +kernel) (pa_cons (pe_fld (pv 0) rfl) pa_nil)))
      (pss_cons (my_fld (pv 1) (pe_fld (pv 0) rfl))
      (pss_cons (my_fld (pv 1) (pe_fld (pv 0) rfl))
      (pss_cons (my_fld (pv 1) (pe_fld (pv 0) rfl))
      (pss_one (ps_ret (pv 1))))))))))))))), ?_⟩
    walk_at "rd"
    refine st_make w fun p dx H1 w1 => ?_
    refine of_Player_init ⟨p, dx, sh, s.ov, 0, _, rfl, w1.now, fun _ H2 b eb w2 => ?_, fun z => absurd ⟨hov, by decide, by decide⟩ z⟩
    subst eb
    have w3 : W H H2 (plL A b sh (pl0 s.ov 0) .non [] ++ (plL A a sh s ov rs ++ R)) := w1.tr w2
    clear w1 w2
    have w3b : W H H2 ((b.p, .ins A.c_Player b.dx (fl_Player sh (.int s.ov) (.ref b.o.o) (.int 0) .non (.int 0) .non (.ref b.so) (.ref b.pa) (.ref b.ro) (.bl false) (.bl false) .non)) :: (plL A a sh s ov rs ++ R)) := w3.pick 10 [0]
    clear w3
    walk_at "rd"
    refine st_call (of_Order_twin ⟨a.o, s.o, _, rfl, (w3b.rot 5 6).now, ok, fun H3 o' w4 => ?_⟩)
    have w5 : W H H3 ((b.p, .ins A.c_Player b.dx (fl_Player sh (.int s.ov) (.ref b.o.o) (.int 0) .non (.int 0) .non (.ref b.so) (.ref b.pa) (.ref b.ro) (.bl false) (.bl false) .non)) :: (orL A o' s.o ++ (plL A a sh s ov rs ++ R))) := (w3b.tr w4).pick 17 [12, 0, 1, 2, 3, 4, 5, 13, 14, 15, 16, 6, 7, 8, 9, 10, 11]
    clear w4 w3b
    walk_at "rd"
    refine sf_Player_order T w5 0 rfl fun H4 w6 => ?_
    walk_at "rd"
    refine sf_Player_time T w6 0 rfl fun H5 w7 => ?_
    walk_at "rd"
    refine sf_Player_now T w7 0 rfl fun H6 w8 => ?_
    walk_at "rd"
    refine sf_Player_spot T w8 0 rfl fun H7 w9 => ?_
    walk_at "rd"
    refine sf_Player_old T w9 0 rfl fun H8 w10 => ?_
    replace w10 : W H H8 ((b.p, .ins A.c_Player b.dx (fl_Player sh (.int s.ov) (.ref o'.o) (.int s.time) (oV s.now) (.int s.spot) ov (.ref b.so) (.ref b.pa) (.ref b.ro) (.bl false) (.bl false) .non)) :: (orL A o' s.o ++ (plL A a sh s ov rs ++ R))) := w10
    clear w9 w8 w7 w6 w5
    walk_at "rd"
    refine st_new w10 fun so H9 w11 => ?_
    walk_at "rd"
    refine sf_Player_soon T w11 1 rfl fun H10 w12 => ?_
    walk_at "rd"
    refine st_new w12 fun pa H11 w13 => ?_
    walk_at "rd"
    refine sf_Player_past T w13 2 rfl fun H12 w14 => ?_
    walk_at "rd"
    refine st_new w14 fun ro H13 w15 => ?_
    walk_at "rd"
    refine sf_Player_rows T w15 3 rfl fun H14 w16 => ?_
    replace w16 : W H H14 ((ro, .lst rs) :: (pa, .lst (s.past.map V.int)) :: (so, .lst (s.soon.map V.int)) :: (b.p, .ins A.c_Player b.dx (fl_Player sh (.int s.ov) (.ref o'.o) (.int s.time) (oV s.now) (.int s.spot) ov (.ref so) (.ref pa) (.ref ro) (.bl false) (.bl false) .non)) :: (orL A o' s.o ++ (plL A a sh s ov rs ++ R))) := w16
    clear w15 w14 w13 w12 w11 w10
    walk_at "rd"
    refine sf_Player_is_playing T w16 3 rfl fun H15 w17 => ?_
    walk_at "rd"
    refine sf_Player_stops T w17 3 rfl fun H16 w18 => ?_
    walk_at "rd"
    refine sf_Player_sleep_left T w18 3 rfl fun H17 w19 => ?_
    replace w19 : W H H17 ((ro, .lst rs) :: (pa, .lst (s.past.map V.int)) :: (so, .lst (s.soon.map V.int)) :: (b.p, .ins A.c_Player b.dx (fl_Player sh (.int s.ov) (.ref o'.o) (.int s.time) (oV s.now) (.int s.spot) ov (.ref so) (.ref pa) (.ref ro) (.bl s.plays) (.bl s.stops) (oV s.sleep))) :: (orL A o' s.o ++ (plL A a sh s ov rs ++ R))) := w19
    clear w18 w17 w16
    walk_at "rd"
    exact k H17 ⟨b.p, b.dx, so, pa, ro, o'⟩ (w19.pick 10 [3, 2, 1, 0, 4, 5, 6, 7, 8, 9])
end
end TR

namespace TR
open PySem L2
section
variable {P : Program} {w : World} {K : PySem.W.Frag} {mg : Str → Option Value} {base : Heap} {A : Ads}
theorem ok_Player_begin (T : Txt K mg A) : FnOk P w K mg base (L2.CX P w) 4 A.f_Player_begin A.d_Player_begin P_Player_begin (sp_Player_begin A) := by
  refine T.F_Player_begin.okX sc_Player_begin (fun vs H Q E h => ?_) (fun cdv Ar outer s H vs Q E hr h => ?_)
  · unfold sp_Player_begin at h; obtain ⟨a, b, f, s, e, j, R, rfl, _⟩ := h; rfl
  · unfold sp_Player_begin at h; obtain ⟨a, b, f, s, e, j, R, rfl, ⟨ov, rs, w, fa⟩, ok, hz, hj, k⟩ := h
    refine ⟨_, (pss_cons (my_fld (pv 0) (my_ifExp (pt_val (pv 2)) (my_tup (pa_cons (pe_fld (pv 0) rfl) (pa_cons (pe_fld (pv 0) rfl) (pa_cons (pe_op op_sub (my_meth (pv 0) T.c_Player T.m_Player_long (ok_Player_long T) (hr.mono (by decide)) T.b_Player_long passE (pa_cons (pe_fld (pv 0) rfl) pa_nil)) (pe_fld (pv 0) rfl)) pa_nil)))) pe_non))
      (pss_cons (my_fld (pv 0) (pv 1))
      (pss_cons (my_fld (pv 0) pe_int)
      (pss_one (my_if (pt_cmpR op_notN (pv 1) pe_non (nomark _))
        (pss_cons (ps_expr (my_meth (pe_fld (pv 0) rfl) T.c_Order T.m_Order_began (ok_Order_began T) (hr.mono (by decide)) T.b_Order_began passE (pa_cons (pv 1) pa_nil)))
      (pss_one (ps_expr (pe_bm PySem.F.plainAttrs_list PySem.F.slot_list_append PySem.F.type_list_append my_append (pe_fld (pv 0) rfl) (pa_cons (my_tup (pa_cons (pe_fld (pv 0) rfl) (pa_cons (pv 1) pa_nil))) pa_nil)))))
        pss_nil))))), ?_⟩
    have hrl := fa.rows.len
    obtain ⟨pov, o, time, now, spot, old, soon, past, rows, plays, stops, sleep⟩ := s
    have ok : o.Ok := ok
    have hz : rows.length ≤ 50000 := hz
    have hrl : rs.length = rows.length := hrl
    cases j with
    | true =>
      obtain ⟨n, hn, kn⟩ := hj rfl
      have hn : now = some n := hn
      subst hn
      have kn : Kn f o n := kn
      walk_at "rd"
      refine xIf_T rfl ?_
      walk_at "rd"
      refine st_call (of_Player_long ⟨a, b, f, _, ov, rs, n, R, rfl, w, kn, ?_⟩)
      walk_at "rd"
      refine st_new w fun t H1 w1 => ?_
      walk_at "rd"
      refine sf_Player_old T w1 1 rfl fun H2 w2 => ?_
      obtain ⟨ov', eov, ho2⟩ : ∃ ov' : V, V.ref t = ov' ∧ OldAt H2 ov' (oldJ f ⟨pov, o, time, some n, spot, old, soon, past, rows, plays, stops, sleep⟩ true) := ⟨.ref t, rfl, t, rfl, w2.get 0 rfl⟩
      rw [eov] at w2
      replace w2 : W H H2 (plL A a (.ref b.q) ⟨pov, o, time, some n, spot, oldJ f ⟨pov, o, time, some n, spot, old, soon, past, rows, plays, stops, sleep⟩ true, soon, past, rows, plays, stops, sleep⟩ ov' rs ++ (sL A b f ++ R)) := w2.drop1
      have hr2 : RowsAt H2 rs rows := fa.rows.mono w2.tp
      have w3 := w2.now
      walk_at "rd"
      refine sf_Player_now T w3 0 rfl fun H3 w4 => ?_
      walk_at "rd"
      refine sf_Player_spot T w4 0 rfl fun H4 w5 => ?_
      walk_at "rd"
      cases e with
      | none =>
        refine xIf_F rfl ?_
        exact k H4 (PlW.tr w2 ⟨ov', rs, w5, ho2.mono w5.tp, hr2.mono w5.tp⟩)
      | some x =>
        refine xIf_T rfl ?_
        walk_at "rd"
        refine st_call (of_Order_began ⟨a.o, o, x, _, rfl, (w5.rot 4 6).now, ok, fun H5 w6 => ?_⟩)
        have w7 := (w5.tr w6).rot 6 4
        clear w6
        walk_at "rd"
        refine st_new w7 fun u H6 w8 => ?_
        refine st_app w8 4 rfl (by rw [hrl]; exact szL (by omega)) fun H7 w9 => ?_
        exact k H7 (PlW.tr w2 ⟨ov', rs ++ [V.ref u], w9.drop1, ho2.mono w9.tp, (hr2.mono w9.tp).snoc ⟨u, rfl, w9.get 0 rfl⟩⟩)
    | false =>
      walk_at "rd"
      refine xIf_F rfl ?_
      walk_at "rd"
      refine sf_Player_old T w 0 rfl fun H2 w2 => ?_
      replace w2 : W H H2 (plL A a (.ref b.q) ⟨pov, o, time, now, spot, none, soon, past, rows, plays, stops, sleep⟩ .non rs ++ (sL A b f ++ R)) := w2
      have hr2 : RowsAt H2 rs rows := fa.rows.mono w2.tp
      have w3 := w2.now
      walk_at "rd"
      refine sf_Player_now T w3 0 rfl fun H3 w4 => ?_
      walk_at "rd"
      refine sf_Player_spot T w4 0 rfl fun H4 w5 => ?_
      walk_at "rd"
      cases e with
      | none =>
        refine xIf_F rfl ?_
        exact k H4 (PlW.tr w2 ⟨.non, rs, w5, rfl, hr2.mono w5.tp⟩)
      | some x =>
        refine xIf_T rfl ?_
        walk_at "rd"
        refine st_call (of_Order_began ⟨a.o, o, x, _, rfl, (w5.rot 4 6).now, ok, fun H5 w6 => ?_⟩)
        have w7 := (w5.tr w6).rot 6 4
        clear w6
        walk_at "rd"
        refine st_new w7 fun u H6 w8 => ?_
        refine st_app w8 4 rfl (by rw [hrl]; exact szL (by omega)) fun H7 w9 => ?_
        exact k H7 (PlW.tr w2 ⟨.non, rs ++ [V.ref u], w9.drop1, rfl, (hr2.mono w9.tp).snoc ⟨u, rfl, w9.get 0 rfl⟩⟩)
end
end TR

namespace TR
open PySem L2
section
variable {P : Program} {w : World} {K : PySem.W.Frag} {mg : Str → Option Value} {base : Heap} {A : Ads}
theorem ok_Player_play (T : Txt K mg A) : FnOk P w K mg base (L2.CX P w) 5 A.f_Player_play A.d_Player_play P_Player_play (sp_Player_play A) := by
  refine T.F_Player_play.okX sc_Player_play (fun vs H Q E h => ?_) (fun cdv Ar outer s H vs Q E hr h => ?_)
  · unfold sp_Player_play at h; obtain ⟨a, b, f, s, e, R, rfl, _⟩ := h; rfl
  · unfold sp_Player_play at h; obtain ⟨a, b, f, s, e, R, rfl, ⟨ov, rs, w, fa⟩, ok, hz, k1, k2⟩ := h
    refine ⟨_, (pss_cons (ps_expr (my_meth (pe_fld (pe_fld (pv 0) rfl) rfl) T.c_Queue T.m_Queue_need (ok_Queue_need T) (hr.mono (by decide)) T.b_Queue_need passE (pa_cons (pv 1) pa_nil)))
      (pss_cons (my_if (pt_cmpR op_notN (pe_fld (pv 0) rfl) pe_non (nomark _))
        (pss_one (ps_expr (pe_bm PySem.F.plainAttrs_list PySem.F.slot_list_append PySem.F.type_list_append my_append (pe_fld (pv 0) rfl) (pa_cons (pe_fld (pv 0) rfl) pa_nil))))
        pss_nil)
      (pss_cons (ps_expr (my_meth (pv 0) T.c_Player T.m_Player_begin (ok_Player_begin T) (hr.mono (by decide)) T.b_Player_begin passE (pa_cons (pv 1) (pa_cons pe_bl pa_nil))))
      (pss_one (my_fld (pv 0) pe_bl))))), ?_⟩
    walk_at "rd"
    refine st_call (of_Queue_need ⟨a.o.q, s.o.q, e, _, rfl, (w.rot 5 3).now, fun he => ?_, k2⟩)
    have k1 := k1 he
    unfold playP at k1
    have hzr := hz.r
    have hzp := hz.p
    obtain ⟨pov, o, time, now, spot, old, soon, past, rows, plays, stops, sleep⟩ := s
    have ok : o.Ok := ok
    walk_at "rd"
    cases now with
    | none =>
      refine xIf_F rfl ?_
      walk_at "rd"
      refine st_call (of_Player_begin ⟨a, b, f, _, some e, false, R, rfl, ⟨ov, rs, w, fa⟩, ok, hzr, (fun z => nomatch z), fun H2 pw => ?_⟩)
      obtain ⟨ov2, rs2, w2, fa2⟩ := pw
      have w3 := w2.now
      walk_at "rd"
      exact sf_Player_is_playing T w3 0 rfl fun H3 w4 => k1 H3 (PlW.tr w2 ⟨ov2, rs2, w4, fa2.old.mono w4.tp, fa2.rows.mono w4.tp⟩)
    | some n =>
      refine xIf_T rfl ?_
      walk_at "rd"
      refine st_app w 2 rfl (by rw [List.length_map]; exact szL (by omega)) fun H1 w1 => ?_
      have e1 : past.map V.int ++ [V.int n] = (past ++ [n]).map V.int := by rw [List.map_append]; rfl
      rw [show past.map V.int ++ [oV (some n)] = (past ++ [n]).map V.int from e1] at w1
      walk_at "rd"
      refine st_call (of_Player_begin ⟨a, b, f, pushN ⟨pov, o, time, some n, spot, old, soon, past, rows, plays, stops, sleep⟩, some e, false, R, rfl, ⟨ov, rs, w1.now, fa.old.mono w1.tp, fa.rows.mono w1.tp⟩, ok, hzr, (fun z => nomatch z), fun H2 pw => ?_⟩)
      obtain ⟨ov2, rs2, w2, fa2⟩ := pw
      have w3 := w2.now
      walk_at "rd"
      exact sf_Player_is_playing T w3 0 rfl fun H3 w4 => k1 H3 (PlW.tr (w1.tr w2) ⟨ov2, rs2, w4, fa2.old.mono w4.tp, fa2.rows.mono w4.tp⟩)
theorem ok_Player_resume (T : Txt K mg A) : FnOk P w K mg base (L2.CX P w) 5 A.f_Player_resume A.d_Player_resume P_Player_resume (sp_Player_resume A) := by
  refine T.F_Player_resume.okX sc_Player_resume (fun vs H Q E h => ?_) (fun cdv Ar outer s H vs Q E hr h => ?_)
  · unfold sp_Player_resume at h; obtain ⟨a, b, f, s, R, rfl, _⟩ := h; rfl
  · unfold sp_Player_resume at h; obtain ⟨a, b, f, s, R, rfl, ⟨ov, rs, w, fa⟩, ok, hz, k⟩ := h
    refine ⟨_, (pss_cons (my_if (pt_cmpR op_isN (pe_fld (pv 0) rfl) pe_non (nomark _))
        (pss_cons (ps_set (i := 1) sc_Player_resume.nd rfl (by first | exact Or.inl rfl | exact Or.inr rfl) (my_ifExp (pt_truth (pe_fld (pv 0) rfl) (by intro _; rfl)) (pe_bm PySem.F.plainAttrs_list PySem.F.slot_list_pop PySem.F.type_list_pop my_popAt (pe_fld (pv 0) rfl) (pa_cons pe_int pa_nil)) (my_meth0 (pe_fld (pv 0) rfl) T.c_Order T.m_Order_first (ok_Order_first T) (hr.mono (by decide)) T.b_Order_first passE)))
      (pss_one (my_if (pt_cmpR op_notN (pv 1) pe_non (nomark _))
        (pss_one (ps_expr (my_meth (pv 0) T.c_Player T.m_Player_begin (ok_Player_begin T) (hr.mono (by decide)) T.b_Player_begin passE (pa_cons (pv 1) (pa_cons pe_bl pa_nil)))))
        pss_nil)))
        pss_nil)
      (pss_one (my_fld (pv 0) (pe_cmpR op_notN (pe_fld (pv 0) rfl) pe_non (nomark _))))), ?_⟩
    have hzr := hz.r
    obtain ⟨pov, o, time, now, spot, old, soon, past, rows, plays, stops, sleep⟩ := s
    have ok : o.Ok := ok
    unfold resumeP at k
    cases now with
    | some n =>
      walk_at "rd"
      refine xIf_F rfl ?_
      walk_at "rd"
      exact sf_Player_is_playing T w 0 rfl fun H1 w1 => k H1 a rfl ⟨ov, rs, w1, fa.old.mono w1.tp, fa.rows.mono w1.tp⟩
    | none =>
      walk_at "rd"
      refine xIf_T rfl ?_
      walk_at "rd"
      cases soon with
      | cons x r =>
        refine xIf_T rfl ?_
        walk_at "rd"
        refine st_pop0 w 1 rfl fun H1 w1 => ?_
        walk_at "rd"
        refine xIf_T rfl ?_
        walk_at "rd"
        refine st_call (of_Player_begin ⟨a, b, f, ⟨pov, o, time, none, spot, old, r, past, rows, plays, stops, sleep⟩, some x, false, R, rfl, ⟨ov, rs, w1.now, fa.old.mono w1.tp, fa.rows.mono w1.tp⟩, ok, hzr, (fun z => nomatch z), fun H2 pw => ?_⟩)
        obtain ⟨ov2, rs2, w2, fa2⟩ := pw
        have w3 := w2.now
        walk_at "rd"
        exact sf_Player_is_playing T w3 0 rfl fun H3 w4 => k H3 a rfl (PlW.tr (w1.tr w2) ⟨ov2, rs2, w4, fa2.old.mono w4.tp, fa2.rows.mono w4.tp⟩)
      | nil =>
        refine xIf_F rfl ?_
        walk_at "rd"
        refine st_call (of_Order_first ⟨a.o, o, _, rfl, (w.rot 4 6).now, ok, fun H1 k' w1 => ?_⟩)
        have w2 := (w.tr w1).rot 6 4
        clear w1
        cases hv : firstV o with
        | none =>
          rw [hv] at k
          walk_at "rd"
          refine xIf_F rfl ?_
          walk_at "rd"
          exact sf_Player_is_playing T w2 0 rfl fun H3 w4 => k H3 { a with o := { a.o with k := k' } } rfl ⟨ov, rs, w4, fa.old.mono w4.tp, fa.rows.mono w4.tp⟩
        | some x =>
          rw [hv] at k
          walk_at "rd"
          refine xIf_T rfl ?_
          walk_at "rd"
          refine st_call (of_Player_begin ⟨{ a with o := { a.o with k := k' } }, b, f, ⟨pov, firstS o, time, none, spot, old, [], past, rows, plays, stops, sleep⟩, some x, false, R, rfl, ⟨ov, rs, w2.now, fa.old.mono w2.tp, fa.rows.mono w2.tp⟩, ok.first, hzr, (fun z => nomatch z), fun H2 pw => ?_⟩)
          obtain ⟨ov2, rs2, w3, fa2⟩ := pw
          have w4 := w3.now
          walk_at "rd"
          exact sf_Player_is_playing T w4 0 rfl fun H3 w5 => k H3 { a with o := { a.o with k := k' } } rfl (PlW.tr (w2.tr w3) ⟨ov2, rs2, w5, fa2.old.mono w5.tp, fa2.rows.mono w5.tp⟩)
theorem ok_Player_skip (T : Txt K mg A) : FnOk P w K mg base (L2.CX P w) 7 A.f_Player_skip A.d_Player_skip P_Player_skip (sp_Player_skip A) := by
  refine T.F_Player_skip.okX sc_Player_skip (fun vs H Q E h => ?_) (fun cdv Ar outer s H vs Q E hr h => ?_)
  · unfold sp_Player_skip at h; obtain ⟨a, b, f, s, R, rfl, _⟩ := h; rfl
  · unfold sp_Player_skip at h; obtain ⟨a, b, f, s, R, rfl, ⟨ov, rs, w, fa⟩, ok, hz, k⟩ := h
    refine ⟨_, (pss_cons (ps_set (i := 1) sc_Player_skip.nd rfl (by first | exact Or.inl rfl | exact Or.inr rfl) (my_meth (pv 0) T.c_Player T.m_Player_next_entry (ok_Player_next_entry T) (hr.mono (by decide)) T.b_Player_next_entry passE (pa_cons pe_bl pa_nil)))
      (pss_cons (my_if (pt_cmpR op_notN (pe_fld (pv 0) rfl) pe_non (nomark _))
        (pss_one (ps_expr (pe_bm PySem.F.plainAttrs_list PySem.F.slot_list_append PySem.F.type_list_append my_append (pe_fld (pv 0) rfl) (pa_cons (pe_fld (pv 0) rfl) pa_nil))))
        pss_nil)
      (pss_cons (ps_expr (my_meth (pv 0) T.c_Player T.m_Player_begin (ok_Player_begin T) (hr.mono (by decide)) T.b_Player_begin passE (pa_cons (pv 1) (pa_cons pe_bl pa_nil))))
      (pss_one (my_fld (pv 0) (my_andV (pe_fld (pv 0) rfl) (pe_one (pe_cmpR op_notN (pv 1) pe_non (nomark _))))))))), ?_⟩
    have hzr := hz.r
    have hzp := hz.p
    walk_at "rd"
    refine st_call (of_Player_next_entry ⟨a, .ref b.q, s, ov, rs, true, _, rfl, w, ok, fun H1 k' w1 => ?_⟩)
    unfold skipP at k
    have ok1 := nextS_ok ok true
    obtain ⟨o1, so1, e1⟩ : ∃ o1 so1, nextS s true = { s with o := o1, soon := so1 } := ⟨_, _, nextS_same s true⟩
    rw [e1] at w1 k ok1
    generalize nextV s true = nv at *
    obtain ⟨pov, o, time, now, spot, old, soon, past, rows, plays, stops, sleep⟩ := s
    have ok1 : o1.Ok := ok1
    have hzp : past.length ≤ 50000 := hzp
    walk_at "rd"
    rcases now with _ | n
    case' none =>
      refine xIf_F rfl ?_
      obtain ⟨s2, es2, H2, eH, w2⟩ : ∃ s2, s2 = pushN ⟨pov, o1, time, none, spot, old, so1, past, rows, plays, stops, sleep⟩ ∧ ∃ H2, H2 = H1 ∧ W H H2 (plL A { a with o := { a.o with k := k' } } (.ref b.q) s2 ov rs ++ (sL A b f ++ R)) := ⟨_, rfl, H1, rfl, w1⟩
      rw [← eH]
      have hs2 : s2.o = o1 ∧ s2.rows = rows ∧ s2.old = old ∧ s2.plays = plays := by rw [es2]; exact ⟨rfl, rfl, rfl, rfl⟩
    case' some =>
      refine xIf_T rfl ?_
      walk_at "rd"
      refine st_app w1 2 rfl (by show (past.map V.int).length < sizeLine; rw [List.length_map]; exact szL (by omega)) fun H2 w2' => ?_
      rw [show past.map V.int ++ [oV (some n)] = (past ++ [n]).map V.int from by rw [List.map_append]; rfl] at w2'
      obtain ⟨s2, es2, w2⟩ : ∃ s2, s2 = pushN ⟨pov, o1, time, some n, spot, old, so1, past, rows, plays, stops, sleep⟩ ∧ W H H2 (plL A { a with o := { a.o with k := k' } } (.ref b.q) s2 ov rs ++ (sL A b f ++ R)) := ⟨_, rfl, w2'⟩
      clear w2'
      have hs2 : s2.o = o1 ∧ s2.rows = rows ∧ s2.old = old ∧ s2.plays = plays := by rw [es2]; exact ⟨rfl, rfl, rfl, rfl⟩
    all_goals
      replace k : ∀ H' a', a'.p = a.p → PlW A H H' a' (.ref b.q) { beginP f s2 nv false with plays := plays && nv.isSome } (sL A b f ++ R) → Q .non H' := by rw [es2]; exact k
      walk_at "rd"
      refine st_call (of_Player_begin ⟨{ a with o := { a.o with k := k' } }, b, f, s2, nv, false, R, rfl, ⟨ov, rs, w2.now, by rw [hs2.2.2.1]; exact fa.old.mono w2.tp, by rw [hs2.2.1]; exact fa.rows.mono w2.tp⟩, by rw [hs2.1]; exact ok1, by rw [hs2.2.1]; exact hzr, (fun z => nomatch z), fun H3 pw => ?_⟩)
      obtain ⟨ov2, rs2, w3, fa2⟩ := pw
      have w4 := w3.now
      have ep : (beginP f s2 nv false).plays = plays := by rw [beginP_plays]; exact hs2.2.2.2
      generalize beginP f s2 nv false = s3 at *
      walk_at "rd"
      refine xIf_2 (fun h => ?_) (fun h => ?_)
      · have h : s3.plays = true := h
        cases nv with
        | none =>
          walk_at "rd"
          refine sf_Player_is_playing T w4 0 rfl fun H4 w5 => k H4 { a with o := { a.o with k := k' } } rfl ?_
          rw [Option.isSome_none, Bool.and_false]
          exact PlW.tr (w2.tr w3) ⟨ov2, rs2, w5, fa2.old.mono w5.tp, fa2.rows.mono w5.tp⟩
        | some x =>
          walk_at "rd"
          refine sf_Player_is_playing T w4 0 rfl fun H4 w5 => k H4 { a with o := { a.o with k := k' } } rfl ?_
          rw [Option.isSome_some, Bool.and_true, ← ep, h]
          exact PlW.tr (w2.tr w3) ⟨ov2, rs2, w5, fa2.old.mono w5.tp, fa2.rows.mono w5.tp⟩
      · have h : s3.plays = false := h
        walk_at "rd"
        refine sf_Player_is_playing T w4 0 rfl fun H4 w5 => k H4 { a with o := { a.o with k := k' } } rfl ?_
        rw [← ep, h, Bool.false_and]
        exact PlW.tr (w2.tr w3) ⟨ov2, rs2, w5, fa2.old.mono w5.tp, fa2.rows.mono w5.tp⟩
end
end TR

namespace TR
open PySem L2
section
variable {P : Program} {w : World} {K : PySem.W.Frag} {mg : Str → Option Value} {base : Heap} {A : Ads}
theorem ok_Player_seek (T : Txt K mg A) : FnOk P w K mg base (L2.CX P w) 4 A.f_Player_seek A.d_Player_seek P_Player_seek (sp_Player_seek A) := by
  refine T.F_Player_seek.okX sc_Player_seek (fun vs H Q E h => ?_) (fun cdv Ar outer s H vs Q E hr h => ?_)
  · unfold sp_Player_seek at h; obtain ⟨a, b, f, s, ov, rs, x, R, rfl, _⟩ := h; rfl
  · unfold sp_Player_seek at h; obtain ⟨a, b, f, s, ov, rs, x, R, rfl, w, kn, k1, k2, k3⟩ := h
    refine ⟨_, (pss_cons (my_if (pt_cmpR op_isN (pe_fld (pv 0) rfl) pe_non (nomark _))
        (pss_one (ps_raise rfl takesE (pmk_own PySem.F.excBase_ValueError T.x_BadEntry T.g_BadEntry T.k_BadEntry (raises_own T.r_BadEntry T.t_BadEntry) (by rfl))))
        pss_nil)
      (pss_cons (my_if (pt_not (my_chainT op_le op_lt pe_int (pv 1) (my_meth (pv 0) T.c_Player T.m_Player_long (ok_Player_long T) (hr.mono (by decide)) T.b_Player_long passE (pa_cons (pe_fld (pv 0) rfl) pa_nil))))
        (pss_one (ps_raise rfl takesE (pmk_own PySem.F.excBase_ValueError T.x_BadNumber T.g_BadNumber T.k_BadNumber (raises_own T.r_BadNumber T.t_BadNumber) (by rfl))))
        pss_nil)
      (pss_cons (my_fld (pv 0) (pv 1))
      (pss_one (my_fld (pv 0) pe_non))))), ?_⟩
    obtain ⟨pov, o, time, now, spot, old, soon, past, rows, plays, stops, sleep⟩ := s
    cases now with
    | none =>
      walk_at "rd"
      exact xIf_T rfl (k2 rfl)
    | some n =>
      have kn := kn n rfl
      have k1 := k1 n rfl
      have k3 := k3 n rfl
      walk_at "rd"
      refine xIf_F rfl ?_
      walk_at "rd"
      by_cases h0 : 0 ≤ x
      · refine xIf_T (decide_eq_true h0) ?_
        walk_at "rd"
        refine st_call (of_Player_long ⟨a, b, f, _, ov, rs, n, R, rfl, w, kn, ?_⟩)
        walk_at "rd"
        by_cases h1 : x < longO f o n
        · refine xIf_F (by rw [decide_eq_true h1]; rfl) ?_
          walk_at "rd"
          refine sf_Player_spot T w 0 rfl fun H1 w1 => ?_
          walk_at "rd"
          exact sf_Player_old T w1 0 rfl fun H2 w2 => k1 ⟨h0, h1⟩ H2 w2
        · exact xIf_T (by rw [decide_eq_false h1]; rfl) (k3 fun z => h1 z.2)
      · refine xIf_F (decide_eq_false h0) ?_
        walk_at "rd"
        exact xIf_T rfl (k3 fun z => h0 z.1)
end
end TR

namespace TR
open PySem L2
theorem Kn.q {f : Sf} {o o' : Or} {e : Int} (h : Kn f o e) (hq : o'.q = o.q) : Kn f o' e := by
  have hl := longO_q (f := f) hq e
  exact ⟨has_q hq h.has, by rw [hl, hq]; exact h.lk, by rw [hl]; exact h.lo, by rw [hl]; exact h.hi⟩
theorem turnP_far {f : Sf} {s : Pl} (ok : s.OkB f 1) {n : Int} (hn : s.now = some n) (h : ¬ longO f s.o n - mn2 s.ov (longO f s.o n / 2) ≤ s.spot) : turnP f s = if longO f s.o n ≤ s.spot then endP f s n else s := by
  have kn := ok.tn.kn (ok.nw n hn).1
  have hm : 0 ≤ mn2 s.ov (longO f s.o n / 2) := mn2_ge ok.ov.1 (by have := kn.lo; omega)
  rw [if_neg (by omega)]
  unfold turnP
  rw [hn]
  simp only
  split
  · rename_i x hx
    have hj := (mn2_le (mn2 s.ov (longO f s.o n / 2)) (longO f s.o x / 2)).1
    exact if_neg (by unfold joinL; omega)
  · exact if_neg (by omega)
theorem turnP_none {f : Sf} {s : Pl} {n : Int} (hn : s.now = some n) (h : foundP s = none) : turnP f s = if longO f s.o n ≤ s.spot then endP f s n else s := by
  unfold turnP
  rw [hn, h]
theorem turnP_some {f : Sf} {s : Pl} {n x : Int} (hn : s.now = some n) (h : foundP s = some x) : turnP f s = if longO f s.o n - joinL f s n x ≤ s.spot then goOn f s n x else s := by
  unfold turnP
  rw [hn, h]
@[irreducible] def sp_Player_turn_over (A : Ads) : Sp := fun vs H Q _ => ∃ (a : PA) (b : SA) (f : Sf) (s : Pl) (n : Int) (R : List Ent), vs = [.ref a.p] ∧ PlW A H H a (.ref b.q) s (sL A b f ++ R) ∧ s.OkB f 1 ∧ s.now = some n ∧ Sz s 50000 ∧
  ∀ H' a', a'.p = a.p → PlW A H H' a' (.ref b.q) (turnP f s) (sL A b f ++ R) → Q .non H'
theorem of_Player_turn_over {A : Ads} {vs : List V} {H : Hp} {Q : VK} {E : XK} (h :  ∃ (a : PA) (b : SA) (f : Sf) (s : Pl) (n : Int) (R : List Ent), vs = [.ref a.p] ∧ PlW A H H a (.ref b.q) s (sL A b f ++ R) ∧ s.OkB f 1 ∧ s.now = some n ∧ Sz s 50000 ∧
  ∀ H' a', a'.p = a.p → PlW A H H' a' (.ref b.q) (turnP f s) (sL A b f ++ R) → Q .non H') : sp_Player_turn_over A vs H Q E := by unfold sp_Player_turn_over; exact h
@[irreducible] def sp_Player_step (A : Ads) : Sp := fun vs H Q _ => ∃ (a : PA) (b : SA) (f : Sf) (s : Pl) (R : List Ent), vs = [.ref a.p] ∧ PlW A H H a (.ref b.q) s (sL A b f ++ R) ∧ s.Ok f ∧ s.plays = true ∧ Sz s 50000 ∧
  ∀ H' a', a'.p = a.p → PlW A H H' a' (.ref b.q) (stepP f s) (sL A b f ++ R) → Q .non H'
theorem of_Player_step {A : Ads} {vs : List V} {H : Hp} {Q : VK} {E : XK} (h :  ∃ (a : PA) (b : SA) (f : Sf) (s : Pl) (R : List Ent), vs = [.ref a.p] ∧ PlW A H H a (.ref b.q) s (sL A b f ++ R) ∧ s.Ok f ∧ s.plays = true ∧ Sz s 50000 ∧
  ∀ H' a', a'.p = a.p → PlW A H H' a' (.ref b.q) (stepP f s) (sL A b f ++ R) → Q .non H') : sp_Player_step A vs H Q E := by unfold sp_Player_step; exact h
section
variable {P : Program} {w : World} {K : PySem.W.Frag} {mg : Str → Option Value} {base : Heap} {A : Ads}
theorem ok_Player_turn_over (T : Txt K mg A) : FnOk P w K mg base (L2.CX P w) 8 A.f_Player_turn_over A.d_Player_turn_over P_Player_turn_over (sp_Player_turn_over A) := by
  refine T.F_Player_turn_over.okX sc_Player_turn_over (fun vs H Q E h => ?_) (fun cdv Ar outer s H vs Q E hr h => ?_)
  · unfold sp_Player_turn_over at h; obtain ⟨a, b, f, s, n, R, rfl, _⟩ := h; rfl
  · unfold sp_Player_turn_over at h; obtain ⟨a, b, f, s, n, R, rfl, ⟨ov, rs, w, fa⟩, ok, hn, hz, k⟩ := h
    refine ⟨_, (pss_cons (ps_set (i := 1) sc_Player_turn_over.nd rfl (by first | exact Or.inl rfl | exact Or.inr rfl) (my_meth (pv 0) T.c_Player T.m_Player_long (ok_Player_long T) (hr.mono (by decide)) T.b_Player_long passE (pa_cons (pe_fld (pv 0) rfl) pa_nil)))
      (pss_cons (ps_set (i := 2) sc_Player_turn_over.nd rfl (by first | exact Or.inl rfl | exact Or.inr rfl) pe_non)
      (pss_cons (my_if (PW.pt (my_and (pt_not (pt_val (pe_fld (pv 0) rfl))) (pw_and1 (pt_cmpR op_ge (pe_fld (pv 0) rfl) (pe_op op_sub (pv 1) (pe_callB (call_min2 rfl) (by rfl) T.z_min (by decide +kernel) (pa_cons (pe_fld (pv 0) rfl) (pa_cons (pe_op op_fdiv (pv 1) pe_int) pa_nil)))) (nomark _)))))
        (pss_one (ps_set (i := 2) sc_Player_turn_over.nd rfl (by first | exact Or.inl rfl | exact Or.inr rfl) (my_meth (my_meth0 (pv 0) T.c_Player T.m_Player_twin (ok_Player_twin T) (hr.mono (by decide)) T.b_Player_twin passE) T.c_Player T.m_Player_next_entry (ok_Player_next_entry T) (hr.mono (by decide)) T.b_Player_next_entry passE (pa_cons pe_bl pa_nil))))
        pss_nil)
      (pss_one (my_if (PW.pt (my_and (pt_cmpR op_notN (pv 2) pe_non (nomark _)) (pw_and1 (pt_cmpR op_ge (pe_fld (pv 0) rfl) (pe_op op_sub (pv 1) (my_meth (pv 0) T.c_Player T.m_Player_join_long (ok_Player_join_long T) (hr.mono (by decide)) T.b_Player_join_long passE (pa_cons (pv 2) pa_nil))) (nomark _)))))
        (pss_cons (ps_expr (my_meth (pv 0) T.c_Player T.m_Player_next_entry (ok_Player_next_entry T) (hr.mono (by decide)) T.b_Player_next_entry passE (pa_cons pe_bl pa_nil)))
      (pss_cons (ps_expr (pe_bm PySem.F.plainAttrs_list PySem.F.slot_list_append PySem.F.type_list_append my_append (pe_fld (pv 0) rfl) (pa_cons (pe_fld (pv 0) rfl) pa_nil)))
      (pss_one (ps_expr (my_meth (pv 0) T.c_Player T.m_Player_begin (ok_Player_begin T) (hr.mono (by decide)) T.b_Player_begin passE (pa_cons (pv 2) (pa_cons (pe_cmpR op_lt (pe_fld (pv 0) rfl) (pv 1) (nomark _)) pa_nil)))))))
        (pss_one (my_if (pt_cmpR op_ge (pe_fld (pv 0) rfl) (pv 1) (nomark _))
        (pss_cons (ps_expr (pe_bm PySem.F.plainAttrs_list PySem.F.slot_list_append PySem.F.type_list_append my_append (pe_fld (pv 0) rfl) (pa_cons (pe_fld (pv 0) rfl) pa_nil)))
      (pss_cons (ps_expr (my_meth (pv 0) T.c_Player T.m_Player_begin (ok_Player_begin T) (hr.mono (by decide)) T.b_Player_begin passE (pa_cons pe_non (pa_cons pe_bl pa_nil))))
      (pss_cons (my_fld (pv 0) pe_bl)
      (pss_one (my_fld (pv 0) pe_bl)))))
        pss_nil))))))), ?_⟩
    have kn := ok.tn.kn (ok.nw n hn).1
    have hzr := hz.r
    have hzp := hz.p
    have eN := turnP_none (f := f) hn
    have eS := fun x => turnP_some (f := f) (x := x) hn
    have eF := turnP_far ok hn
    have hov := ok.ov
    have hfo : s.stops = true → foundP s = none := fun z => by unfold foundP; rw [if_pos z]
    have hfn : s.stops = false → foundP s = nextV s false := fun z => by unfold foundP; rw [if_neg (by rw [z]; exact Bool.false_ne_true)]
    have hnm : ∀ x, nextV s false = some x → Kn f s.o x := fun x hx => ok.tn.kn (ok.o.has (nextV_mem ok.o ok.sn hx))
    have okn := nextS_ok ok.o false
    have hqn := nextS_o s false
    obtain ⟨o1, so1, e1⟩ : ∃ o1 so1, nextS s false = { s with o := o1, soon := so1 } := ⟨_, _, nextS_same s false⟩
    rw [e1] at okn hqn
    have hok := ok.o
    clear ok hz
    obtain ⟨pov, o, time, now, spot, old, soon, past, rows, plays, stops, sleep⟩ := s
    have hn : now = some n := hn
    subst hn
    have kn : Kn f o n := kn
    have hok : o.Ok := hok
    have hov : 0 ≤ pov ∧ pov ≤ 9 := hov
    have hzp : past.length ≤ 50000 := hzp
    have okn : o1.Ok := okn
    have hqn : o1.q = o.q := hqn
    have hlo := kn.lo
    have hhi := kn.hi
    have kn1 : Kn f o1 n := kn.q hqn
    walk_at "rd"
    refine st_call (of_Player_long ⟨a, b, f, _, ov, rs, n, R, rfl, w, kn, ?_⟩)
    walk_at "rd"
    cases stops
    case' true =>
      refine xIf_F rfl ?_
      refine xIf_F rfl ?_
      have eT := eN (hfo rfl)
      obtain ⟨H2, eH2⟩ : ∃ H2, H2 = H := ⟨_, rfl⟩
      have w2 := w
      conv at w2 => arg 2; rw [← eH2]
      rw [← eH2]
    case' false =>
      refine xIf_T rfl ?_
      walk_at "rd"
      by_cases hg : longO f o n - mn2 pov (longO f o n / 2) ≤ spot
      case' neg =>
        refine xIf_F (decide_eq_false hg) ?_
        have eT := eF hg
        obtain ⟨H2, eH2⟩ : ∃ H2, H2 = H := ⟨_, rfl⟩
        have w2 := w
        conv at w2 => arg 2; rw [← eH2]
        rw [← eH2]
      case' pos =>
        refine xIf_T (decide_eq_true hg) ?_
        walk_at "rd"
        refine st_call (of_Player_twin ⟨a, .ref b.q, _, ov, rs, _, rfl, w, hok, hov, fun H1 a1 w1 => ?_⟩)
        walk_at "rd"
        refine st_call (of_Player_next_entry ⟨a1, .ref b.q, _, ov, rs, false, _, rfl, w1.now, hok, fun H2 k' w1b => ?_⟩)
        have w2 : W H H2 (plL A a (.ref b.q) ⟨pov, o, time, some n, spot, old, soon, past, rows, plays, false, sleep⟩ ov rs ++ (sL A b f ++ R)) := (w.tr (w1.tr w1b)).dropL
        clear w1 w1b
        cases hv : nextV ⟨pov, o, time, some n, spot, old, soon, past, rows, plays, false, sleep⟩ false
        case' none =>
          have eT := eN ((hfn rfl).trans hv)
        case some x =>
          have eT := eS x ((hfn rfl).trans hv)
          have kx : Kn f o x := hnm x hv
          walk_at "rd"
          refine xIf_T rfl ?_
          walk_at "rd"
          refine st_call (of_Player_join_long ⟨a, b, f, _, ov, rs, n, x, R, rfl, w2.now, rfl, kn, kx, ?_⟩)
          walk_at "rd"
          by_cases hj : longO f o n - joinL f ⟨pov, o, time, some n, spot, old, soon, past, rows, plays, false, sleep⟩ n x ≤ spot
          · rw [eT, if_pos hj] at k
            refine xIf_T (decide_eq_true hj) ?_
            walk_at "rd"
            refine st_call (of_Player_next_entry ⟨a, .ref b.q, _, ov, rs, false, _, rfl, w2.now, hok, fun H3 k2 w3 => ?_⟩)
            rw [e1] at w3
            have w4 : W H H3 (plL A { a with o := { a.o with k := k2 } } (.ref b.q) ⟨pov, o1, time, some n, spot, old, so1, past, rows, plays, false, sleep⟩ ov rs ++ (sL A b f ++ R)) := w2.tr w3
            clear w3
            walk_at "rd"
            refine st_app w4 2 rfl (by show (past.map V.int).length < sizeLine; rw [List.length_map]; exact szL (by omega)) fun H4 w5 => ?_
            rw [show past.map V.int ++ [oV (some n)] = (past ++ [n]).map V.int from by rw [List.map_append]; rfl] at w5
            walk_at "rd"
            refine st_call (of_Player_begin ⟨{ a with o := { a.o with k := k2 } }, b, f, ⟨pov, o1, time, some n, spot, old, so1, past ++ [n], rows, plays, false, sleep⟩, some x, decide (spot < longO f o n), R, rfl, ⟨ov, rs, w5.now, fa.old.mono w5.tp, fa.rows.mono w5.tp⟩, okn, hzr, (fun _ => ⟨n, rfl, kn1⟩), fun H5 pw => ?_⟩)
            refine k H5 { a with o := { a.o with k := k2 } } rfl ?_
            unfold goOn
            rw [e1]
            exact PlW.tr w5 pw
          · rw [eT, if_neg hj] at k
            refine xIf_F (decide_eq_false hj) ?_
            walk_at "rd"
            have := joinL_nn (f := f) (s := ⟨pov, o, time, some n, spot, old, soon, past, rows, plays, false, sleep⟩) (n := n) (x := x) hov.1 kn.lo kx.lo
            refine xIf_F (decide_eq_false (by show ¬ longO f o n ≤ spot; omega)) ?_
            exact k H2 a rfl ⟨ov, rs, w2, fa.old.mono w2.tp, fa.rows.mono w2.tp⟩
    all_goals
      rw [eT] at k
      walk_at "rd"
      refine xIf_F rfl ?_
      refine xIf_F rfl ?_
      walk_at "rd"
      by_cases hl : longO f o n ≤ spot
      · rw [if_pos hl] at k
        refine xIf_T (decide_eq_true hl) ?_
        walk_at "rd"
        refine st_app w2 2 rfl (by show (past.map V.int).length < sizeLine; rw [List.length_map]; exact szL (by omega)) fun H4 w5 => ?_
        rw [show past.map V.int ++ [oV (some n)] = (past ++ [n]).map V.int from by rw [List.map_append]; rfl] at w5
        walk_at "rd"
        refine st_call (of_Player_begin ⟨a, b, f, ⟨pov, o, time, some n, spot, old, soon, past ++ [n], rows, plays, _, sleep⟩, none, false, R, rfl, ⟨ov, rs, w5.now, fa.old.mono w5.tp, fa.rows.mono w5.tp⟩, hok, hzr, (fun z => nomatch z), fun H5 pw => ?_⟩)
        obtain ⟨ov2, rs2, w6, fa2⟩ := pw
        have w7 := w6.now
        walk_at "rd"
        refine sf_Player_is_playing T w7 0 rfl fun H6 w8 => ?_
        walk_at "rd"
        refine sf_Player_stops T w8 0 rfl fun H7 w9 => ?_
        exact k H7 a rfl (PlW.tr (w5.tr w6) ⟨ov2, rs2, w9, fa2.old.mono w9.tp, fa2.rows.mono w9.tp⟩)
      · rw [if_neg hl] at k
        refine xIf_F (decide_eq_false hl) ?_
        exact k _ a rfl ⟨ov, rs, w2, fa.old.mono w2.tp, fa.rows.mono w2.tp⟩
theorem ok_Player_step (T : Txt K mg A) : FnOk P w K mg base (L2.CX P w) 9 A.f_Player_step A.d_Player_step P_Player_step (sp_Player_step A) := by
  refine T.F_Player_step.okX sc_Player_step (fun vs H Q E h => ?_) (fun cdv Ar outer s H vs Q E hr h => ?_)
  · unfold sp_Player_step at h; obtain ⟨a, b, f, s, R, rfl, _⟩ := h; rfl
  · unfold sp_Player_step at h; obtain ⟨a, b, f, s, R, rfl, ⟨ov, rs, w, fa⟩, ok, hp, hz, k⟩ := h
    refine ⟨_, (pss_cons (my_fld (pv 0) (pe_op op_add (pe_fld (pv 0) rfl) pe_int))
      (pss_cons (my_fld (pv 0) (pe_op op_add (pe_fld (pv 0) rfl) pe_int))
      (pss_cons (my_if (pt_cmpR op_notN (pe_fld (pv 0) rfl) pe_non (nomark _))
        (pss_cons (ps_asg (pe_fld (pv 0) rfl) (pg_tup rfl (pgs_cons (pg_name (i := 1) sc_Player_step.nd rfl (by first | exact Or.inl rfl | exact Or.inr rfl)) (pgs_cons (pg_name (i := 2) sc_Player_step.nd rfl (by first | exact Or.inl rfl | exact Or.inr rfl)) (pgs_cons (pg_name (i := 3) sc_Player_step.nd rfl (by first | exact Or.inl rfl | exact Or.inr rfl)) pgs_nil)))))
      (pss_one (my_fld (pv 0) (my_ifExp (pt_cmpR op_lt (pe_op op_add (pv 2) pe_int) (my_meth (pv 0) T.c_Player T.m_Player_long (ok_Player_long T) (hr.mono (by decide)) T.b_Player_long passE (pa_cons (pv 1) pa_nil)) (nomark _)) (my_tup (pa_cons (pv 1) (pa_cons (pe_op op_add (pv 2) pe_int) (pa_cons (pv 3) pa_nil)))) pe_non))))
        pss_nil)
      (pss_cons (ps_expr (my_meth0 (pv 0) T.c_Player T.m_Player_turn_over (ok_Player_turn_over T) (hr.mono (by decide)) T.b_Player_turn_over passE))
      (pss_one (my_if (pt_cmpR op_notN (pe_fld (pv 0) rfl) pe_non (nomark _))
        (pss_cons (my_fld (pv 0) (pe_op op_sub (pe_fld (pv 0) rfl) pe_int))
      (pss_one (my_if (pt_cmpR op_eq (pe_fld (pv 0) rfl) pe_int (nomark _))
        (pss_cons (my_fld (pv 0) pe_non)
      (pss_one (my_fld (pv 0) pe_bl)))
        pss_nil)))
        pss_nil)))))), ?_⟩
    obtain ⟨n, hn⟩ := ok.now_of hp
    have okp := Pl.Ok.pre ok (by rw [hn]; exact fun z => nomatch z)
    have hzr := hz.r
    have hzp := hz.p
    have hzs := hz.s
    have hod := fun e p l z => ok.tn.kn (ok.od e p l z)
    unfold stepP at k
    clear ok hz
    obtain ⟨pov, o, time, now, spot, old, soon, past, rows, plays, stops, sleep⟩ := s
    have hn : now = some n := hn
    subst hn
    walk_at "rd"
    refine sf_Player_time T w 0 rfl fun H1 w1 => ?_
    walk_at "rd"
    refine sf_Player_spot T w1 0 rfl fun H2 w2 => ?_
    replace w2 : W H H2 (plL A a (.ref b.q) ⟨pov, o, time + 1, some n, spot + 1, old, soon, past, rows, plays, stops, sleep⟩ ov rs ++ (sL A b f ++ R)) := w2
    clear w1
    walk_at "rd"
    rcases old with _ | ⟨e, p, l⟩
    case' none =>
      have eo : ov = .non := fa.old
      subst eo
      refine xIf_F rfl ?_
      obtain ⟨s2, es2, ov2, w3, fo⟩ : ∃ s2, s2 = preP f ⟨pov, o, time, some n, spot, none, soon, past, rows, plays, stops, sleep⟩ ∧ ∃ ov2, W H H2 (plL A a (.ref b.q) s2 ov2 rs ++ (sL A b f ++ R)) ∧ OldAt H2 ov2 s2.old := ⟨_, rfl, .non, w2, rfl⟩
      have hs2 : s2.rows = rows ∧ s2.past = past ∧ s2.soon = soon ∧ s2.now = some n := by rw [es2]; exact ⟨rfl, rfl, rfl, rfl⟩
      obtain ⟨H3, eH3⟩ : ∃ H3, H3 = H2 := ⟨_, rfl⟩
      rw [← eH3] at w3 fo ⊢
      obtain ⟨t1, t2, t3, et⟩ : ∃ t1 t2 t3 : Option V, t1 = none ∧ t2 = none ∧ t3 = none := ⟨_, _, _, rfl, rfl, rfl⟩
    case' some =>
      obtain ⟨q, eo, hq0⟩ := fa.old
      subst eo
      refine xIf_T rfl ?_
      have ke : Kn f o e := hod e p l rfl
      have hq := w2.tp _ _ hq0
      walk_at "rd"
      refine st_call (of_Player_long ⟨a, b, f, _, .ref q, rs, e, R, rfl, w2.now, ke, ?_⟩)
      walk_at "rd"
      by_cases hl : p + 1 < longO f o e
      case' pos =>
        refine xIf_T (decide_eq_true hl) ?_
        walk_at "rd"
        refine st_new w2 fun t H2b w2b => ?_
        walk_at "rd"
        refine sf_Player_old T w2b 1 rfl fun H3 w3b => ?_
        obtain ⟨s2, es2, ov2, w3, fo⟩ : ∃ s2, s2 = preP f ⟨pov, o, time, some n, spot, some (e, p, l), soon, past, rows, plays, stops, sleep⟩ ∧ ∃ ov2, W H H3 (plL A a (.ref b.q) s2 ov2 rs ++ (sL A b f ++ R)) ∧ OldAt H3 ov2 s2.old :=
          ⟨_, rfl, .ref t, w3b.drop1, by show OldAt H3 (.ref t) (if p + 1 < longO f o e then some (e, p + 1, l) else none); rw [if_pos hl]; exact ⟨t, rfl, w3b.get 0 rfl⟩⟩
        clear w2b w3b
      case' neg =>
        refine xIf_F (decide_eq_false hl) ?_
        walk_at "rd"
        refine sf_Player_old T w2 0 rfl fun H3 w3b => ?_
        obtain ⟨s2, es2, ov2, w3, fo⟩ : ∃ s2, s2 = preP f ⟨pov, o, time, some n, spot, some (e, p, l), soon, past, rows, plays, stops, sleep⟩ ∧ ∃ ov2, W H H3 (plL A a (.ref b.q) s2 ov2 rs ++ (sL A b f ++ R)) ∧ OldAt H3 ov2 s2.old :=
          ⟨_, rfl, .non, w3b, by show OldAt H3 .non (if p + 1 < longO f o e then some (e, p + 1, l) else none); rw [if_neg hl]; exact rfl⟩
        clear w3b
      all_goals
        have hs2 : s2.rows = rows ∧ s2.past = past ∧ s2.soon = soon ∧ s2.now = some n := by rw [es2]; exact ⟨rfl, rfl, rfl, rfl⟩
    all_goals
      rw [← es2] at k okp
      walk_at "rd"
      refine st_call (of_Player_turn_over ⟨a, b, f, s2, n, R, rfl, ⟨ov2, rs, w3.now, fo, by rw [hs2.1]; exact fa.rows.mono w3.tp⟩, okp, hs2.2.2.2, ⟨by rw [hs2.1]; exact hzr, by rw [hs2.2.1]; exact hzp, by rw [hs2.2.2.1]; exact hzs⟩, fun H4 a' ea pw => ?_⟩)
      obtain ⟨ov3, rs3, w4, fa3⟩ := pw
      rw [← ea]
      have k : ∀ H' a'', a''.p = a'.p → PlW A H H' a'' (.ref b.q) (sleepP (turnP f s2)) (sL A b f ++ R) → Q .non H' := by rw [ea]; exact k
      generalize turnP f s2 = s3 at *
      obtain ⟨pov3, o3, time3, now3, spot3, old3, soon3, past3, rows3, plays3, stops3, sleep3⟩ := s3
      have w5 := w4.now
      walk_at "rd"
      rcases sleep3 with _ | m
      · refine xIf_F rfl ?_
        exact k H4 a' rfl (PlW.tr (w3.tr w4) ⟨ov3, rs3, w5, fa3⟩)
      · refine xIf_T rfl ?_
        walk_at "rd"
        refine sf_Player_sleep_left T w5 0 rfl fun H5 w6 => ?_
        walk_at "rd"
        unfold sleepP at k
        simp only at k
        refine xIf_2 (fun h => ?_) (fun h => ?_)
        · have h0 : m - 1 = 0 := de_t h
          rw [if_pos h0] at k
          walk_at "rd"
          refine sf_Player_sleep_left T w6 0 rfl fun H6 w7 => ?_
          walk_at "rd"
          refine sf_Player_is_playing T w7 0 rfl fun H7 w8 => ?_
          exact k H7 a' rfl (PlW.tr (w3.tr w4) ⟨ov3, rs3, w8, fa3.old.mono w8.tp, fa3.rows.mono w8.tp⟩)
        · have h0 : m - 1 ≠ 0 := de_f h
          rw [if_neg h0] at k
          exact k H5 a' rfl (PlW.tr (w3.tr w4) ⟨ov3, rs3, w6, fa3.old.mono w6.tp, fa3.rows.mono w6.tp⟩)
end
end TR

namespace TR
open PySem L2
theorem tickP_succ (f : Sf) : ∀ (n : Nat) (s : Pl), tickP f (n + 1) s = tick1 f (tickP f n s)
  | 0, s => rfl
  | n + 1, s => tickP_succ f n (tick1 f s)
theorem beginP_len (f : Sf) (s : Pl) (e : Option Int) (j : Bool) : (beginP f s e j).rows.length ≤ s.rows.length + 1 ∧ (beginP f s e j).past = s.past ∧ (beginP f s e j).soon = s.soon := by
  cases e with
  | none => exact ⟨Nat.le_succ _, rfl, rfl⟩
  | some x => exact ⟨by show (s.rows ++ [(s.time, x)]).length ≤ _; rw [List.length_append]; exact Nat.le_refl _, rfl, rfl⟩
theorem nextS_len (s : Pl) (l : Bool) : (nextS s l).rows = s.rows ∧ (nextS s l).past = s.past ∧ (nextS s l).soon.length ≤ s.soon.length := by
  unfold nextS
  split
  · rename_i y r e
    exact ⟨rfl, rfl, by rw [e]; exact Nat.le_succ _⟩
  · exact ⟨rfl, rfl, Nat.le_refl _⟩
theorem Sz.mono {s : Pl} {n m : Nat} (h : Sz s n) (hm : n ≤ m) : Sz s m := ⟨Nat.le_trans h.r hm, Nat.le_trans h.p hm, Nat.le_trans h.s hm⟩
theorem Sz.begin {f : Sf} {s : Pl} {n : Nat} (h1 : s.rows.length ≤ n) (h2 : s.past.length ≤ n + 1) (h3 : s.soon.length ≤ n + 1) (e : Option Int) (j : Bool) : Sz (beginP f s e j) (n + 1) := by
  obtain ⟨a, b, c⟩ := beginP_len f s e j
  exact ⟨by omega, by rw [b]; exact h2, by rw [c]; exact h3⟩
theorem Sz.turn {f : Sf} {s : Pl} {n : Nat} (h : Sz s n) : Sz (turnP f s) (n + 1) := by
  have h1 := h.mono (Nat.le_succ n)
  unfold turnP
  split
  · exact h1
  · rename_i m hm
    have hp : (s.past ++ [m]).length ≤ n + 1 := by
      rw [List.length_append]
      have := h.p
      exact Nat.succ_le_succ this
    split
    · split
      · obtain ⟨a, b, c⟩ := nextS_len s false
        unfold goOn
        exact Sz.begin (s := { nextS s false with past := s.past ++ [m] }) (by show (nextS s false).rows.length ≤ n; rw [a]; exact h.r) hp (Nat.le_trans c (Nat.le_succ_of_le h.s)) _ _
      · exact h1
    · split
      · have h2 := Sz.begin (f := f) (s := { s with past := s.past ++ [m] }) h.r hp (Nat.le_succ_of_le h.s) none false
        exact ⟨h2.r, h2.p, h2.s⟩
      · exact h1
theorem Sz.slp {s : Pl} {n : Nat} (h : Sz s n) : Sz (sleepP s) n := by
  unfold sleepP
  split
  · exact h
  · split
    · exact ⟨h.r, h.p, h.s⟩
    · exact ⟨h.r, h.p, h.s⟩
theorem Sz.step {f : Sf} {s : Pl} {n : Nat} (h : Sz s n) : Sz (stepP f s) (n + 1) := (Sz.turn (s := preP f s) ⟨h.r, h.p, h.s⟩).slp
theorem Sz.tick1 {f : Sf} {s : Pl} {n : Nat} (h : Sz s n) : Sz (tick1 f s) (n + 1) := by
  unfold TR.tick1
  split
  · exact h.step
  · exact h.mono (Nat.le_succ _)
theorem Sz.tick {f : Sf} : ∀ (m : Nat) {s : Pl} {n : Nat}, Sz s n → Sz (tickP f m s) (n + m)
  | 0, _, _, h => h
  | m + 1, s, n, h => by
    have := Sz.tick (f := f) m (h.tick1 (f := f))
    rw [show n + (m + 1) = n + 1 + m by omega]
    exact this
/-! how far ahead is from its end -/
def measP (f : Sf) (N : Nat) (s : Pl) : Nat := (N - s.rows.length) * 41 + match s.now with
  | none => 0
  | some n => (longO f s.o n - s.spot).toNat
theorem sleepP_same (s : Pl) : (sleepP s).rows = s.rows ∧ (sleepP s).now = s.now ∧ (sleepP s).o = s.o ∧ (sleepP s).spot = s.spot := by
  unfold sleepP
  split
  · exact ⟨rfl, rfl, rfl, rfl⟩
  · split <;> exact ⟨rfl, rfl, rfl, rfl⟩
theorem measP_pos {f : Sf} {N : Nat} {s : Pl} (ok : s.Ok f) (hp : s.plays = true) : 1 ≤ measP f N s := by
  obtain ⟨n, hn⟩ := ok.now_of hp
  have := (ok.nw n hn).2.2
  unfold measP
  rw [hn]
  simp only
  omega
theorem measP_step {f : Sf} {N : Nat} {s : Pl} (ok : s.Ok f) (hp : s.plays = true) (hr : s.rows.length < N) : measP f N (stepP f s) < measP f N s := by
  obtain ⟨n, hn⟩ := ok.now_of hp
  have h1 := (ok.nw n hn).2
  have em : measP f N (stepP f s) = measP f N (turnP f (preP f s)) := by
    obtain ⟨a, b, c, d⟩ := sleepP_same (turnP f (preP f s))
    unfold stepP measP
    rw [a, b, c, d]
  rw [em]
  have e0 : measP f N s = (N - s.rows.length) * 41 + (longO f s.o n - s.spot).toNat := by unfold measP; rw [hn]
  rw [e0]
  have hn2 : (preP f s).now = some n := hn
  have okp := Pl.Ok.pre ok (by rw [hn]; exact fun z => nomatch z)
  have stay : measP f N (preP f s) = (N - s.rows.length) * 41 + (longO f s.o n - (s.spot + 1)).toNat := by
    unfold measP
    rw [hn2]
    rfl
  unfold turnP
  rw [hn2]
  simp only
  split
  · rename_i x hx
    split
    · have hxm : x ∈ (preP f s).o.q.turn := by
        unfold foundP at hx
        split at hx
        · cases hx
        · exact nextV_mem okp.o okp.sn hx
      have kx := okp.tn.kn (okp.o.has hxm)
      have hq := nextS_o (preP f s) false
      have hlx : longO f (nextS (preP f s) false).o x = longO f (preP f s).o x := longO_q hq x
      have hhi := kx.hi
      have hlo := kx.lo
      have er : (goOn f (preP f s) n x).rows.length = s.rows.length + 1 := by
        unfold goOn
        show ((nextS (preP f s) false).rows ++ [_]).length = _
        rw [List.length_append, (nextS_len _ _).1]
        rfl
      have eM : measP f N (goOn f (preP f s) n x) = (N - (s.rows.length + 1)) * 41 + (longO f (preP f s).o x - 0).toNat := by
        unfold measP
        rw [er]
        show _ + (longO f (beganO (nextS (preP f s) false).o x) x - 0).toNat = _
        rw [show longO f (beganO (nextS (preP f s) false).o x) x = longO f (nextS (preP f s) false).o x from rfl, hlx]
      rw [eM]
      omega
    · rw [stay]
      omega
  · split
    · have eM : measP f N (endP f (preP f s) n) = (N - s.rows.length) * 41 + 0 := rfl
      rw [eM]
      omega
    · rw [stay]
      omega
theorem goP_stop {f : Sf} {N m : Nat} {s : Pl} (h : ¬ (s.plays = true ∧ s.rows.length < N)) : goP f N m s = s := by
  cases m with
  | zero => rfl
  | succ m => exact if_neg h
theorem goP_go {f : Sf} {N m : Nat} {s : Pl} (h : s.plays = true ∧ s.rows.length < N) : goP f N (m + 1) s = goP f N m (stepP f s) := if_pos h
theorem W.swap3 {H0 H : Hp} {X Y Z R : List Ent} (w : W H0 H (X ++ (Y ++ (Z ++ R)))) : W H0 H (X ++ (Z ++ (Y ++ R))) := by
  refine w.perm (List.Perm.append_left X ?_)
  rw [← List.append_assoc, ← List.append_assoc]
  exact List.Perm.append_right R List.perm_append_comm
/-- the first entry, and what stands behind X -/
theorem W.keepHead {H0 H : Hp} {x : Ent} {X R : List Ent} (w : W H0 H (x :: (X ++ R))) : W H0 H (x :: R) := by
  refine w.sub (fun y hy => ?_) ?_
  · rcases List.mem_cons.mp hy with rfl | hy
    · exact List.mem_cons_self
    · exact List.mem_cons_of_mem _ (List.mem_append_right _ hy)
  · have h := w.nd
    rw [List.map_cons, List.map_append] at h
    obtain ⟨h1, h2⟩ := List.nodup_cons.mp h
    exact List.nodup_cons.mpr ⟨fun z => h1 (List.mem_append_right _ z), (List.nodup_append.mp h2).2.1⟩
theorem W.swapT {H0 H : Hp} {x : Ent} {Y Z R : List Ent} (w : W H0 H (x :: (Y ++ (Z ++ R)))) : W H0 H (x :: (Z ++ (Y ++ R))) := W.swap3 (X := [x]) w
/-- a list of pairs, made of another one's -/
theorem st_lcRows {K : PySem.W.Frag} {H0 H : Hp} {L : List Ent} {a : Addr} {g : TG} {tt : TT} {te : TE} {vs : List Nat} {σ : L2.St} {Q : VK} {ys : List (Int × Int)} {zs : List V} (h : Int × Int → Int × Int) (p : Int × Int → Bool) (w : W H0 H L) (j : Nat) (hj : L[j]? = some (a, .lst zs)) (r : RowsAt H zs ys) (hl : ys.length ≤ 60000)
    (hs : ∀ D q y P H' xs, W H0 H' ((D, .lst xs) :: L) → H' q = some (.tup [.int y.1, .int y.2]) → (p y = true → xNew (.tup [.int (h y).1, .int (h y).2]) H' (fun v H4 => xAcc D P v H4)) → (p y = false → P H') → LcTurn g tt te vs σ D P (.ref q) H')
    (k : ∀ D H' xs, W H0 H' ((D, .lst xs) :: L) → RowsAt H' xs ((ys.filter p).map h) → Q (.ref D) H') : xLc (Itl K a) g tt te vs σ H Q := by
  have hzy := r.len
  refine st_lcL (xs := zs) (fun D i H' => ∃ xs, W H H' ((D, .lst xs) :: L) ∧ RowsAt H' xs (((ys.take i).filter p).map h)) w.now (fun D H' w1 => ⟨[], w1, True.intro⟩) (fun D i H' _ ⟨xs, w1, _⟩ => SqL.of (w1.get (j + 1) (by simpa using hj))) ?_ ?_
  · rintro D i x H' hx ⟨xs, w1, r1⟩
    obtain ⟨y, hy, q, rfl, hq⟩ := r.get i hx
    have e : (ys.take (i + 1)).filter p = (ys.take i).filter p ++ [y].filter p := by
      rw [List.take_succ, hy, ← List.filter_append]; rfl
    refine hs D q y _ H' xs (w.tr w1) (w1.tp _ _ hq) (fun hp => ?_) (fun hp => ?_)
    · refine st_tup w1.now fun q2 H2 hq2 w2 => ?_
      have hlen : xs.length ≤ 60000 := by
        rw [r1.len, List.length_map]
        exact Nat.le_trans (List.length_filter_le _ _) (Nat.le_trans (by rw [List.length_take]; omega) hl)
      refine st_acc w2.now 0 rfl (szL (by omega)) fun H3 w3 => ?_
      refine ⟨xs ++ [V.ref q2], w1.tr (w2.tr w3), ?_⟩
      rw [e, List.filter_cons_of_pos hp, List.map_append]
      exact ((r1.mono w2.tp).mono w3.tp).snoc ⟨q2, rfl, w3.tp _ _ hq2⟩
    · refine ⟨xs, w1, ?_⟩
      rw [e, List.filter_cons_of_neg (by rw [hp]; exact Bool.false_ne_true), List.filter_nil, List.append_nil]
      exact r1
  · rintro D H' ⟨xs, w1, r1⟩
    rw [hzy, List.take_length] at r1
    exact k D H' xs (w.tr w1) r1
def SnAt (H : Hp) (v : V) (r : Int × Int × Int × Int) : Prop := ∃ q, v = .ref q ∧ H q = some (.tup [.int r.1, .int r.2.1, .int r.2.2.1, .int r.2.2.2])
def SnsAt (H : Hp) : List V → List (Int × Int × Int × Int) → Prop
  | [], [] => True
  | v :: vs, r :: rs => SnAt H v r ∧ SnsAt H vs rs
  | _, _ => False
theorem SnAt.mono {H H' : Hp} (t : Tps H H') {v : V} {r : Int × Int × Int × Int} (h : SnAt H v r) : SnAt H' v r := let ⟨q, a, b⟩ := h; ⟨q, a, t _ _ b⟩
theorem SnsAt.mono {H H' : Hp} (t : Tps H H') : ∀ {vs : List V} {rs : List (Int × Int × Int × Int)}, SnsAt H vs rs → SnsAt H' vs rs
  | [], [], _ => True.intro
  | v :: vs, r :: rs, ⟨a, b⟩ => ⟨a.mono t, SnsAt.mono t b⟩
  | [], _ :: _, h => h.elim
  | _ :: _, [], h => h.elim
@[irreducible] def sp_Player_tick (A : Ads) : Sp := fun vs H Q E => ∃ (a : PA) (b : SA) (f : Sf) (s : Pl) (m : Int) (N : Nat) (R : List Ent), vs = [.ref a.p, .int m] ∧ PlW A H H a (.ref b.q) s (sL A b f ++ R) ∧ s.Ok f ∧ Sz s N ∧ N ≤ 40000 ∧
  (0 ≤ m ∧ m ≤ 200 → ∀ H' a', a'.p = a.p → PlW A H H' a' (.ref b.q) (tickP f m.toNat s) (sL A b f ++ R) → Q .non H') ∧ (¬ (0 ≤ m ∧ m ≤ 200) → E (.ref A.c_BadNumber) none H)
theorem of_Player_tick {A : Ads} {vs : List V} {H : Hp} {Q : VK} {E : XK} (h :  ∃ (a : PA) (b : SA) (f : Sf) (s : Pl) (m : Int) (N : Nat) (R : List Ent), vs = [.ref a.p, .int m] ∧ PlW A H H a (.ref b.q) s (sL A b f ++ R) ∧ s.Ok f ∧ Sz s N ∧ N ≤ 40000 ∧
  (0 ≤ m ∧ m ≤ 200 → ∀ H' a', a'.p = a.p → PlW A H H' a' (.ref b.q) (tickP f m.toNat s) (sL A b f ++ R) → Q .non H') ∧ (¬ (0 ≤ m ∧ m ≤ 200) → E (.ref A.c_BadNumber) none H)) : sp_Player_tick A vs H Q E := by unfold sp_Player_tick; exact h
@[irreducible] def sp_Player_sounds (A : Ads) : Sp := fun vs H Q _ => ∃ (a : PA) (b : SA) (f : Sf) (s : Pl) (ov : V) (rs : List V) (R : List Ent), vs = [.ref a.p] ∧ W H H (plL A a (.ref b.q) s ov rs ++ (sL A b f ++ R)) ∧ PlF H s ov rs ∧ (∀ e p l, s.old = some (e, p, l) → Kn f s.o e) ∧
  ∀ H' l xs, W H H' ((l, .lst xs) :: (plL A a (.ref b.q) s ov rs ++ (sL A b f ++ R))) → SnsAt H' xs (soundsP f s) → Q (.ref l) H'
theorem of_Player_sounds {A : Ads} {vs : List V} {H : Hp} {Q : VK} {E : XK} (h :  ∃ (a : PA) (b : SA) (f : Sf) (s : Pl) (ov : V) (rs : List V) (R : List Ent), vs = [.ref a.p] ∧ W H H (plL A a (.ref b.q) s ov rs ++ (sL A b f ++ R)) ∧ PlF H s ov rs ∧ (∀ e p l, s.old = some (e, p, l) → Kn f s.o e) ∧
  ∀ H' l xs, W H H' ((l, .lst xs) :: (plL A a (.ref b.q) s ov rs ++ (sL A b f ++ R))) → SnsAt H' xs (soundsP f s) → Q (.ref l) H') : sp_Player_sounds A vs H Q E := by unfold sp_Player_sounds; exact h
@[irreducible] def sp_Player_ahead (A : Ads) : Sp := fun vs H Q E => ∃ (a : PA) (b : SA) (f : Sf) (s : Pl) (ov : V) (rs : List V) (m : Int) (N : Nat) (R : List Ent), vs = [.ref a.p, .int m] ∧ W H H (plL A a (.ref b.q) s ov rs ++ (sL A b f ++ R)) ∧ PlF H s ov rs ∧ s.Ok f ∧ Sz s N ∧ N ≤ 40000 ∧
  (0 ≤ m ∧ m ≤ 12 → ∀ H' l xs, W H H' ((l, .lst xs) :: (plL A a (.ref b.q) s ov rs ++ (sL A b f ++ R))) → RowsAt H' xs (aheadP f s m.toNat) → Q (.ref l) H') ∧ (¬ (0 ≤ m ∧ m ≤ 12) → E (.ref A.c_BadNumber) none H)
theorem of_Player_ahead {A : Ads} {vs : List V} {H : Hp} {Q : VK} {E : XK} (h :  ∃ (a : PA) (b : SA) (f : Sf) (s : Pl) (ov : V) (rs : List V) (m : Int) (N : Nat) (R : List Ent), vs = [.ref a.p, .int m] ∧ W H H (plL A a (.ref b.q) s ov rs ++ (sL A b f ++ R)) ∧ PlF H s ov rs ∧ s.Ok f ∧ Sz s N ∧ N ≤ 40000 ∧
  (0 ≤ m ∧ m ≤ 12 → ∀ H' l xs, W H H' ((l, .lst xs) :: (plL A a (.ref b.q) s ov rs ++ (sL A b f ++ R))) → RowsAt H' xs (aheadP f s m.toNat) → Q (.ref l) H') ∧ (¬ (0 ≤ m ∧ m ≤ 12) → E (.ref A.c_BadNumber) none H)) : sp_Player_ahead A vs H Q E := by unfold sp_Player_ahead; exact h
section
variable {P : Program} {w : World} {K : PySem.W.Frag} {mg : Str → Option Value} {base : Heap} {A : Ads}
theorem ok_Player_tick (T : Txt K mg A) : FnOk P w K mg base (L2.CX P w) 10 A.f_Player_tick A.d_Player_tick P_Player_tick (sp_Player_tick A) := by
  refine T.F_Player_tick.okX sc_Player_tick (fun vs H Q E h => ?_) (fun cdv Ar outer s H vs Q E hr h => ?_)
  · unfold sp_Player_tick at h; obtain ⟨a, b, f, s, m, N, R, rfl, _⟩ := h; rfl
  · unfold sp_Player_tick at h; obtain ⟨a, b, f, s, m, N, R, rfl, pw, ok, hz, hN, k1, k2⟩ := h
    refine ⟨_, (pss_cons (my_if (pt_not (my_chIT op_le op_le pe_int (pv 1) (my_globI T.gi_MOST_TICKS (by rfl)) still_c still_v still_c))
        (pss_one (ps_raise rfl takesE (pmk_own PySem.F.excBase_ValueError T.x_BadNumber T.g_BadNumber T.k_BadNumber (raises_own T.r_BadNumber T.t_BadNumber) (by rfl))))
        pss_nil)
      (pss_one (my_for ownE rfl (pi_range1 (by rfl) T.z_range (pa_cons (pv 1) pa_nil)) (pg_name (i := 2) sc_Player_tick.nd rfl (by first | exact Or.inl rfl | exact Or.inr rfl))
        (pss_one (my_if (pt_val (pe_fld (pv 0) rfl))
        (pss_one (ps_expr (my_meth0 (pv 0) T.c_Player T.m_Player_step (ok_Player_step T) (hr.mono (by decide)) T.b_Player_step passE)))
        pss_nil))))), ?_⟩
    walk_at "rd"
    refine xIf_2 (fun h => k2 (nb_t h)) (fun h => ?_)
    have h1 := nb_f h
    have k1 := k1 h1
    walk_at "rd"
    refine st_forR (fun i σ H' => ∃ (a' : PA) (u : Option V), σ = [some (.ref a.p), some (.int m), u] ∧ a'.p = a.p ∧ PlW A H H' a' (.ref b.q) (tickP f i s) (sL A b f ++ R)) ⟨a, none, rfl, rfl, pw⟩ ?_ ?_
    · rintro i σ H1 hi ⟨a', u, rfl, ea, ov, rs, w, fa⟩
      have eT := tickP_succ f i s
      have okI := Pl.Ok.tick (f := f) i ok
      have hzI := Sz.tick (f := f) i hz
      rw [eT]
      generalize tickP f i s = s1 at *
      rw [← ea]
      unfold tick1
      walk_at "rd"
      refine xIf_2 (fun h => ?_) (fun h => ?_)
      · have hp : s1.plays = true := h
        rw [if_pos hp]
        walk_at "rd"
        refine st_call (of_Player_step ⟨a', b, f, s1, R, rfl, ⟨ov, rs, w.now, fa⟩, okI, hp, hzI.mono (by omega), fun H2 a2 ea2 pw2 => ?_⟩)
        exact ⟨a2, _, rfl, ea2, PlW.tr w pw2⟩
      · have hp : ¬ s1.plays = true := by rw [show s1.plays = false from h]; exact Bool.false_ne_true
        rw [if_neg hp]
        exact ⟨a', _, rfl, rfl, ov, rs, w, fa⟩
    · rintro σ H1 ⟨a', u, rfl, ea, pw2⟩
      exact k1 H1 a' ea pw2
theorem ok_Player_sounds (T : Txt K mg A) : FnOk P w K mg base (L2.CX P w) 4 A.f_Player_sounds A.d_Player_sounds P_Player_sounds (sp_Player_sounds A) := by
  refine T.F_Player_sounds.okX sc_Player_sounds (fun vs H Q E h => ?_) (fun cdv Ar outer s H vs Q E hr h => ?_)
  · unfold sp_Player_sounds at h; obtain ⟨a, b, f, s, ov, rs, R, rfl, _⟩ := h; rfl
  · unfold sp_Player_sounds at h; obtain ⟨a, b, f, s, ov, rs, R, rfl, w, fa, kn, k⟩ := h
    refine ⟨_, (pss_cons (my_if (pt_cmpR op_isN (pe_fld (pv 0) rfl) pe_non (nomark _))
        (pss_one (ps_ret (my_lst pa_nil)))
        pss_nil)
      (pss_cons (my_if (pt_cmpR op_isN (pe_fld (pv 0) rfl) pe_non (nomark _))
        (pss_one (ps_ret (my_lst (pa_cons (my_tup (pa_cons (pe_fld (pv 0) rfl) (pa_cons (pe_fld (pv 0) rfl) (pa_cons pe_int (pa_cons pe_int pa_nil))))) pa_nil))))
        pss_nil)
      (pss_cons (ps_asg (pe_fld (pv 0) rfl) (pg_tup rfl (pgs_cons (pg_name (i := 1) sc_Player_sounds.nd rfl (by first | exact Or.inl rfl | exact Or.inr rfl)) (pgs_cons (pg_name (i := 2) sc_Player_sounds.nd rfl (by first | exact Or.inl rfl | exact Or.inr rfl)) (pgs_cons (pg_name (i := 3) sc_Player_sounds.nd rfl (by first | exact Or.inl rfl | exact Or.inr rfl)) pgs_nil)))))
      (pss_cons (ps_set (i := 4) sc_Player_sounds.nd rfl (by first | exact Or.inl rfl | exact Or.inr rfl) (pe_op op_sub (my_meth (pv 0) T.c_Player T.m_Player_long (ok_Player_long T) (hr.mono (by decide)) T.b_Player_long passE (pa_cons (pv 1) pa_nil)) (pv 2)))
      (pss_one (ps_ret (my_lst (pa_cons (my_tup (pa_cons (pv 1) (pa_cons (pv 2) (pa_cons (pv 4) (pa_cons (pv 3) pa_nil))))) (pa_cons (my_tup (pa_cons (pe_fld (pv 0) rfl) (pa_cons (pe_fld (pv 0) rfl) (pa_cons (pe_op op_sub (pv 3) (pv 4)) (pa_cons (pv 3) pa_nil))))) pa_nil))))))))), ?_⟩
    obtain ⟨pov, o, time, now, spot, old, soon, past, rows, plays, stops, sleep⟩ := s
    unfold soundsP at k
    cases now with
    | none =>
      walk_at "rd"
      refine xIf_T rfl ?_
      walk_at "rd"
      exact st_new w fun l H1 w1 => k H1 l [] w1 True.intro
    | some n =>
      walk_at "rd"
      refine xIf_F rfl ?_
      walk_at "rd"
      rcases old with _ | ⟨e, p, l⟩
      · have eo : ov = .non := fa.old
        subst eo
        refine xIf_T rfl ?_
        walk_at "rd"
        refine st_new w fun t H1 w1 => ?_
        walk_at "rd"
        refine st_new w1 fun l H2 w2 => ?_
        exact k H2 l [.ref t] (w2.pick 2 [0]) ⟨⟨t, rfl, w2.get 1 rfl⟩, True.intro⟩
      · obtain ⟨q, eo, hq⟩ := fa.old
        subst eo
        refine xIf_F rfl ?_
        have ke : Kn f o e := kn e p l rfl
        walk_at "rd"
        refine st_call (of_Player_long ⟨a, b, f, _, .ref q, rs, e, R, rfl, w, ke, ?_⟩)
        walk_at "rd"
        refine st_new w fun t H1 w1 => ?_
        walk_at "rd"
        refine st_new w1 fun t2 H2 w2 => ?_
        walk_at "rd"
        refine st_new w2 fun l H3 w3 => ?_
        exact k H3 l [.ref t, .ref t2] (w3.pick 3 [0]) ⟨⟨t, rfl, w3.get 2 rfl⟩, ⟨t2, rfl, w3.get 1 rfl⟩, True.intro⟩
end
end TR
namespace TR
open PySem L2
/-! ### the law's calls, as plain functions of the draws -/
def names6 : List Str := ["a", "b", "c", "d", "ee", "sixabc"]
def agains4 : List Str := ["none", "all", "all", "one"]
def turnAt (s : Pl) (i : Int) : Int := s.o.q.turn.getD i.toNat 0
def queueP (ns : List Int) (n : Nat) (s : Pl) : Nat × Pl :=
  if drawP ns n 6 < 3 ∨ s.o.q.turn = [] then
    if s.o.q.turn.length = 12 then (n + 1, s)
    else (n + 3, addP s (names6.getD (drawP ns (n + 1) 6).toNat "") (drawP ns (n + 2) ((s.o.q.turn.length : Int) + 1)))
  else if drawP ns n 6 = 3 then (n + 2, removeP s (turnAt s (drawP ns (n + 1) s.o.q.turn.length)))
  else if drawP ns n 6 = 4 then (n + 3, moveP s (turnAt s (drawP ns (n + 1) s.o.q.turn.length)) (drawP ns (n + 2) s.o.q.turn.length))
  else (n + 2, soonP s (turnAt s (drawP ns (n + 1) s.o.q.turn.length)))
def pauseP (s : Pl) : Pl := { s with plays := false }
def stopP (s : Pl) (b : Bool) : Pl := { s with stops := b }
def sleepS (s : Pl) (m : Option Int) : Pl := { s with sleep := m }
def wayP (f : Sf) (ns : List Int) (n : Nat) (s : Pl) : Nat × Pl :=
  if drawP ns n 9 = 0 then (n + 2, againS s (agains4.getD (drawP ns (n + 1) 4).toNat ""))
  else if drawP ns n 9 = 1 then (n + 2, mixedP s (decide (drawP ns (n + 1) 2 = 0)))
  else if drawP ns n 9 = 2 ∧ s.o.q.turn ≠ [] then (n + 2, playP f s (turnAt s (drawP ns (n + 1) s.o.q.turn.length)))
  else if drawP ns n 9 = 3 then (n + 1, backP f s)
  else if drawP ns n 9 = 4 then (n + 1, skipP f s)
  else if drawP ns n 9 = 5 then (n + 2, stopP s (decide (drawP ns (n + 1) 3 = 0)))
  else if drawP ns n 9 = 6 then (n + 3, sleepS s ([none, some 1, some 5, some (1 + drawP ns (n + 1) 50)].getD (drawP ns (n + 2) 4).toNat none))
  else match s.now with
    | some e => if drawP ns n 9 = 7 then (n + 2, seekP s (drawP ns (n + 1) (longO f s.o e))) else (n + 1, pauseP s)
    | none => (n + 1, pauseP s)
def callP (f : Sf) (ns : List Int) (n : Nat) (s : Pl) : Nat × Pl :=
  if drawP ns n 8 < 2 then queueP ns (n + 1) s
  else if drawP ns n 8 < 4 then wayP f ns (n + 1) s
  else if drawP ns n 8 = 4 then (n + 1, resumeP f s)
  else (n + 3, tickP f ([0, 1, 1, 3, 20, drawP ns (n + 1) 60].getD (drawP ns (n + 2) 6).toNat 0).toNat s)
/-- all six names are on the shelf -/
def Full (f : Sf) : Prop := ∀ x ∈ names6, ∃ n, f.lookup x = some n ∧ 1 ≤ n ∧ n ≤ 40
theorem turnAt_mem {s : Pl} {i : Int} (h0 : 0 ≤ i) (h1 : i < s.o.q.turn.length) : turnAt s i ∈ s.o.q.turn := by
  unfold turnAt
  have hl : i.toNat < s.o.q.turn.length := by omega
  rw [List.getD_eq_getElem?_getD, List.getElem?_eq_getElem hl]
  exact List.getElem_mem hl
theorem turnAt_draw {s : Pl} (ns : List Int) (n : Nat) (h : s.o.q.turn ≠ []) : turnAt s (drawP ns n s.o.q.turn.length) ∈ s.o.q.turn := by
  have hl := List.length_pos_iff.mpr h
  exact turnAt_mem (drawP_nn ns n (by omega)) (drawP_lt ns n (by omega))
theorem names6_mem {i : Int} (h0 : 0 ≤ i) (h1 : i < 6) : names6.getD i.toNat "" ∈ names6 := by
  have hl : i.toNat < names6.length := by show i.toNat < 6; omega
  rw [List.getD_eq_getElem?_getD, List.getElem?_eq_getElem hl]
  exact List.getElem_mem hl
theorem queueP_ok {f : Sf} {ns : List Int} {n : Nat} {s : Pl} (ok : s.Ok f) (hf : Full f) (ht : s.o.q.tunes.length < 1000) : (queueP ns n s).2.Ok f := by
  unfold queueP
  split
  · split
    · exact ok
    · rename_i h12
      exact ok.add (hf _ (names6_mem (drawP_nn _ _ (by decide)) (drawP_lt _ _ (by decide)))) h12 ht
  · rename_i hc
    have hne : s.o.q.turn ≠ [] := fun z => hc (.inr z)
    split
    · exact ok.remove (turnAt_draw ns (n + 1) hne)
    · split
      · exact ok.move (turnAt_draw ns (n + 1) hne)
      · exact ok.playSoon (turnAt_draw ns (n + 1) hne)
theorem wayP_ok {f : Sf} {ns : List Int} {n : Nat} {s : Pl} (ok : s.Ok f) : (wayP f ns n s).2.Ok f := by
  unfold wayP
  split
  · exact ok.again _
  split
  · exact ok.mixed _
  split
  · rename_i h
    exact ok.play (turnAt_draw ns (n + 1) h.2)
  split
  · exact ok.back
  split
  · exact ok.skip
  split
  · exact ok.stop _
  split
  · refine ok.sleep fun k hk => ?_
    have hd := drawP_nn ns (n + 1) (m := 50) (by decide)
    have hi := drawP_nn ns (n + 2) (m := 4) (by decide)
    have hj := drawP_lt ns (n + 2) (m := 4) (by decide)
    obtain ⟨i, ei⟩ : ∃ i : Nat, (drawP ns (n + 2) 4).toNat = i := ⟨_, rfl⟩
    rw [ei] at hk
    have : i < 4 := by omega
    match i, this with
    | 0, _ => cases hk
    | 1, _ => cases hk; decide
    | 2, _ => cases hk; decide
    | 3, _ =>
      have e : some (1 + drawP ns (n + 1) 50) = some k := hk
      have := Option.some.inj e
      omega
  split
  · rename_i e he
    split
    · have hk := (ok.tn.kn (ok.nw e he).1).lo
      exact ok.seek he (drawP_nn _ _ (by omega)) (drawP_lt _ _ (by omega))
    · exact ok.pause
  · exact ok.pause
theorem callP_ok {f : Sf} {ns : List Int} {n : Nat} {s : Pl} (ok : s.Ok f) (hf : Full f) (ht : s.o.q.tunes.length < 1000) : (callP f ns n s).2.Ok f := by
  unfold callP
  split
  · exact queueP_ok ok hf ht
  split
  · exact wayP_ok ok
  split
  · exact ok.resume
  · exact Pl.Ok.tick _ ok
/-! sizes -/
def tl (s : Pl) : Nat := s.o.q.tunes.length
theorem tl_put (s : Pl) (x : Str) (p : Int) : tl (addP s x p) = tl s + 1 := by
  unfold tl addP
  rw [putO_q]
  show (s.o.q.tunes ++ [x]).length = _
  rw [List.length_append]
  rfl
theorem Sz.push {s : Pl} {n : Nat} (h : Sz s n) : (pushN s).past.length ≤ n + 1 ∧ (pushN s).rows = s.rows ∧ (pushN s).soon = s.soon ∧ (pushN s).o = s.o := by
  unfold pushN
  split
  · exact ⟨Nat.le_succ_of_le h.p, rfl, rfl, rfl⟩
  · refine ⟨?_, rfl, rfl, rfl⟩
    show (s.past ++ [_]).length ≤ _
    rw [List.length_append]
    exact Nat.succ_le_succ h.p
theorem Sz.play {f : Sf} {s : Pl} {n : Nat} (h : Sz s n) (e : Int) : Sz (playP f s e) (n + 1) := by
  obtain ⟨a, b, c, _⟩ := h.push
  have h1 := Sz.begin (f := f) (s := pushN s) (n := n) (by rw [b]; exact h.r) a (by rw [c]; exact Nat.le_succ_of_le h.s) (some e) false
  exact ⟨h1.r, h1.p, h1.s⟩
theorem Sz.skip {f : Sf} {s : Pl} {n : Nat} (h : Sz s n) : Sz (skipP f s) (n + 1) := by
  obtain ⟨x, y, z⟩ := nextS_len s true
  have h0 : Sz (nextS s true) n := ⟨by rw [x]; exact h.r, by rw [y]; exact h.p, Nat.le_trans z h.s⟩
  obtain ⟨a, b, c, _⟩ := h0.push
  have h1 := Sz.begin (f := f) (s := pushN (nextS s true)) (n := n) (by rw [b]; exact h0.r) a (by rw [c]; exact Nat.le_succ_of_le h0.s) (nextV s true) false
  exact ⟨h1.r, h1.p, h1.s⟩
theorem Sz.resume {f : Sf} {s : Pl} {n : Nat} (h : Sz s n) : Sz (resumeP f s) (n + 1) := by
  have h1 := h.mono (Nat.le_succ n)
  unfold resumeP
  split
  · exact ⟨h1.r, h1.p, h1.s⟩
  · split
    · rename_i x r e
      have hr : r.length ≤ n + 1 := by
        have := h.s
        rw [e, List.length_cons] at this
        omega
      have h2 := Sz.begin (f := f) (s := { s with soon := r }) (n := n) h.r h1.p hr (some x) false
      exact ⟨h2.r, h2.p, h2.s⟩
    · split
      · exact ⟨h1.r, h1.p, h1.s⟩
      · rename_i x hx
        have h2 := Sz.begin (f := f) (s := { s with o := firstS s.o }) (n := n) h.r h1.p h1.s (some x) false
        exact ⟨h2.r, h2.p, h2.s⟩
theorem Sz.again {f : Sf} {s : Pl} {n : Nat} (h : Sz s n) : Sz (againP f s) (n + 1) := by
  unfold againP
  split
  · exact h.mono (Nat.le_succ n)
  · exact Sz.begin h.r (Nat.le_succ_of_le h.p) (Nat.le_succ_of_le h.s) _ _
theorem Sz.back {f : Sf} {s : Pl} {n : Nat} (h : Sz s n) : Sz (backP f s) (n + 1) := by
  have hd := Nat.le_trans (dropT_len s.o.q.turn s.past) h.p
  have h1 : Sz { s with past := dropT s.o.q.turn s.past } n := ⟨h.r, hd, h.s⟩
  unfold backP
  split
  · exact h1.again
  · split
    · exact h1.again
    · refine Sz.begin (s := { s with past := (dropT s.o.q.turn s.past).dropLast, soon := backSoon s }) h.r ?_ ?_ _ _
      · show (dropT s.o.q.turn s.past).dropLast.length ≤ _
        rw [List.length_dropLast]
        omega
      · show (backSoon s).length ≤ _
        have := h.s
        unfold backSoon
        split
        · omega
        · split
          · rw [List.length_cons]; omega
          · omega
theorem queueP_sz {ns : List Int} {n N : Nat} {s : Pl} (h : Sz s N) : Sz (queueP ns n s).2 (N + 1) ∧ tl (queueP ns n s).2 ≤ tl s + 1 ∧ (queueP ns n s).1 ≤ n + 3 := by
  have h1 := h.mono (Nat.le_succ N)
  unfold queueP
  split
  · split
    · exact ⟨h1, Nat.le_succ _, by show n + 1 ≤ n + 3; omega⟩
    · exact ⟨⟨h1.r, h1.p, h1.s⟩, Nat.le_of_eq (tl_put _ _ _), Nat.le_refl _⟩
  · split
    · exact ⟨⟨h1.r, h1.p, Nat.le_trans (List.length_filter_le _ _) h1.s⟩, Nat.le_succ _, by show n + 2 ≤ n + 3; omega⟩
    · split
      · exact ⟨⟨h1.r, h1.p, h1.s⟩, Nat.le_succ _, Nat.le_refl _⟩
      · refine ⟨⟨h1.r, h1.p, ?_⟩, Nat.le_succ _, by show n + 2 ≤ n + 3; omega⟩
        show (s.soon ++ [_]).length ≤ _
        rw [List.length_append]
        exact Nat.succ_le_succ h.s
theorem tl_q {s s' : Pl} (h : s'.o.q = s.o.q) : tl s' ≤ tl s + 1 := by unfold tl; rw [h]; exact Nat.le_succ _
theorem pushN_o (s : Pl) : (pushN s).o = s.o := by unfold pushN; split <;> rfl
theorem beginP_oq (f : Sf) (s : Pl) (e : Option Int) (j : Bool) : (beginP f s e j).o.q = s.o.q := by cases e <;> rfl
theorem againP_q (f : Sf) (s : Pl) : (againP f s).o.q = s.o.q := by
  unfold againP
  split
  · rfl
  · exact beginP_oq _ _ _ _
theorem backP_q (f : Sf) (s : Pl) : (backP f s).o.q = s.o.q := by
  unfold backP
  split
  · exact againP_q _ _
  · split
    · exact againP_q _ _
    · exact beginP_oq _ _ _ _
theorem playP_q (f : Sf) (s : Pl) (e : Int) : (playP f s e).o.q = s.o.q := by
  show (beganO (pushN s).o e).q = _
  rw [pushN_o]; rfl
theorem skipP_q (f : Sf) (s : Pl) : (skipP f s).o.q = s.o.q := by
  show (beginP f (pushN (nextS s true)) (nextV s true) false).o.q = _
  rw [beginP_oq, pushN_o, nextS_o]
theorem resumeP_q (f : Sf) (s : Pl) : (resumeP f s).o.q = s.o.q := by
  unfold resumeP
  split
  · rfl
  · split
    · rfl
    · split
      · exact firstS_q _
      · exact firstS_q _
theorem turnP_q (f : Sf) (s : Pl) : (turnP f s).o.q = s.o.q := by
  unfold turnP
  split
  · rfl
  · split
    · split
      · show (nextS s false).o.q = _
        exact nextS_o _ _
      · rfl
    · split <;> rfl
theorem stepP_q (f : Sf) (s : Pl) : (stepP f s).o.q = s.o.q := by
  unfold stepP
  rw [(sleepP_same _).2.2.1, turnP_q]
  rfl
theorem tickP_q (f : Sf) : ∀ (n : Nat) (s : Pl), (tickP f n s).o.q = s.o.q
  | 0, _ => rfl
  | n + 1, s => by
    show (tickP f n (tick1 f s)).o.q = _
    rw [tickP_q f n]
    unfold tick1
    split
    · exact stepP_q f s
    · rfl
theorem wayP_sz {f : Sf} {ns : List Int} {n N : Nat} {s : Pl} (h : Sz s N) : Sz (wayP f ns n s).2 (N + 1) ∧ tl (wayP f ns n s).2 ≤ tl s + 1 ∧ (wayP f ns n s).1 ≤ n + 3 := by
  have h1 := h.mono (Nat.le_succ N)
  unfold wayP
  split
  · exact ⟨⟨h1.r, h1.p, h1.s⟩, Nat.le_succ _, by show n + 2 ≤ n + 3; omega⟩
  split
  · exact ⟨⟨h1.r, h1.p, h1.s⟩, tl_q (setM_q _ _ _), by show n + 2 ≤ n + 3; omega⟩
  split
  · exact ⟨h.play _, tl_q (playP_q _ _ _), by show n + 2 ≤ n + 3; omega⟩
  split
  · exact ⟨h.back, tl_q (backP_q _ _), by show n + 1 ≤ n + 3; omega⟩
  split
  · exact ⟨h.skip, tl_q (skipP_q _ _), by show n + 1 ≤ n + 3; omega⟩
  split
  · exact ⟨⟨h1.r, h1.p, h1.s⟩, Nat.le_succ _, by show n + 2 ≤ n + 3; omega⟩
  split
  · exact ⟨⟨h1.r, h1.p, h1.s⟩, Nat.le_succ _, by show n + 3 ≤ n + 3; omega⟩
  split
  · split
    · exact ⟨⟨h1.r, h1.p, h1.s⟩, Nat.le_succ _, by show n + 2 ≤ n + 3; omega⟩
    · exact ⟨⟨h1.r, h1.p, h1.s⟩, Nat.le_succ _, by show n + 1 ≤ n + 3; omega⟩
  · exact ⟨⟨h1.r, h1.p, h1.s⟩, Nat.le_succ _, by show n + 1 ≤ n + 3; omega⟩
theorem many_le {ns : List Int} {n : Nat} : 0 ≤ ([0, 1, 1, 3, 20, drawP ns (n + 1) 60].getD (drawP ns (n + 2) 6).toNat 0) ∧ ([0, 1, 1, 3, 20, drawP ns (n + 1) 60].getD (drawP ns (n + 2) 6).toNat 0) ≤ 59 := by
  have hd := drawP_nn ns (n + 1) (m := 60) (by decide)
  have hd2 := drawP_lt ns (n + 1) (m := 60) (by decide)
  have hj := drawP_lt ns (n + 2) (m := 6) (by decide)
  obtain ⟨i, ei⟩ : ∃ i : Nat, (drawP ns (n + 2) 6).toNat = i := ⟨_, rfl⟩
  rw [ei]
  have : i < 6 := by omega
  match i, this with
  | 0, _ => exact ⟨by show (0 : Int) ≤ 0; decide, by show (0 : Int) ≤ 59; decide⟩
  | 1, _ => exact ⟨by show (0 : Int) ≤ 1; decide, by show (1 : Int) ≤ 59; decide⟩
  | 2, _ => exact ⟨by show (0 : Int) ≤ 1; decide, by show (1 : Int) ≤ 59; decide⟩
  | 3, _ => exact ⟨by show (0 : Int) ≤ 3; decide, by show (3 : Int) ≤ 59; decide⟩
  | 4, _ => exact ⟨by show (0 : Int) ≤ 20; decide, by show (20 : Int) ≤ 59; decide⟩
  | 5, _ => exact ⟨hd, by show drawP ns (n + 1) 60 ≤ 59; omega⟩
theorem callP_sz {f : Sf} {ns : List Int} {n N : Nat} {s : Pl} (h : Sz s N) : Sz (callP f ns n s).2 (N + 60) ∧ tl (callP f ns n s).2 ≤ tl s + 1 ∧ (callP f ns n s).1 ≤ n + 4 := by
  unfold callP
  split
  · obtain ⟨a, b, c⟩ := queueP_sz (ns := ns) (n := n + 1) h
    exact ⟨a.mono (by omega), b, by omega⟩
  split
  · obtain ⟨a, b, c⟩ := wayP_sz (f := f) (ns := ns) (n := n + 1) h
    exact ⟨a.mono (by omega), b, by omega⟩
  split
  · exact ⟨h.resume.mono (by omega), tl_q (resumeP_q _ _), by show n + 1 ≤ n + 4; omega⟩
  · have hm := many_le (ns := ns) (n := n)
    exact ⟨(Sz.tick (f := f) _ h).mono (by omega), tl_q (tickP_q _ _ _), by show n + 3 ≤ n + 4; omega⟩
end TR

namespace TR
open PySem L2
@[irreducible] def sp_all (A : Ads) : Sp := fun vs H Q _ => ∃ (a : PA) (b : SA) (f : Sf) (s : Pl) (ov : V) (rs : List V) (R : List Ent), vs = [.ref a.p] ∧ W H H (plL A a (.ref b.q) s ov rs ++ (sL A b f ++ R)) ∧ PlF H s ov rs ∧ (∀ e p l, s.old = some (e, p, l) → Kn f s.o e) ∧
  ∀ H' t st en sn lo xs, W H H' ((t, .tup [.ref st, .ref en, .ref sn, .ref lo, .int s.time]) :: (lo, .lst rs) :: (sn, .lst xs) :: (en, .lst (s.o.q.turn.map V.int)) :: (st, .tup [oV s.now, .int s.spot, .bl s.plays]) :: (plL A a (.ref b.q) s ov rs ++ (sL A b f ++ R))) → SnsAt H' xs (soundsP f s) → Q (.ref t) H'
theorem of_all {A : Ads} {vs : List V} {H : Hp} {Q : VK} {E : XK} (h :  ∃ (a : PA) (b : SA) (f : Sf) (s : Pl) (ov : V) (rs : List V) (R : List Ent), vs = [.ref a.p] ∧ W H H (plL A a (.ref b.q) s ov rs ++ (sL A b f ++ R)) ∧ PlF H s ov rs ∧ (∀ e p l, s.old = some (e, p, l) → Kn f s.o e) ∧
  ∀ H' t st en sn lo xs, W H H' ((t, .tup [.ref st, .ref en, .ref sn, .ref lo, .int s.time]) :: (lo, .lst rs) :: (sn, .lst xs) :: (en, .lst (s.o.q.turn.map V.int)) :: (st, .tup [oV s.now, .int s.spot, .bl s.plays]) :: (plL A a (.ref b.q) s ov rs ++ (sL A b f ++ R))) → SnsAt H' xs (soundsP f s) → Q (.ref t) H') : sp_all A vs H Q E := by unfold sp_all; exact h
/-- all that is told, as data -/
def oD : Option Int → PyData
  | none => .none
  | some n => .int n
def rowD (r : Int × Int) : PyData := .tuple [.int r.1, .int r.2]
def snD (r : Int × Int × Int × Int) : PyData := .tuple [.int r.1, .int r.2.1, .int r.2.2.1, .int r.2.2.2]
def wholeD (f : Sf) (s : Pl) : PyData := .tuple [.tuple [oD s.now, .int s.spot, .bool s.plays], .list (s.o.q.turn.map PyData.int), .list ((soundsP f s).map snD), .list (s.rows.map rowD), .int s.time]
theorem dp_oV {K : PySem.W.Frag} {H : Hp} (e : Option Int) : Dp K H (oV e) (oD e) := by cases e with
  | none => exact .non
  | some n => exact .int n
theorem sh_oD {k : Nat} (e : Option Int) : Sh k (oD e) := by cases e with
  | none => exact sh_non
  | some n => exact sh_int n
theorem dpAll_rows {K : PySem.W.Frag} {H : Hp} : ∀ {vs : List V} {rs : List (Int × Int)}, RowsAt H vs rs → DpAll K H vs (rs.map rowD)
  | [], [], _ => .nil
  | v :: vs, r :: rs, ⟨⟨q, e, h⟩, b⟩ => by
    subst e
    exact .cons (.tup (SqT.of h) (.cons (.int _) (.cons (.int _) .nil))) (dpAll_rows b)
  | [], _ :: _, h => h.elim
  | _ :: _, [], h => h.elim
theorem dpAll_sns {K : PySem.W.Frag} {H : Hp} : ∀ {vs : List V} {rs : List (Int × Int × Int × Int)}, SnsAt H vs rs → DpAll K H vs (rs.map snD)
  | [], [], _ => .nil
  | v :: vs, r :: rs, ⟨⟨q, e, h⟩, b⟩ => by
    subst e
    exact .cons (.tup (SqT.of h) (.cons (.int _) (.cons (.int _) (.cons (.int _) (.cons (.int _) .nil))))) (dpAll_sns b)
  | [], _ :: _, h => h.elim
  | _ :: _, [], h => h.elim
theorem sh_rowD {k : Nat} (r : Int × Int) : Sh (k + 1) (rowD r) := sh_tup (sh_cons (sh_int _) (sh_cons (sh_int _) sh_nil))
theorem sh_snD {k : Nat} (r : Int × Int × Int × Int) : Sh (k + 1) (snD r) := sh_tup (sh_cons (sh_int _) (sh_cons (sh_int _) (sh_cons (sh_int _) (sh_cons (sh_int _) sh_nil))))
theorem sh_rows {k : Nat} (rs : List (Int × Int)) : Sh (k + 2) (.list (rs.map rowD)) := sh_list fun d hd => by
  obtain ⟨r, _, rfl⟩ := List.mem_map.mp hd
  exact sh_rowD r
theorem sh_sns {k : Nat} (rs : List (Int × Int × Int × Int)) : Sh (k + 2) (.list (rs.map snD)) := sh_list fun d hd => by
  obtain ⟨r, _, rfl⟩ := List.mem_map.mp hd
  exact sh_snD r
theorem sh_whole (f : Sf) (s : Pl) : Sh 64 (wholeD f s) := sh_tup (sh_cons (sh_tup (k := 62) (sh_cons (sh_oD _) (sh_cons (sh_int _) (sh_cons (sh_bl _) sh_nil)))) (sh_cons (sh_list (k := 62) (sh_ints _)) (sh_cons (sh_sns (k := 61) _) (sh_cons (sh_rows (k := 61) _) (sh_cons (sh_int _) sh_nil)))))
theorem dp_whole {K : PySem.W.Frag} {H : Hp} {f : Sf} {s : Pl} {t st en sn lo : Addr} {rs xs : List V} (ht : H t = some (.tup [.ref st, .ref en, .ref sn, .ref lo, .int s.time])) (hst : H st = some (.tup [oV s.now, .int s.spot, .bl s.plays]))
    (hen : H en = some (.lst (s.o.q.turn.map V.int))) (hsn : H sn = some (.lst xs)) (hlo : H lo = some (.lst rs)) (h1 : RowsAt H rs s.rows) (h2 : SnsAt H xs (soundsP f s)) : Dp K H (.ref t) (wholeD f s) :=
  .tup (SqT.of ht) (.cons (.tup (SqT.of hst) (.cons (dp_oV _) (.cons (.int _) (.cons (.bl _) .nil)))) (.cons (dp_ints (SqL.of hen)) (.cons (.lst (SqL.of hsn) (dpAll_sns h2)) (.cons (.lst (SqL.of hlo) (dpAll_rows h1)) (.cons (.int _) .nil)))))
theorem pick_map {α : Type} {l : List α} {g : α → V} {i : Nat} {v : V} (d : α) (h : (l.map g)[i]? = some v) : v = g (l.getD i d) := by
  rw [List.getElem?_map] at h
  cases e : l[i]? with
  | none => rw [e] at h; cases h
  | some x =>
    rw [e] at h
    cases h
    rw [List.getD_eq_getElem?_getD, e]
    rfl
@[irreducible] def sp_shelf (K : PySem.W.Frag) : Sp := fun vs H Q _ => ∃ (sa t : Addr) (ns : List Int) (n : Nat) (R : List Ent), vs = [.ref sa, .ref t] ∧ Scr K sa ns R ∧ W H H ((t, .lst (zeros n)) :: R) ∧ n ≤ 100 ∧
  ∀ H' lg f, Full f → f.map (·.1) = names6 → W H H' ((t, .lst (zeros (n + 12))) :: (lg, .dK (sfK f)) :: R) → Q (.ref lg) H'
theorem of_shelf {K : PySem.W.Frag} {vs : List V} {H : Hp} {Q : VK} {E : XK} (h :  ∃ (sa t : Addr) (ns : List Int) (n : Nat) (R : List Ent), vs = [.ref sa, .ref t] ∧ Scr K sa ns R ∧ W H H ((t, .lst (zeros n)) :: R) ∧ n ≤ 100 ∧
  ∀ H' lg f, Full f → f.map (·.1) = names6 → W H H' ((t, .lst (zeros (n + 12))) :: (lg, .dK (sfK f)) :: R) → Q (.ref lg) H') : sp_shelf K vs H Q E := by unfold sp_shelf; exact h
@[irreducible] def sp_made (A : Ads) : Sp := fun vs H Q _ => ∃ (lg : Addr) (f : Sf) (R : List Ent), vs = [.ref lg] ∧ W H H ((lg, .dK (sfK f)) :: R) ∧ Full f ∧ f.map (·.1) = names6 ∧
  ∀ H' b, W H H' (sL A b f ++ ((lg, .dK (sfK f)) :: R)) → Q (.ref b.q) H'
theorem of_made {A : Ads} {vs : List V} {H : Hp} {Q : VK} {E : XK} (h :  ∃ (lg : Addr) (f : Sf) (R : List Ent), vs = [.ref lg] ∧ W H H ((lg, .dK (sfK f)) :: R) ∧ Full f ∧ f.map (·.1) = names6 ∧
  ∀ H' b, W H H' (sL A b f ++ ((lg, .dK (sfK f)) :: R)) → Q (.ref b.q) H') : sp_made A vs H Q E := by unfold sp_made; exact h
theorem okN_names : ∀ x ∈ names6, okN x = true ∧ x.length < 1000 := by decide +kernel
theorem dvi (a b : Int) : decide (V.int a = V.int b) = decide (a = b) := by
  by_cases h : a = b
  · subst h
    exact (decide_eq_true (p := V.int a = V.int a) rfl).trans (decide_eq_true (p := a = a) rfl).symm
  · rw [decide_eq_false h]; exact decide_eq_false fun z => h (V.int.inj z)
section
variable {P : Program} {w : World} {K : PySem.W.Frag} {mg : Str → Option Value} {base : Heap} {A : Ads}
theorem ok_law_shelf (T : Txt K mg A) : FnOk P w K mg base (L2.CX P w) 5 A.f_law_shelf A.d_law_shelf P_law_shelf (sp_shelf K) := by
  refine T.F_law_shelf.okX sc_law_shelf (fun vs H Q E h => ?_) (fun cdv Ar outer s H vs Q E hr h => ?_)
  · unfold sp_shelf at h; obtain ⟨sa, t, ns, n, R, rfl, _⟩ := h; rfl
  · unfold sp_shelf at h; obtain ⟨sa, t, ns, n, R, rfl, sc, w, hn, k⟩ := h
    refine ⟨_, (pss_cons (ps_set (i := 2) sc_law_shelf.nd rfl (by first | exact Or.inl rfl | exact Or.inr rfl) my_dnew)
      (pss_cons (my_for ownE rfl (pi_list (my_lst (pa_cons pe_str (pa_cons pe_str (pa_cons pe_str (pa_cons pe_str (pa_cons pe_str (pa_cons pe_str pa_nil)))))))) (pg_name (i := 3) sc_law_shelf.nd rfl (by first | exact Or.inl rfl | exact Or.inr rfl))
        (pss_one (my_dput (hu_of hr) (pv 2) (pv 3) (pe_op op_add pe_int (my_call (ok_law_draw T) (hr.mono (by decide)) (by rfl) T.g_law_draw T.k_law_draw T.b_law_draw passE (pa_cons (pv 0) (pa_cons (pv 1) (pa_cons (my_call (ok_law_pick T) (hr.mono (by decide)) (by rfl) T.g_law_pick T.k_law_pick T.b_law_pick passE (pa_cons (pv 0) (pa_cons (pv 1) (pa_cons (my_lst (pa_cons pe_int (pa_cons pe_int (pa_cons pe_int pa_nil)))) pa_nil)))) pa_nil))))))))
      (pss_one (ps_ret (pv 2))))), ?_⟩
    refine st_new w fun lg H1 w1 => ?_
    walk_at "rd"
    refine st_new w1 fun nl H2 w2 => ?_
    walk_at "rd"
    refine st_forL (xs := names6.map V.str) (fun i σ H' => ∃ (f : Sf) (u : Option V), σ = [some (.ref sa), some (.ref t), some (.ref lg), u] ∧ f.map (·.1) = names6.take i ∧ (∀ q ∈ f, 1 ≤ q.2 ∧ q.2 ≤ 40) ∧ W H H' ((nl, .lst (names6.map V.str)) :: (lg, .dK (sfK f)) :: (t, .lst (zeros (n + 2 * i))) :: R))
      ⟨[], none, rfl, rfl, (fun _ z => nomatch z), w2⟩ (fun i σ H' _ ⟨f, u, _, _, _, w3⟩ => SqL.of (w3.get 0 rfl)) ?_ ?_
    · rintro i x σ H' hx ⟨f, u, rfl, hf, hb, w3⟩
      have hi : i < 6 := by have := (List.getElem?_eq_some_iff.mp hx).1; exact this
      obtain ⟨nm, hnm⟩ : ∃ nm, names6[i]? = some nm := ⟨_, List.getElem?_eq_getElem (show i < names6.length from hi)⟩
      rw [List.getElem?_map, hnm] at hx
      cases hx
      have hnone : f.lookup nm = none := by
        rw [List.lookup_eq_none_iff]
        intro q hq
        have h1 : q.1 ∈ names6.take i := by rw [← hf]; exact List.mem_map_of_mem hq
        have h2 : nm ∉ names6.take i := by
          have : names6.Nodup := by decide +kernel
          intro z
          obtain ⟨j, hj⟩ := List.getElem?_of_mem z
          rw [List.getElem?_take] at hj
          split at hj
          · rename_i hji
            have := nd_get this hj hnm
            omega
          · cases hj
        have hne : nm ≠ q.1 := fun z => h2 (by rw [z]; exact h1)
        simp [hne]
      walk_at "rd"
      refine st_new w3 fun l3 H3 w4 => ?_
      walk_at "rd"
      refine pick_at w4 3 0 rfl rfl (by walk_at "scr") (by omega) (fun z => nomatch z) fun H4 v w5 hv _ => ?_
      have hv2 := pick_map (l := [(3 : Int), 12, 40]) (g := V.int) 3 hv
      obtain ⟨m, hm, hm0, hm1⟩ : ∃ m : Int, v = .int m ∧ 1 ≤ m ∧ m ≤ 40 := by
        have gen : ∀ j : Nat, 1 ≤ [(3 : Int), 12, 40].getD j 3 ∧ [(3 : Int), 12, 40].getD j 3 ≤ 40 := fun j => match j with
          | 0 => by decide
          | 1 => by decide
          | 2 => by decide
          | j + 3 => ⟨by show (1 : Int) ≤ 3; decide, by show (3 : Int) ≤ 40; decide⟩
        exact ⟨_, hv2, gen _⟩
      subst hm
      refine draw_at w5 3 rfl (by walk_at "scr") (by omega) (by omega) fun H5 w6 d0 d1 => ?_
      walk_at "rd"
      refine st_dput w6 2 (key := Sum.inr nm) rfl rfl (by rw [sfK_len]; have := congrArg List.length hf; rw [List.length_map, List.length_take] at this; exact szL (by omega)) fun H6 w7 => ?_
      rw [sfK_put hnone] at w7
      refine ⟨f ++ [(nm, 1 + drawP ns (n + 2 * i + 1) m)], _, rfl, ?_, ?_, ?_⟩
      · rw [List.map_append, hf, List.take_succ, hnm]; rfl
      · intro q hq
        rcases List.mem_append.mp hq with z | z
        · exact hb q z
        · rw [List.mem_singleton.mp z]
          show 1 ≤ 1 + drawP ns (n + 2 * i + 1) m ∧ 1 + drawP ns (n + 2 * i + 1) m ≤ 40
          omega
      · have w8 : W H H6 ((nl, .lst (names6.map V.str)) :: (lg, .dK (sfK (f ++ [(nm, 1 + drawP ns (n + 2 * i + 1) m)]))) :: (t, .lst (zeros (n + 2 * i + 1 + 1))) :: R) := W.drop1 w7
        rw [show n + 2 * (i + 1) = n + 2 * i + 1 + 1 by omega]
        exact w8
    · rintro σ H' ⟨f, u, rfl, hf, hb, w3⟩
      walk_at "rd"
      have hf6 : f.map (·.1) = names6 := hf
      refine k H' lg f (fun x hx => ?_) hf6 (w3.pick 3 [2, 1])
      rw [← hf6] at hx
      cases hl : f.lookup x with
      | none =>
        exfalso
        obtain ⟨q, hq, e⟩ := List.mem_map.mp hx
        have := (List.lookup_eq_none_iff.mp hl) q hq
        rw [← e] at this
        simp at this
      | some m =>
        have hm : (x, m) ∈ f := by
          obtain ⟨l1, l2, e, _⟩ := List.lookup_eq_some_iff.mp hl
          rw [e]
          exact List.mem_append_right _ List.mem_cons_self
        exact ⟨m, rfl, hb _ hm⟩
theorem ok_law_made (T : Txt K mg A) : FnOk P w K mg base (L2.CX P w) 3 A.f_law_made A.d_law_made P_law_made (sp_made A) := by
  refine T.F_law_made.okX sc_law_made (fun vs H Q E h => ?_) (fun cdv Ar outer s H vs Q E hr h => ?_)
  · unfold sp_made at h; obtain ⟨lg, f, R, rfl, _⟩ := h; rfl
  · unfold sp_made at h; obtain ⟨lg, f, R, rfl, w, hf, hk, k⟩ := h
    refine ⟨_, (pss_cons (ps_set (i := 1) sc_law_made.nd rfl (by first | exact Or.inl rfl | exact Or.inr rfl) (my_make0 T.M_Shelf (ok_Shelf_init__ T) (hr.mono (by decide)) (by rfl) T.g_Shelf T.b_Shelf_init__ passE))
      (pss_cons (my_forK ownE rfl (pi_keysM (pv 0)) (pg_name (i := 2) sc_law_made.nd rfl (by first | exact Or.inl rfl | exact Or.inr rfl))
        (pss_one (ps_expr (my_meth (pv 1) T.c_Shelf T.m_Shelf_add (ok_Shelf_add T) (hr.mono (by decide)) T.b_Shelf_add passE (pa_cons (pv 2) (pa_cons (pe_dget (hu_of hr) (pv 0) (pv 2) (fun _ _ => rfl)) pa_nil))))))
      (pss_one (ps_ret (pv 1))))), ?_⟩
    walk_at "rd"
    refine st_make w fun q dx H1 w1 => ?_
    refine of_Shelf_init ⟨q, dx, _, rfl, w1.now, fun H2 d w2 => ?_⟩
    have w3 : W H H2 (sL A ⟨q, dx, d⟩ [] ++ ((lg, .dK (sfK f)) :: R)) := w1.tr w2
    clear w1 w2
    have hlen : f.length = 6 := by have := congrArg List.length hk; rw [List.length_map] at this; exact this
    have hnd : (f.map (·.1)).Nodup := by rw [hk]; decide +kernel
    walk_at "rd"
    refine st_forK (kvs := sfK f) (l := lg) (j := 2) (fun od i σ H' => ∃ u : Option V, σ = [some (.ref lg), some (.ref q), u] ∧ i ≤ 6 ∧ W H H' (sL A ⟨q, dx, d⟩ (f.take i) ++ ((lg, .frz od (.dK (sfK f))) :: R))) w3 rfl rfl
      (fun od H' w4 => ⟨none, rfl, by decide, w4⟩) (fun od i σ H' ⟨u, _, _, w4⟩ => w4.get 2 rfl) ?_ ?_
    · rintro od i ky v σ H' rt bk hx ⟨u, rfl, hi6, w4⟩
      unfold sfK at hx
      rw [List.getElem?_map] at hx
      cases hq : f[i]? with
      | none => rw [hq] at hx; cases hx
      | some pr =>
        obtain ⟨x, m⟩ := pr
        rw [hq] at hx
        cases hx
        have hi : i < f.length := (List.getElem?_eq_some_iff.mp hq).1
        have hxm : x ∈ names6 := by rw [← hk]; exact List.mem_map_of_mem (List.mem_of_getElem? hq)
        have hnone : (f.take i).lookup x = none := by
          rw [List.lookup_eq_none_iff]
          intro q hq2
          have hne : x ≠ q.1 := fun z => by
            obtain ⟨j, hj⟩ := List.getElem?_of_mem hq2
            rw [List.getElem?_take] at hj
            split at hj
            · rename_i hji
              have a1 : (f.map (·.1))[j]? = some x := by rw [List.getElem?_map, hj, z]; rfl
              have a2 : (f.map (·.1))[i]? = some x := by rw [List.getElem?_map, hq]; rfl
              have := nd_get hnd a1 a2
              omega
            · cases hj
          simp [hne]
        have hlk : f.lookup x = some m := by
          cases hl : f.lookup x with
          | none =>
            have := (List.lookup_eq_none_iff.mp hl) (x, m) (List.mem_of_getElem? hq)
            simp at this
          | some m2 =>
            obtain ⟨l1, l2, e, h1⟩ := List.lookup_eq_some_iff.mp hl
            have hm2 : (x, m2) ∈ f := by rw [e]; exact List.mem_append_right _ List.mem_cons_self
            obtain ⟨j, hj⟩ := List.getElem?_of_mem hm2
            have a1 : (f.map (·.1))[j]? = some x := by rw [List.getElem?_map, hj]; rfl
            have a2 : (f.map (·.1))[i]? = some x := by rw [List.getElem?_map, hq]; rfl
            have := nd_get hnd a1 a2
            subst this
            rw [hq] at hj
            cases hj
            rfl
        have hb := hf x hxm
        rw [hlk] at hb
        obtain ⟨m3, e3, hb0, hb1⟩ := hb
        cases e3
        have hok := okN_names x hxm
        walk_at "rd"
        refine ⟨?_, ?_⟩
        · have e1 : valV (sfK f) (Sum.inr x) = some (.int m) := by rw [sfK_val, hlk]; rfl
          rw [← e1]
          exact .inl ⟨sfK f, Sum.inr x, .inr ⟨od, w4.get 2 rfl⟩, rfl, rfl⟩
        refine st_call (of_Shelf_add ⟨⟨q, dx, d⟩, f.take i, x, m, _, rfl, w4.now, hok.2, by rw [List.length_take]; omega, fun _ _ _ _ H3 w5 => ?_, fun z => absurd ⟨hok.1, hnone, by rw [List.length_take]; omega⟩ z, fun _ _ _ z => absurd ⟨hb0, hb1⟩ z⟩)
        refine ⟨_, rfl, by omega, ?_⟩
        have e : f.take (i + 1) = f.take i ++ [(x, m)] := by rw [List.take_succ, hq]; rfl
        rw [e]
        exact w4.tr w5
    · rintro od σ H' ⟨u, rfl, _, w4⟩
      rw [sfK_len, List.take_length] at w4
      walk_at "rd"
      have w5 := w4.set 2 (.dK (sfK f)) rfl rfl
      exact k _ ⟨q, dx, d⟩ w5
end
end TR
namespace TR
open PySem L2
/-! ### ticks at once, one by one -/
theorem tick1_stop {f : Sf} {s : Pl} (h : s.plays = false) : tick1 f s = s := by unfold tick1; rw [if_neg (by rw [h]; exact Bool.false_ne_true)]
theorem tickP_stop {f : Sf} {s : Pl} (h : s.plays = false) : ∀ n : Nat, tickP f n s = s
  | 0 => rfl
  | n + 1 => by
    show tickP f n (tick1 f s) = s
    rw [tick1_stop h]
    exact tickP_stop h n
theorem tickP_add (f : Sf) : ∀ (a b : Nat) (s : Pl), tickP f (a + b) s = tickP f b (tickP f a s)
  | 0, b, s => by rw [Nat.zero_add]; rfl
  | a + 1, b, s => by
    rw [show a + 1 + b = (a + b) + 1 by omega]
    exact tickP_add f a b (tick1 f s)
theorem beginP_time (f : Sf) (s : Pl) (e : Option Int) (j : Bool) : (beginP f s e j).time = s.time := by cases e <;> rfl
theorem turnP_time (f : Sf) (s : Pl) : (turnP f s).time = s.time := by
  unfold turnP
  split
  · rfl
  · split
    · split
      · unfold goOn
        rw [beginP_time]
        show (nextS s false).time = s.time
        rw [nextS_same]
      · rfl
    · split
      · exact beginP_time f _ none false
      · rfl
theorem sleepP_time (s : Pl) : (sleepP s).time = s.time := by
  unfold sleepP
  split
  · rfl
  · split <;> rfl
theorem stepP_time (f : Sf) (s : Pl) : (stepP f s).time = s.time + 1 := by
  unfold stepP
  rw [sleepP_time, turnP_time]
  rfl
theorem tickP_time {f : Sf} : ∀ (n : Nat) {s : Pl}, (tickP f n s).plays = true → (tickP f n s).time = s.time + n
  | 0, s, _ => by simp [tickP]
  | n + 1, s, h => by
    by_cases hp : s.plays = true
    · have h1 : tickP f (n + 1) s = tickP f n (stepP f s) := by
        show tickP f n (tick1 f s) = _
        unfold tick1
        rw [if_pos hp]
      rw [h1] at h ⊢
      rw [tickP_time n h, stepP_time]
      push_cast
      omega
    · have hp : s.plays = false := by simpa using hp
      rw [tickP_stop hp] at h
      rw [hp] at h
      cases h
theorem pause_resume {f : Sf} {s : Pl} (ok : s.Ok f) (hp : s.plays = true) (n : Nat) : resumeP f (tickP f n { s with plays := false }) = s := by
  rw [tickP_stop rfl]
  obtain ⟨m, hm⟩ := ok.now_of hp
  obtain ⟨pov, o, time, now, spot, old, soon, past, rows, plays, stops, sleep⟩ := s
  have hm : now = some m := hm
  subst hm
  have hp : plays = true := hp
  subst hp
  rfl
end TR
namespace TR
open PySem L2
/-! ### sleeps, stops, what comes next -/
theorem beginP_sleep (f : Sf) (s : Pl) (e : Option Int) (j : Bool) (x : Option Int) : beginP f { s with sleep := x } e j = { beginP f s e j with sleep := x } := by cases e <;> rfl
theorem nextS_sleep (s : Pl) (l : Bool) (x : Option Int) : nextS { s with sleep := x } l = { nextS s l with sleep := x } := by
  unfold nextS
  simp only
  split <;> rfl
theorem turnP_sleep (f : Sf) (s : Pl) (x : Option Int) : turnP f { s with sleep := x } = { turnP f s with sleep := x } := by
  have e0 : foundP { s with sleep := x } = foundP s := rfl
  unfold turnP
  simp only
  rw [e0]
  split
  · rfl
  · rename_i n hn
    split
    · rename_i y hy
      have e1 : joinL f { s with sleep := x } n y = joinL f s n y := rfl
      rw [e1]
      split
      · unfold goOn
        simp only
        rw [nextS_sleep]
        exact beginP_sleep f { nextS s false with past := s.past ++ [n] } (some y) _ x
      · rfl
    · split
      · rfl
      · rfl
theorem turnP_sl (f : Sf) (s : Pl) : (turnP f s).sleep = s.sleep := by
  have e := turnP_sleep f s s.sleep
  have e2 : ({ s with sleep := s.sleep } : Pl) = s := rfl
  rw [e2] at e
  have := congrArg Pl.sleep e
  exact this
theorem stepP_none {f : Sf} {s : Pl} (h : s.sleep = none) : stepP f s = turnP f (preP f s) ∧ (stepP f s).sleep = none := by
  have e1 : (turnP f (preP f s)).sleep = none := by rw [turnP_sl]; exact h
  have e2 : stepP f s = turnP f (preP f s) := by unfold stepP sleepP; rw [e1]
  exact ⟨e2, by rw [e2]; exact e1⟩
theorem stepP_some {f : Sf} {s : Pl} (h : s.sleep = none) (k : Int) : stepP f { s with sleep := some k } = sleepP { stepP f s with sleep := some k } := by
  rw [(stepP_none h).1]
  unfold stepP
  have e : preP f { s with sleep := some k } = { preP f s with sleep := some k } := rfl
  rw [e, turnP_sleep]
theorem sleep_run {f : Sf} (d : Nat) : ∀ (k : Nat) (s : Pl), s.sleep = none → 1 ≤ k → ∃ x, tickP f (k + d) { s with sleep := some (k : Int) } = { tickP f k s with plays := false, sleep := x }
  | 0, s, _, h => by omega
  | k + 1, s, hs, _ => by
    by_cases hp : s.plays = true
    · have e1 : tickP f (k + 1 + d) { s with sleep := some ((k + 1 : Nat) : Int) } = tickP f (k + d) (stepP f { s with sleep := some ((k + 1 : Nat) : Int) }) := by
        rw [show k + 1 + d = (k + d) + 1 by omega]
        show tickP f (k + d) (tick1 f { s with sleep := some ((k + 1 : Nat) : Int) }) = _
        unfold tick1
        rw [if_pos hp]
      have e2 : tickP f (k + 1) s = tickP f k (stepP f s) := by
        show tickP f k (tick1 f s) = _
        unfold tick1
        rw [if_pos hp]
      rw [e1, e2, stepP_some hs]
      have hs1 := (stepP_none (f := f) hs).2
      generalize stepP f s = s1 at *
      by_cases hk : k = 0
      · subst hk
        refine ⟨none, ?_⟩
        have e3 : sleepP { s1 with sleep := some ((0 + 1 : Nat) : Int) } = { s1 with sleep := none, plays := false } := rfl
        rw [e3, tickP_stop rfl]
        rfl
      · have e3 : sleepP { s1 with sleep := some ((k + 1 : Nat) : Int) } = { s1 with sleep := some (k : Int) } := by
          unfold sleepP
          simp only
          rw [if_neg (by push_cast; omega), show ((k + 1 : Nat) : Int) - 1 = (k : Int) by push_cast; omega]
        rw [e3]
        exact sleep_run d k s1 hs1 (by omega)
    · have hp : s.plays = false := by simpa using hp
      refine ⟨some ((k + 1 : Nat) : Int), ?_⟩
      rw [tickP_stop (s := { s with sleep := some ((k + 1 : Nat) : Int) }) hp, tickP_stop hp]
      obtain ⟨pov, o, time, now, spot, old, soon, past, rows, plays, stops, sleep⟩ := s
      have hp : plays = false := hp
      subst hp
      rfl
/-- told to stop: the spot goes on -/
theorem stop_run {f : Sf} {n : Int} : ∀ (k : Nat) (s : Pl), s.stops = true → s.sleep = none → s.plays = true → s.now = some n → s.spot + k < longO f s.o n →
    (tickP f k s).now = some n ∧ (tickP f k s).spot = s.spot + k ∧ (tickP f k s).plays = true ∧ (tickP f k s).stops = true ∧ (tickP f k s).sleep = none ∧ (tickP f k s).o = s.o ∧ (tickP f k s).soon = s.soon ∧ (tickP f k s).past = s.past
  | 0, s, h1, h2, h3, h4, _ => ⟨h4, by simp [tickP], h3, h1, h2, rfl, rfl, rfl⟩
  | k + 1, s, h1, h2, h3, h4, h5 => by
    have e2 : tickP f (k + 1) s = tickP f k (stepP f s) := by
      show tickP f k (tick1 f s) = _
      unfold tick1
      rw [if_pos h3]
    have e3 : stepP f s = preP f s := by
      rw [(stepP_none h2).1]
      have hf : foundP (preP f s) = none := by unfold foundP; rw [if_pos (show (preP f s).stops = true from h1)]
      rw [turnP_none (f := f) (s := preP f s) h4 hf]
      exact if_neg (by show ¬ longO f s.o n ≤ s.spot + 1; push_cast at h5; omega)
    rw [e2, e3]
    obtain ⟨a, b, c, d, e, g, i, j⟩ := stop_run k (preP f s) h1 h2 h3 h4 (by show s.spot + 1 + k < longO f s.o n; push_cast at h5; omega)
    exact ⟨a, by rw [b]; show s.spot + 1 + k = _; push_cast; omega, c, d, e, g, i, j⟩
theorem stop_end {f : Sf} {s : Pl} {n : Int} (h1 : s.stops = true) (h2 : s.sleep = none) (h3 : s.plays = true) (h4 : s.now = some n) (h5 : s.spot + 1 = longO f s.o n) : tickP f 1 s = endP f (preP f s) n := by
  have e2 : tickP f 1 s = stepP f s := by
    show tick1 f s = _
    unfold tick1
    rw [if_pos h3]
  rw [e2, (stepP_none h2).1]
  have hf : foundP (preP f s) = none := by unfold foundP; rw [if_pos (show (preP f s).stops = true from h1)]
  rw [turnP_none (f := f) (s := preP f s) h4 hf]
  exact if_pos (by show longO f s.o n ≤ s.spot + 1; omega)
/-- something comes next -/
def Comes (s : Pl) : Prop := s.stops = false ∧ ∃ x, nextV s false = some x
theorem comes_all {f : Sf} {s : Pl} (ok : s.Ok f) (h1 : s.stops = false) (h2 : s.o.again = "all") (h3 : s.o.q.turn ≠ []) : Comes s := by
  refine ⟨h1, ?_⟩
  unfold nextV
  cases hs : s.soon with
  | cons x r => exact ⟨x, rfl⟩
  | nil =>
    simp only
    rw [if_neg Bool.false_ne_true]
    unfold afterV
    rw [if_neg (fun z => by have := z.1; rw [h2] at this; exact absurd this (by decide +kernel))]
    unfold skipV
    by_cases hm : s.o.mixed = true
    · rw [if_pos hm]
      unfold popO
      cases hd : (refill s.o s.now).deck with
      | cons x r => exact ⟨x, rfl⟩
      | nil =>
        exfalso
        unfold refill at hd
        by_cases hc : s.o.deck = [] ∧ s.o.again = "all"
        · rw [if_pos hc] at hd
          have hl := mixL_len s.o.num s.o.q.turn
          have hlt := List.length_pos_iff.mpr h3
          simp only at hd
          split at hd
          · rename_i hc2
            have := (swE_perm hc2.1).length_eq
            rw [hd] at this
            simp at this
            omega
          · rw [hd] at hl
            simp at hl
            omega
        · rw [if_neg hc] at hd
          exact hc ⟨hd, h2⟩
    · rw [if_neg hm]
      unfold plainN
      cases hf : fromO s.o s.now with
      | some y => exact ⟨y, rfl⟩
      | none =>
        simp only
        rw [if_pos h2]
        cases ht : s.o.q.turn with
        | nil => exact absurd ht h3
        | cons y r => exact ⟨y, rfl⟩
/-- within its ticks the next one begins -/
theorem next_run {f : Sf} : ∀ (k : Nat) (s : Pl) (n : Int), s.Ok f → s.plays = true → s.sleep = none → Comes s → s.now = some n → (longO f s.o n - s.spot).toNat ≤ k →
    ∃ (j : Nat) (e : Int), 1 ≤ j ∧ j ≤ k ∧ (tickP f j s).rows = s.rows ++ [(s.time + j, e)] ∧ (tickP f j s).now = some e ∧ (tickP f j s).spot = 0 ∧ (tickP f j s).plays = true ∧ (∀ q, q ≥ j → goP f (s.rows.length + 1) q s = tickP f j s) ∧ (tickP f j s).sleep = none
  | k, s, n, ok, hp, hs, hc, hn, hk => by
    have hb := (ok.nw n hn).2
    obtain ⟨h1, x, hx⟩ := hc
    have e2 : ∀ q, tickP f (q + 1) s = tickP f q (stepP f s) := fun q => by
      show tickP f q (tick1 f s) = _
      unfold tick1
      rw [if_pos hp]
    have hst := stepP_none (f := f) hs
    have hfp : foundP (preP f s) = some x := by
      unfold foundP
      rw [if_neg (by show ¬ s.stops = true; rw [h1]; exact Bool.false_ne_true)]
      exact hx
    have okp := Pl.Ok.pre ok (by rw [hn]; exact fun z => nomatch z)
    have kn := ok.tn.kn (ok.nw n hn).1
    have kx := okp.tn.kn (okp.o.has (nextV_mem okp.o okp.sn (show nextV (preP f s) false = some x from hx)))
    have et := turnP_some (f := f) (s := preP f s) (x := x) hn hfp
    have hj := joinL_nn (f := f) (s := preP f s) (n := n) (x := x) ok.ov.1 kn.lo kx.lo
    match k, hk with
    | 0, hk => omega
    | k + 1, hk =>
      by_cases hg : longO f s.o n - joinL f (preP f s) n x ≤ s.spot + 1
      · have es : stepP f s = goOn f (preP f s) n x := by
          rw [hst.1, et]
          exact if_pos hg
        have ens : (nextS (preP f s) false) = { preP f s with o := (nextS (preP f s) false).o, soon := (nextS (preP f s) false).soon } := nextS_same _ _
        have er : (goOn f (preP f s) n x).rows = s.rows ++ [(s.time + 1, x)] := by
          unfold goOn
          show (nextS (preP f s) false).rows ++ [((nextS (preP f s) false).time, x)] = _
          rw [ens]
          rfl
        have epl : (goOn f (preP f s) n x).plays = true := by
          unfold goOn
          rw [beginP_plays]
          show (nextS (preP f s) false).plays = true
          rw [ens]
          exact hp
        refine ⟨1, x, Nat.le_refl _, by omega, ?_, ?_, ?_, ?_, ?_, ?_⟩
        · show (tickP f (0 + 1) s).rows = _
          rw [e2 0, es]
          exact er
        · show (tickP f (0 + 1) s).now = _
          rw [e2 0, es]
          rfl
        · show (tickP f (0 + 1) s).spot = _
          rw [e2 0, es]
          rfl
        · show (tickP f (0 + 1) s).plays = _
          rw [e2 0, es]
          exact epl
        · intro q hq
          obtain ⟨q', rfl⟩ : ∃ q', q = q' + 1 := ⟨q - 1, by omega⟩
          rw [goP_go ⟨hp, Nat.lt_succ_self _⟩]
          show _ = tickP f (0 + 1) s
          rw [e2 0, es]
          exact goP_stop (fun z => by
            have := z.2
            rw [er, List.length_append] at this
            simp at this)
        · show (tickP f (0 + 1) s).sleep = _
          rw [e2 0]
          exact hst.2
      · have es : stepP f s = preP f s := by
          rw [hst.1, et]
          exact if_neg hg
        have ok1 : (preP f s).Ok f := by rw [← es]; exact ok.step hp
        obtain ⟨j, e, a1, a2, a3, a4, a5, a6, a7, a8⟩ := next_run k (preP f s) n ok1 hp hs ⟨h1, x, hx⟩ hn (by show (longO f s.o n - (s.spot + 1)).toNat ≤ k; omega)
        refine ⟨j + 1, e, by omega, by omega, ?_, ?_, ?_, ?_, ?_, ?_⟩
        · rw [e2, es, a3]
          show s.rows ++ [(s.time + 1 + j, e)] = _
          rw [show s.time + 1 + (j : Int) = s.time + ((j + 1 : Nat) : Int) by push_cast; omega]
        · rw [e2, es]; exact a4
        · rw [e2, es]; exact a5
        · rw [e2, es]; exact a6
        · intro q hq
          obtain ⟨q', rfl⟩ : ∃ q', q = q' + 1 := ⟨q - 1, by omega⟩
          rw [goP_go ⟨hp, Nat.lt_succ_self _⟩, e2, es]
          exact a7 q' (by omega)
        · rw [e2, es]; exact a8
theorem ahead1 {f : Sf} {s : Pl} {n : Int} (ok : s.Ok f) (hp : s.plays = true) (hs : s.sleep = none) (hc : Comes s) (hn : s.now = some n) :
    ∃ (j : Nat) (e : Int), 1 ≤ j ∧ j ≤ 40 ∧ aheadP f s 1 = [((j : Int), e)] ∧ (tickP f j s).now = some e ∧ (tickP f j s).spot = 0 ∧ (tickP f j s).plays = true := by
  have hb := (ok.nw n hn).2
  have kn := ok.tn.kn (ok.nw n hn).1
  have hhi := kn.hi
  obtain ⟨j, e, a1, a2, a3, a4, a5, a6, a7, a8⟩ := next_run 40 s n ok hp hs hc hn (by omega)
  refine ⟨j, e, a1, a2, ?_, a4, a5, a6⟩
  have ew : wakeP s = s := by
    obtain ⟨pov, o, time, now, spot, old, soon, past, rows, plays, stops, sleep⟩ := s
    have hn : now = some n := hn
    have hp : plays = true := hp
    have hs : sleep = none := hs
    subst hn hp hs
    rfl
  unfold aheadP aheadS
  rw [ew, a7 aheadFuel (by unfold aheadFuel; omega), a3, List.drop_left]
  show [(s.time + (j : Int) - s.time, e)] = _
  rw [show s.time + (j : Int) - s.time = (j : Int) by omega]
end TR

namespace TR
open PySem L2
/-! ### one player, and X -/
abbrev oL (A : Ads) (a : PA) (b : SA) (s : Pl) (ov : V) (rs : List V) (f : Sf) (X : List Ent) : List Ent := plL A a (.ref b.q) s ov rs ++ (sL A b f ++ X)
def OP (A : Ads) (H0 H : Hp) (a : PA) (b : SA) (s : Pl) (f : Sf) (X : List Ent) : Prop := ∃ ov rs, W H0 H (oL A a b s ov rs f X) ∧ PlF H s ov rs
section
variable {P : Program} {w : World} {K : PySem.W.Frag} {mg : Str → Option Value} {base : Heap} {A : Ads}
variable {H0 H : Hp} {a : PA} {b : SA} {s : Pl} {f : Sf} {X : List Ent} {Q : VK} {E : XK}
theorem OP.of {H' : Hp} {L : List Ent} (w : W H0 H L) (h : PlW A H H' a (.ref b.q) s (sL A b f ++ X)) : OP A H0 H' a b s f X := let ⟨ov, rs, v, g⟩ := h; ⟨ov, rs, w.tr v, g⟩
theorem OP.pw {ov : V} {rs : List V} (w : W H0 H (oL A a b s ov rs f X)) (g : PlF H s ov rs) : PlW A H H a (.ref b.q) s (sL A b f ++ X) := ⟨ov, rs, w.now, g⟩
theorem OP.cut {Y : List Ent} (h : OP A H0 H a b s f (Y ++ X)) : OP A H0 H a b s f X := by
  obtain ⟨ov, rs, w, g⟩ := h
  exact ⟨ov, rs, w.subl (List.Sublist.append_left (List.Sublist.append_left (List.sublist_append_right Y X) _) _), g⟩
theorem OP.cut1 {x : Ent} (h : OP A H0 H a b s f (x :: X)) : OP A H0 H a b s f X := OP.cut (Y := [x]) h
/-- X in another turn -/
theorem OP.perm {Y : List Ent} (h : OP A H0 H a b s f X) (p : X.Perm Y) : OP A H0 H a b s f Y := by
  obtain ⟨ov, rs, w, g⟩ := h
  exact ⟨ov, rs, w.perm (List.Perm.append_left _ (List.Perm.append_left _ p)), g⟩
theorem OP.draw {R : List Ent} {sa t : Addr} {ns : List Int} {n : Nat} {m : Int} (h : OP A H0 H a b s f ((t, .lst (zeros n)) :: R)) (sc : Scr K sa ns R) (hn : n ≤ 10000) (hm : 0 < m)
    (k : ∀ H', OP A H0 H' a b s f ((t, .lst (zeros (n + 1))) :: R) → Tps H H' → 0 ≤ drawP ns n m → drawP ns n m < m → Q (.int (drawP ns n m)) H') : xCall (sp_draw K) [.ref sa, .ref t, .int m] H Q E := by
  obtain ⟨ov, rs, w, g⟩ := h
  have w1 : W H0 H ((t, .lst (zeros n)) :: (plL A a (.ref b.q) s ov rs ++ (sL A b f ++ R))) := w.perm (by walk_at "perm")
  refine draw_at w1.now 0 rfl (by walk_at "scr") hn hm fun H' w2 d0 d1 => ?_
  replace w2 : W H H' ((t, .lst (zeros (n + 1))) :: (plL A a (.ref b.q) s ov rs ++ (sL A b f ++ R))) := w2
  have w3 : W H H' (oL A a b s ov rs f ((t, .lst (zeros (n + 1))) :: R)) := w2.perm (by walk_at "perm")
  exact k H' ⟨ov, rs, w1.tr w3, g.mono w3.tp⟩ w3.tp d0 d1
theorem OP.pickV {α : Type} {gv : α → V} {R : List Ent} {sa t l : Addr} {ns : List Int} {xs : List α} {n : Nat} (d : α) (h : OP A H0 H a b s f ((l, .lst (xs.map gv)) :: (t, .lst (zeros n)) :: R)) (sc : Scr K sa ns R) (hn : n ≤ 10000) (hx : xs ≠ [])
    (k : ∀ H' v, OP A H0 H' a b s f ((t, .lst (zeros (n + 1))) :: R) → Tps H H' → v = xs.getD (drawP ns n xs.length).toNat d → v ∈ xs → Q (gv v) H') : xCall (sp_pick K) [.ref sa, .ref t, .ref l] H Q E := by
  obtain ⟨ov, rs, w, g⟩ := h
  have w1 : W H0 H ((t, .lst (zeros n)) :: (l, .lst (xs.map gv)) :: (plL A a (.ref b.q) s ov rs ++ (sL A b f ++ R))) := w.perm (by walk_at "perm")
  refine pick_at w1.now 0 0 rfl rfl (by walk_at "scr") hn (fun z => hx (List.map_eq_nil_iff.mp z)) fun H' v w2 hv hvm => ?_
  replace w2 : W H H' ((t, .lst (zeros (n + 1))) :: (l, .lst (xs.map gv)) :: (plL A a (.ref b.q) s ov rs ++ (sL A b f ++ R))) := w2
  have w3 : W H H' (oL A a b s ov rs f ((t, .lst (zeros (n + 1))) :: R)) := (w2.subl (List.Sublist.cons₂ _ (List.Sublist.cons _ (List.Sublist.refl _)))).perm (by walk_at "perm")
  have e := pick_map (l := xs) (g := gv) d hv
  rw [List.length_map] at e
  subst e
  have hl := List.length_pos_iff.mpr hx
  have hlt : (drawP ns n xs.length).toNat < xs.length := by
    have h1 := drawP_lt ns n (m := (xs.length : Int)) (by omega)
    have h2 := drawP_nn ns n (m := (xs.length : Int)) (by omega)
    omega
  refine k H' _ ⟨ov, rs, w1.tr w3, g.mono w3.tp⟩ w3.tp rfl ?_
  rw [List.getD_eq_getElem?_getD, List.getElem?_eq_getElem hlt]
  exact List.getElem_mem hlt
theorem OP.new {o : HO} (h : OP A H0 H a b s f X) (k : ∀ p H', OP A H0 H' a b s f ((p, o) :: X) → Tps H H' → Q (.ref p) H') : xNew o H Q := by
  obtain ⟨ov, rs, w, g⟩ := h
  refine st_new w.now fun p H' w1 => ?_
  have w2 : W H H' (oL A a b s ov rs f ((p, o) :: X)) := w1.perm (by walk_at "perm")
  exact k p H' ⟨ov, rs, w.tr w2, g.mono w2.tp⟩ w2.tp
theorem OP.tick {m : Int} {N : Nat} (h : OP A H0 H a b s f X) (ok : s.Ok f) (hz : Sz s N) (hN : N ≤ 40000) (hm : 0 ≤ m ∧ m ≤ 200)
    (k : ∀ H' a', a'.p = a.p → OP A H0 H' a' b (tickP f m.toNat s) f X → Tps H H' → Q .non H') : xCall (sp_Player_tick A) [.ref a.p, .int m] H Q E := by
  obtain ⟨ov, rs, w, g⟩ := h
  exact st_call (of_Player_tick ⟨a, b, f, s, m, N, _, rfl, OP.pw w g, ok, hz, hN, fun _ H' a' ea pw => k H' a' ea (OP.of w pw) (let ⟨_, _, v, _⟩ := pw; v.tp), fun z => absurd hm z⟩)
theorem OP.resume (h : OP A H0 H a b s f X) (ok : s.Ok f) (hz : Sz s 50000) (k : ∀ H' a', a'.p = a.p → OP A H0 H' a' b (resumeP f s) f X → Tps H H' → Q .non H') : xCall (sp_Player_resume A) [.ref a.p] H Q E := by
  obtain ⟨ov, rs, w, g⟩ := h
  exact st_call (of_Player_resume ⟨a, b, f, s, _, rfl, OP.pw w g, ok.o, hz, fun H' a' ea pw => k H' a' ea (OP.of w pw) (let ⟨_, _, v, _⟩ := pw; v.tp)⟩)
theorem OP.skip (h : OP A H0 H a b s f X) (ok : s.Ok f) (hz : Sz s 50000) (k : ∀ H' a', a'.p = a.p → OP A H0 H' a' b (skipP f s) f X → Tps H H' → Q .non H') : xCall (sp_Player_skip A) [.ref a.p] H Q E := by
  obtain ⟨ov, rs, w, g⟩ := h
  exact st_call (of_Player_skip ⟨a, b, f, s, _, rfl, OP.pw w g, ok.o, hz, fun H' a' ea pw => k H' a' ea (OP.of w pw) (let ⟨_, _, v, _⟩ := pw; v.tp)⟩)
theorem OP.back (h : OP A H0 H a b s f X) (ok : s.Ok f) (hz : Sz s 50000) (k : ∀ H', OP A H0 H' a b (backP f s) f X → Tps H H' → Q .non H') : xCall (sp_Player_back A) [.ref a.p] H Q E := by
  obtain ⟨ov, rs, w, g⟩ := h
  exact st_call (of_Player_back ⟨a, b, f, s, _, rfl, OP.pw w g, ok.o, hz, fun H' pw => k H' (OP.of w pw) (let ⟨_, _, v, _⟩ := pw; v.tp)⟩)
theorem OP.play {e : Int} (h : OP A H0 H a b s f X) (ok : s.Ok f) (hz : Sz s 50000) (he : e ∈ s.o.q.turn) (k : ∀ H', OP A H0 H' a b (playP f s e) f X → Tps H H' → Q .non H') : xCall (sp_Player_play A) [.ref a.p, .int e] H Q E := by
  obtain ⟨ov, rs, w, g⟩ := h
  exact st_call (of_Player_play ⟨a, b, f, s, e, _, rfl, OP.pw w g, ok.o, hz, fun _ H' pw => k H' (OP.of w pw) (let ⟨_, _, v, _⟩ := pw; v.tp), fun z => absurd he z⟩)
theorem OP.seek {x n : Int} (h : OP A H0 H a b s f X) (ok : s.Ok f) (hn : s.now = some n) (hx : 0 ≤ x ∧ x < longO f s.o n) (k : ∀ H', OP A H0 H' a b (seekP s x) f X → Tps H H' → Q .non H') : xCall (sp_Player_seek A) [.ref a.p, .int x] H Q E := by
  obtain ⟨ov, rs, w, g⟩ := h
  refine st_call (of_Player_seek ⟨a, b, f, s, ov, rs, x, _, rfl, w.now, (fun m hm => ok.tn.kn (ok.nw m hm).1), fun m hm _ H' v => k H' ⟨.non, rs, w.tr v, ⟨rfl, g.rows.mono v.tp⟩⟩ v.tp, fun z => (by rw [hn] at z; cases z), fun m hm z => absurd ?_ z⟩)
  rw [hn] at hm
  cases hm
  exact hx
theorem OP.pause (h : OP A H0 H a b s f X) (k : ∀ H', OP A H0 H' a b { s with plays := false } f X → Tps H H' → Q .non H') : xCall (sp_Player_pause A) [.ref a.p] H Q E := by
  obtain ⟨ov, rs, w, g⟩ := h
  exact st_call (of_Player_pause ⟨a, .ref b.q, s, ov, rs, _, rfl, w.now, fun H' v => k H' ⟨ov, rs, w.tr v, ⟨g.old.mono v.tp, g.rows.mono v.tp⟩⟩ v.tp⟩)
theorem OP.stop {bb : Bool} (h : OP A H0 H a b s f X) (k : ∀ H', OP A H0 H' a b { s with stops := bb } f X → Tps H H' → Q .non H') : xCall (sp_Player_stop_behind A) [.ref a.p, .bl bb] H Q E := by
  obtain ⟨ov, rs, w, g⟩ := h
  exact st_call (of_Player_stop_behind ⟨a, .ref b.q, s, ov, rs, bb, _, rfl, w.now, fun H' v => k H' ⟨ov, rs, w.tr v, ⟨g.old.mono v.tp, g.rows.mono v.tp⟩⟩ v.tp⟩)
theorem OP.sleep {m : Option Int} (h : OP A H0 H a b s f X) (hm : ∀ kk, m = some kk → 1 ≤ kk ∧ kk ≤ 60) (k : ∀ H', OP A H0 H' a b { s with sleep := m } f X → Tps H H' → Q .non H') : xCall (sp_Player_sleep A) [.ref a.p, oV m] H Q E := by
  obtain ⟨ov, rs, w, g⟩ := h
  exact st_call (of_Player_sleep ⟨a, .ref b.q, s, ov, rs, m, _, rfl, w.now, fun _ H' v => k H' ⟨ov, rs, w.tr v, ⟨g.old.mono v.tp, g.rows.mono v.tp⟩⟩ v.tp, fun z => absurd hm z⟩)
theorem OP.again {x : Str} (h : OP A H0 H a b s f X) (hx : x ∈ repeats) (k : ∀ H', OP A H0 H' a b (againS s x) f X → Tps H H' → Q .non H') : xCall (sp_Player_set_again A) [.ref a.p, .str x] H Q E := by
  obtain ⟨ov, rs, w, g⟩ := h
  exact st_call (of_Player_set_again ⟨a, .ref b.q, s, ov, rs, x, _, rfl, w.now, fun _ H' v => k H' ⟨ov, rs, w.tr v, ⟨g.old.mono v.tp, g.rows.mono v.tp⟩⟩ v.tp, fun z => absurd hx z⟩)
theorem OP.mixed {bb : Bool} (h : OP A H0 H a b s f X) (ok : s.Ok f) (k : ∀ H' a', a'.p = a.p → OP A H0 H' a' b (mixedP s bb) f X → Tps H H' → Q .non H') : xCall (sp_Player_set_mixed A) [.ref a.p, .bl bb] H Q E := by
  obtain ⟨ov, rs, w, g⟩ := h
  exact st_call (of_Player_set_mixed ⟨a, .ref b.q, s, ov, rs, bb, _, rfl, w.now, ok.o, fun H' k' v => k H' { a with o := { a.o with k := k' } } rfl ⟨ov, rs, w.tr v, ⟨g.old.mono v.tp, g.rows.mono v.tp⟩⟩ v.tp⟩)
theorem OP.add {x : Str} {p : Int} (h : OP A H0 H a b s f X) (ok : s.Ok f) (ht : s.o.q.tunes.length < 1000) (hx : f.lookup x ≠ none) (hp : 0 ≤ p ∧ p ≤ s.o.q.turn.length ∧ s.o.q.turn.length ≠ 12)
    (k : ∀ H', OP A H0 H' a b (addP s x p) f X → Tps H H' → Q (.int ((s.o.q.tunes.length : Int) + 1)) H') : xCall (sp_Player_add A) [.ref a.p, .str x, .int p] H Q E := by
  obtain ⟨ov, rs, w, g⟩ := h
  exact st_call (of_Player_add ⟨a, b, f, s, ov, rs, x, p, _, rfl, w.now, ok.o, ht, fun _ _ H' v => k H' ⟨ov, rs, w.tr v, ⟨g.old.mono v.tp, g.rows.mono v.tp⟩⟩ v.tp, fun z => absurd z hx, fun _ z => absurd hp z⟩)
theorem OP.remove {e : Int} (h : OP A H0 H a b s f X) (ok : s.Ok f) (hz : s.soon.length ≤ 50000) (he : e ∈ s.o.q.turn) (k : ∀ H' a', a'.p = a.p → OP A H0 H' a' b (removeP s e) f X → Tps H H' → Q .non H') : xCall (sp_Player_remove A) [.ref a.p, .int e] H Q E := by
  obtain ⟨ov, rs, w, g⟩ := h
  exact st_call (of_Player_remove ⟨a, .ref b.q, s, ov, rs, e, _, rfl, w.now, ok.o, hz, fun _ H' so' v => k H' { a with so := so' } rfl ⟨ov, rs, w.tr v, ⟨g.old.mono v.tp, g.rows.mono v.tp⟩⟩ v.tp, fun z => absurd he z⟩)
theorem OP.soon {e : Int} (h : OP A H0 H a b s f X) (hz : s.soon.length ≤ 50000) (he : e ∈ s.o.q.turn) (k : ∀ H', OP A H0 H' a b (soonP s e) f X → Tps H H' → Q .non H') : xCall (sp_Player_play_soon A) [.ref a.p, .int e] H Q E := by
  obtain ⟨ov, rs, w, g⟩ := h
  exact st_call (of_Player_play_soon ⟨a, .ref b.q, s, ov, rs, e, _, rfl, w.now, hz, fun _ H' v => k H' ⟨ov, rs, w.tr v, ⟨g.old.mono v.tp, g.rows.mono v.tp⟩⟩ v.tp, fun z => absurd he z⟩)
theorem OP.ticks (h : OP A H0 H a b s f X) (k : Q (.int s.time) H) : xCall (sp_Player_ticks A) [.ref a.p] H Q E := by
  obtain ⟨ov, rs, w, g⟩ := h
  exact st_call (of_Player_ticks ⟨a, .ref b.q, s, ov, rs, _, rfl, w.now, k⟩)
theorem OP.tune {e : Int} (h : OP A H0 H a b s f X) (he : s.o.has e) (k : Q (.str (s.o.q.tune e)) H) : xCall (sp_Player_tune A) [.ref a.p, .int e] H Q E := by
  obtain ⟨ov, rs, w, g⟩ := h
  exact st_call (of_Player_tune ⟨a, .ref b.q, s, ov, rs, e, _, rfl, w.now, fun _ => k, fun z => absurd he z⟩)
theorem OP.state (h : OP A H0 H a b s f X) (k : ∀ H' t, OP A H0 H' a b s f X → Tps H H' → H' t = some (.tup [oV s.now, .int s.spot, .bl s.plays]) → Q (.ref t) H') : xCall (sp_Player_state A) [.ref a.p] H Q E := by
  obtain ⟨ov, rs, w, g⟩ := h
  exact st_call (of_Player_state ⟨a, .ref b.q, s, ov, rs, _, rfl, w.now, fun H' t v => k H' t ⟨ov, rs, w.tr v.drop1, g.mono v.tp⟩ v.tp (v.get 0 rfl)⟩)
theorem OP.entries (h : OP A H0 H a b s f X) (k : ∀ H' l, OP A H0 H' a b s f ((l, .lst (s.o.q.turn.map V.int)) :: X) → Tps H H' → Q (.ref l) H') : xCall (sp_Player_entries A) [.ref a.p] H Q E := by
  obtain ⟨ov, rs, w, g⟩ := h
  refine st_call (of_Player_entries ⟨a, .ref b.q, s, ov, rs, _, rfl, w.now, fun H' l v => ?_⟩)
  have w2 : W H H' (oL A a b s ov rs f ((l, .lst (s.o.q.turn.map V.int)) :: X)) := v.perm (by
    have e : ∀ (P S : List Ent) (x : Ent), (x :: (P ++ (S ++ X))).Perm (P ++ (S ++ (x :: X))) := fun P S x => by walk_at "perm"
    exact e _ _ _)
  exact k H' l ⟨ov, rs, w.tr w2, g.mono w2.tp⟩ w2.tp
theorem OP.log (h : OP A H0 H a b s f X) (k : ∀ H' l rs, OP A H0 H' a b s f ((l, .lst rs) :: X) → RowsAt H' rs s.rows → Tps H H' → Q (.ref l) H') : xCall (sp_Player_log A) [.ref a.p] H Q E := by
  obtain ⟨ov, rs, w, g⟩ := h
  refine st_call (of_Player_log ⟨a, .ref b.q, s, ov, rs, _, rfl, w.now, fun H' l v => ?_⟩)
  have w2 : W H H' (oL A a b s ov rs f ((l, .lst rs) :: X)) := v.perm (by
    have e : ∀ (P S : List Ent) (x : Ent), (x :: (P ++ (S ++ X))).Perm (P ++ (S ++ (x :: X))) := fun P S x => by walk_at "perm"
    exact e _ _ _)
  exact k H' l rs ⟨ov, rs, w.tr w2, g.mono w2.tp⟩ (g.rows.mono w2.tp) w2.tp
theorem OP.sounds (h : OP A H0 H a b s f X) (ok : s.Ok f) (k : ∀ H' l xs, OP A H0 H' a b s f ((l, .lst xs) :: X) → SnsAt H' xs (soundsP f s) → Tps H H' → Q (.ref l) H') : xCall (sp_Player_sounds A) [.ref a.p] H Q E := by
  obtain ⟨ov, rs, w, g⟩ := h
  refine st_call (of_Player_sounds ⟨a, b, f, s, ov, rs, _, rfl, w.now, g, (fun e q l z => ok.tn.kn (ok.od e q l z)), fun H' l xs v hs => ?_⟩)
  have w2 : W H H' (oL A a b s ov rs f ((l, .lst xs) :: X)) := v.perm (by
    have e : ∀ (P S : List Ent) (x : Ent), (x :: (P ++ (S ++ X))).Perm (P ++ (S ++ (x :: X))) := fun P S x => by walk_at "perm"
    exact e _ _ _)
  exact k H' l xs ⟨ov, rs, w.tr w2, g.mono w2.tp⟩ hs w2.tp
theorem OP.ahead {m : Int} {N : Nat} (h : OP A H0 H a b s f X) (ok : s.Ok f) (hz : Sz s N) (hN : N ≤ 40000) (hm : 0 ≤ m ∧ m ≤ 12)
    (k : ∀ H' l xs, OP A H0 H' a b s f ((l, .lst xs) :: X) → RowsAt H' xs (aheadP f s m.toNat) → Tps H H' → Q (.ref l) H') : xCall (sp_Player_ahead A) [.ref a.p, .int m] H Q E := by
  obtain ⟨ov, rs, w, g⟩ := h
  refine st_call (of_Player_ahead ⟨a, b, f, s, ov, rs, m, N, _, rfl, w.now, g, ok, hz, hN, fun _ H' l xs v r1 => ?_, fun z => absurd hm z⟩)
  have w2 : W H H' (oL A a b s ov rs f ((l, .lst xs) :: X)) := v.perm (by
    have e : ∀ (P S : List Ent) (x : Ent), (x :: (P ++ (S ++ X))).Perm (P ++ (S ++ (x :: X))) := fun P S x => by walk_at "perm"
    exact e _ _ _)
  exact k H' l xs ⟨ov, rs, w.tr w2, g.mono w2.tp⟩ r1 w2.tp
end
end TR
namespace TR
open PySem L2
/-! ### what is told ahead is what comes -/
theorem stepP_rows {f : Sf} {s : Pl} (hs : s.sleep = none) (hp : s.plays = true) : (stepP f s).rows = s.rows ∨ ∃ e, (stepP f s).rows = s.rows ++ [(s.time + 1, e)] ∧ (stepP f s).plays = true := by
  rw [(stepP_none hs).1]
  unfold turnP
  split
  · exact .inl rfl
  · rename_i n hn
    split
    · rename_i x hx
      split
      · refine .inr ⟨x, ?_, ?_⟩
        · unfold goOn
          show (nextS (preP f s) false).rows ++ [((nextS (preP f s) false).time, x)] = _
          rw [nextS_same]
          rfl
        · unfold goOn
          rw [beginP_plays]
          show (nextS (preP f s) false).plays = true
          rw [nextS_same]
          exact hp
      · exact .inl rfl
    · split
      · exact .inl rfl
      · exact .inl rfl
theorem tick1_sl {f : Sf} {s : Pl} (hs : s.sleep = none) : (tick1 f s).sleep = none := by
  unfold tick1
  split
  · exact (stepP_none hs).2
  · exact hs
theorem tickP_sl {f : Sf} : ∀ (n : Nat) {s : Pl}, s.sleep = none → (tickP f n s).sleep = none
  | 0, _, h => h
  | n + 1, _, h => tickP_sl n (tick1_sl h)
theorem tick_seg {f : Sf} : ∀ (d : Nat) (s : Pl), s.sleep = none → ∃ M, (tickP f d s).rows = s.rows ++ M ∧ ∀ p ∈ M, s.time < p.1 ∧ p.1 ≤ s.time + d
  | 0, s, _ => ⟨[], by simp [tickP], fun _ z => nomatch z⟩
  | d + 1, s, hs => by
    by_cases hp : s.plays = true
    · have e1 : tickP f (d + 1) s = tickP f d (stepP f s) := by
        show tickP f d (tick1 f s) = _
        unfold tick1
        rw [if_pos hp]
      obtain ⟨M, h1, h2⟩ := tick_seg (f := f) d (stepP f s) (stepP_none hs).2
      rw [stepP_time] at h2
      rcases stepP_rows (f := f) hs hp with e | ⟨x, e, _⟩
      · refine ⟨M, by rw [e1, h1, e], fun p hp => ?_⟩
        have := h2 p hp
        push_cast
        omega
      · refine ⟨(s.time + 1, x) :: M, by rw [e1, h1, e, List.append_assoc]; rfl, fun p hp => ?_⟩
        rcases List.mem_cons.mp hp with rfl | hp
        · push_cast
          omega
        · have := h2 p hp
          push_cast
          omega
    · have hp : s.plays = false := by simpa using hp
      exact ⟨[], by rw [tickP_stop hp]; simp, fun _ z => nomatch z⟩
/-- goP as ticks -/
theorem goP_tick {f : Sf} {N : Nat} : ∀ (q : Nat) (s : Pl), s.Ok f → measP f N s ≤ q → ∃ t, t ≤ q ∧ goP f N q s = tickP f t s ∧ (∀ i, i < t → (tickP f i s).plays = true ∧ (tickP f i s).rows.length < N) ∧ ¬ ((tickP f t s).plays = true ∧ (tickP f t s).rows.length < N)
  | 0, s, ok, hm => ⟨0, Nat.le_refl _, rfl, (fun _ z => absurd z (Nat.not_lt_zero _)), fun ⟨hp, _⟩ => by
      have := measP_pos (N := N) ok (show s.plays = true from hp)
      omega⟩
  | q + 1, s, ok, hm => by
    by_cases hc : s.plays = true ∧ s.rows.length < N
    · have hst := measP_step (N := N) ok hc.1 hc.2
      obtain ⟨t, h0, h1, h2, h3⟩ := goP_tick (N := N) q (stepP f s) (ok.step hc.1) (by omega)
      have e1 : ∀ d, tickP f (d + 1) s = tickP f d (stepP f s) := fun d => by
        show tickP f d (tick1 f s) = _
        unfold tick1
        rw [if_pos hc.1]
      refine ⟨t + 1, by omega, by rw [goP_go hc, h1, e1], fun i hi => ?_, by rw [e1]; exact h3⟩
      cases i with
      | zero => exact hc
      | succ i => rw [e1]; exact h2 i (by omega)
    · exact ⟨0, Nat.zero_le _, goP_stop hc, (fun _ z => absurd z (Nat.not_lt_zero _)), hc⟩
theorem measP_le {f : Sf} {s : Pl} (ok : s.Ok f) {m : Nat} (hm : m ≤ 12) : measP f (s.rows.length + m) s ≤ aheadFuel := by
  unfold measP aheadFuel
  have : (s.rows.length + m - s.rows.length) * 41 ≤ 12 * 41 := Nat.mul_le_mul_right _ (by omega)
  cases hn : s.now with
  | none => simp only; omega
  | some n =>
    have hb := (ok.nw n hn)
    have hk := (ok.tn.kn hb.1).hi
    simp only
    omega
theorem wake_same {s : Pl} {n : Int} (hn : s.now = some n) (hp : s.plays = true) (hs : s.sleep = none) : wakeP s = s := by
  obtain ⟨pov, o, time, now, spot, old, soon, past, rows, plays, stops, sleep⟩ := s
  have hn : now = some n := hn
  have hp : plays = true := hp
  have hs : sleep = none := hs
  subst hn hp hs
  rfl
theorem tickP_timeI {f : Sf} : ∀ (i : Nat) (s : Pl), (∀ j, j < i → (tickP f j s).plays = true) → (tickP f i s).time = s.time + i
  | 0, s, _ => by simp [tickP]
  | i + 1, s, h => by
    have hp := h 0 (by omega)
    have hp : s.plays = true := hp
    have e1 : ∀ d, tickP f (d + 1) s = tickP f d (stepP f s) := fun d => by
      show tickP f d (tick1 f s) = _
      unfold tick1
      rw [if_pos hp]
    rw [e1, tickP_timeI i (stepP f s) (fun j hj => by rw [← e1]; exact h (j + 1) (by omega)), stepP_time]
    push_cast
    omega
/-- a run: t ticks, playing ahead of the last one; M0 came -/
structure Run (f : Sf) (s : Pl) (t : Nat) (M0 : List (Int × Int)) : Prop where
  ok : s.Ok f
  sl : s.sleep = none
  pl : ∀ i, i < t → (tickP f i s).plays = true
  rw_ : (tickP f t s).rows = s.rows ++ M0
theorem Run.time {f : Sf} {s : Pl} {t : Nat} {M0 : List (Int × Int)} (r : Run f s t M0) {i : Nat} (hi : i ≤ t) : (tickP f i s).time = s.time + i := tickP_timeI i s fun j hj => r.pl j (by omega)
/-- cut at i -/
theorem Run.at {f : Sf} {s : Pl} {t : Nat} {M0 : List (Int × Int)} (r : Run f s t M0) {i : Nat} (hi : i ≤ t) : ∃ L M, M0 = L ++ M ∧ (tickP f i s).rows = s.rows ++ L ∧ (∀ p ∈ L, s.time < p.1 ∧ p.1 ≤ s.time + i) ∧ (∀ p ∈ M, s.time + i < p.1 ∧ p.1 ≤ s.time + t) ∧ Run f (tickP f i s) (t - i) M := by
  obtain ⟨L, h1, h2⟩ := tick_seg (f := f) i s r.sl
  obtain ⟨M, h3, h4⟩ := tick_seg (f := f) (t - i) (tickP f i s) (tickP_sl i r.sl)
  have e : tickP f (t - i) (tickP f i s) = tickP f t s := by rw [← tickP_add, show i + (t - i) = t by omega]
  rw [r.time hi] at h4
  have h5 := h3
  rw [e, r.rw_, h1, List.append_assoc] at h5
  refine ⟨L, M, List.append_cancel_left h5, h1, h2, fun p hp => ?_, ⟨Pl.Ok.tick i r.ok, tickP_sl i r.sl, fun j hj => ?_, h3⟩⟩
  · have := h4 p hp
    omega
  · rw [← tickP_add]
    exact r.pl (i + j) (by omega)
theorem Run.ahead {f : Sf} {s : Pl} {t : Nat} {M : List (Int × Int)} (r : Run f s t M) {n : Int} (hn : s.now = some n) (hp : s.plays = true) (hm : M.length ≤ 12) : aheadP f s M.length = M.map fun p => (p.1 - s.time, p.2) := by
  have ew := wake_same hn hp r.sl
  obtain ⟨t', _, h1, h2, h3⟩ := goP_tick (f := f) (N := s.rows.length + M.length) aheadFuel s r.ok (measP_le r.ok hm)
  have hr : (tickP f t' s).rows = s.rows ++ M := by
    by_cases hlt : t' ≤ t
    · obtain ⟨L, M2, e1, e2, _, _, rr⟩ := r.at hlt
      by_cases heq : t' = t
      · rw [heq]; exact r.rw_
      · have hpl := r.pl t' (by omega)
        have hlen : ¬ (tickP f t' s).rows.length < s.rows.length + M.length := fun z => h3 ⟨hpl, z⟩
        rw [e2, List.length_append, e1, List.length_append] at hlen
        have hM2 : M2 = [] := List.length_eq_zero_iff.mp (by omega)
        rw [e2, e1, hM2, List.append_nil]
    · exfalso
      have := (h2 t (by omega)).2
      rw [r.rw_, List.length_append] at this
      omega
  unfold aheadP aheadS
  rw [ew, h1, hr, List.drop_left]
/-- the run that ahead looks at -/
theorem run_of {f : Sf} {s : Pl} {n : Int} (ok : s.Ok f) (hn : s.now = some n) (hp : s.plays = true) (hs : s.sleep = none) {m : Nat} (hm : m ≤ 12) :
    ∃ t M0, t ≤ 1000 ∧ Run f s t M0 ∧ aheadP f s m = M0.map (fun p => (p.1 - s.time, p.2)) ∧ M0.length ≤ m ∧ (M0.length < m → (tickP f t s).plays = false) ∧ (∀ p, M0.getLast? = some p → p.1 = s.time + t → (tickP f t s).plays = true) := by
  have ew := wake_same hn hp hs
  obtain ⟨t, ht0, h1, h2, h3⟩ := goP_tick (f := f) (N := s.rows.length + m) aheadFuel s ok (measP_le ok hm)
  obtain ⟨M0, e1, e2⟩ := tick_seg (f := f) t s hs
  have r : Run f s t M0 := ⟨ok, hs, fun i hi => (h2 i hi).1, e1⟩
  refine ⟨t, M0, ht0, r, ?_, ?_, ?_, ?_⟩
  · unfold aheadP aheadS
    rw [ew, h1, e1, List.drop_left]
  · -- rows go one by one
    cases t with
    | zero =>
      have : M0 = [] := by
        have h := e1
        simp only [tickP] at h
        exact List.self_eq_append_right.mp h
      rw [this]
      exact Nat.zero_le _
    | succ t =>
      have hb := (h2 t (by omega))
      have e3 : tickP f (t + 1) s = stepP f (tickP f t s) := by
        rw [tickP_succ]
        unfold tick1
        rw [if_pos hb.1]
      rcases stepP_rows (f := f) (tickP_sl (f := f) t hs) hb.1 with e | ⟨x, e, _⟩
      · rw [← e3, e1] at e
        have := congrArg List.length e
        rw [List.length_append] at this
        have := hb.2
        omega
      · rw [← e3, e1] at e
        have := congrArg List.length e
        rw [List.length_append, List.length_append, List.length_singleton] at this
        have := hb.2
        omega
  · intro hlt
    have := h3
    rw [e1, List.length_append] at this
    cases hpl : (tickP f t s).plays with
    | false => rfl
    | true => exact absurd ⟨hpl, by omega⟩ this
  · intro p hp2 hpt
    cases t with
    | zero =>
      exfalso
      have := e2 p (List.mem_of_getLast? hp2)
      simp at this
      omega
    | succ t =>
      have hb := (h2 t (by omega))
      have e3 : tickP f (t + 1) s = stepP f (tickP f t s) := by
        rw [tickP_succ]
        unfold tick1
        rw [if_pos hb.1]
      rcases stepP_rows (f := f) (tickP_sl (f := f) t hs) hb.1 with e | ⟨x, _, e⟩
      · exfalso
        obtain ⟨L, M, e4, e5, e6, e7, _⟩ := r.at (i := t) (by omega)
        rw [← e3, e1, e5] at e
        have hL : M0 = L := List.append_cancel_left e
        rw [hL] at hp2
        have := (e6 p (List.mem_of_getLast? hp2)).2
        push_cast at hpt
        omega
      · rw [e3]; exact e
/-- without a beginning it ends -/
theorem quiet_run {f : Sf} : ∀ (k : Nat) (s : Pl) (n : Int), s.Ok f → s.plays = true → s.sleep = none → s.now = some n → (longO f s.o n - s.spot).toNat ≤ k → ∃ j, j ≤ k ∧ (s.rows.length < (tickP f j s).rows.length ∨ (tickP f j s).plays = false ∧ (tickP f j s).rows = s.rows)
  | k, s, n, ok, hp, hs, hn, hk => by
    have hb := (ok.nw n hn).2
    match k, hk with
    | 0, hk => omega
    | k + 1, hk =>
      have e1 : ∀ d, tickP f (d + 1) s = tickP f d (stepP f s) := fun d => by
        show tickP f d (tick1 f s) = _
        unfold tick1
        rw [if_pos hp]
      have hst := stepP_none (f := f) hs
      rcases stepP_rows (f := f) hs hp with e | ⟨x, e, _⟩
      · by_cases hp2 : (stepP f s).plays = true
        · have ok2 := ok.step hp
          have key : (stepP f s).now = some n ∧ (stepP f s).spot = s.spot + 1 ∧ (stepP f s).o = s.o := by
            have h := hst.1
            rw [h] at e hp2
            rw [h]
            unfold turnP at e hp2 ⊢
            have hn2 : (preP f s).now = some n := hn
            rw [hn2] at e hp2 ⊢
            simp only at e hp2 ⊢
            split at e
            · rename_i x hx
              rw [hx] at hp2
              simp only at hp2
              split at e
              · exfalso
                have := congrArg List.length e
                unfold goOn at this
                have e9 : (beginP f { nextS (preP f s) false with past := (preP f s).past ++ [n] } (some x) (decide ((preP f s).spot < longO f (preP f s).o n))).rows = (nextS (preP f s) false).rows ++ [((nextS (preP f s) false).time, x)] := rfl
                rw [e9, List.length_append, (nextS_len _ _).1] at this
                simp [preP] at this
              · rename_i hg
                rw [if_neg hg]
                exact ⟨hn, rfl, rfl⟩
            · rename_i hx
              rw [hx] at hp2
              simp only at hp2
              split at hp2
              · cases hp2
              · rename_i hg
                rw [if_neg hg]
                exact ⟨hn, rfl, rfl⟩
          obtain ⟨j, hj, h⟩ := quiet_run k (stepP f s) n ok2 hp2 hst.2 key.1 (by rw [key.2.1, key.2.2]; omega)
          refine ⟨j + 1, by omega, ?_⟩
          rw [e1]
          rw [e] at h
          exact h
        · exact ⟨1, by omega, .inr ⟨by rw [e1 0]; show (stepP f s).plays = false; simpa using hp2, by rw [e1 0]; exact e⟩⟩
      · refine ⟨1, by omega, .inl ?_⟩
        rw [e1 0]
        show _ < (stepP f s).rows.length
        rw [e, List.length_append]
        exact Nat.lt_succ_self _
/-- behind the last beginning, where fewer were told -/
theorem Run.ends {f : Sf} {s : Pl} {t : Nat} (r : Run f s t []) (he : (tickP f t s).plays = false) : (tickP f 120 s).plays = false ∧ (tickP f 120 s).rows = s.rows := by
  by_cases hp : s.plays = true
  · obtain ⟨n, hn⟩ := r.ok.now_of hp
    have hb := (r.ok.nw n hn)
    have hk := (r.ok.tn.kn hb.1).hi
    obtain ⟨j, hj, h⟩ := quiet_run (f := f) 40 s n r.ok hp r.sl hn (by omega)
    have hrj : (tickP f j s).rows = s.rows := by
      by_cases hjt : j ≤ t
      · obtain ⟨L, M, e1, e2, _⟩ := r.at hjt
        have : L = [] := (List.append_eq_nil_iff.mp e1.symm).1
        rw [e2, this, List.append_nil]
      · rw [show j = t + (j - t) by omega, tickP_add, tickP_stop he, r.rw_, List.append_nil]
    rcases h with h | ⟨h, _⟩
    · rw [hrj] at h
      exact absurd h (Nat.lt_irrefl _)
    · rw [show 120 = j + (120 - j) by omega, tickP_add, tickP_stop h]
      exact ⟨h, hrj⟩
  · have hp : s.plays = false := by simpa using hp
    rw [tickP_stop hp]
    exact ⟨hp, rfl⟩
def lastN (s : Pl) (M0 : List (Int × Int)) : Nat := match M0.getLast? with
  | none => 0
  | some p => (p.1 - s.time).toNat
theorem Run.last {f : Sf} {s : Pl} {t : Nat} {M0 : List (Int × Int)} (r : Run f s t M0) (hl : ∀ p, M0.getLast? = some p → p.1 = s.time + t → (tickP f t s).plays = true) :
    lastN s M0 ≤ t ∧ (tickP f (lastN s M0) s).rows = s.rows ++ M0 ∧ (∀ i, 0 < i → i ≤ lastN s M0 → (tickP f i s).plays = true) ∧ (∀ p, M0.getLast? = some p → p.1 = s.time + lastN s M0) := by
  cases hp : M0.getLast? with
  | none =>
    have hM : M0 = [] := List.getLast?_eq_none_iff.mp hp
    have e : lastN s M0 = 0 := by unfold lastN; rw [hp]
    rw [e]
    exact ⟨Nat.zero_le _, by rw [hM]; simp [tickP], (fun i h1 h2 => by omega), fun _ z => nomatch z⟩
  | some p =>
    have e : lastN s M0 = (p.1 - s.time).toNat := by unfold lastN; rw [hp]
    obtain ⟨L0, M1, e1, _, _, h4, _⟩ := r.at (i := 0) (Nat.zero_le _)
    have hL0 : p ∈ L0 ++ M1 := by rw [← e1]; exact List.mem_of_getLast? hp
    have hb : s.time < p.1 ∧ p.1 ≤ s.time + t := by
      obtain ⟨M, h1, h2⟩ := tick_seg (f := f) t s r.sl
      have h3 := r.rw_
      rw [h1] at h3
      have : M = M0 := List.append_cancel_left h3
      rw [this] at h2
      exact h2 p (List.mem_of_getLast? hp)
    have hpt : p.1 = s.time + lastN s M0 := by rw [e]; omega
    have hle : lastN s M0 ≤ t := by omega
    refine ⟨hle, ?_, fun i h1 h2 => ?_, fun q hq => by cases hq; exact hpt⟩
    · obtain ⟨L, M, e2, e3, _, h6, _⟩ := r.at hle
      have hM : M = [] := by
        cases hM : M.getLast? with
        | none => exact List.getLast?_eq_none_iff.mp hM
        | some q =>
          exfalso
          have : M0.getLast? = some q := by rw [e2, List.getLast?_append, hM]; rfl
          rw [hp] at this
          cases this
          have := (h6 p (List.mem_of_getLast? hM)).1
          omega
      rw [e3, e2, hM, List.append_nil]
    · by_cases hit : i < t
      · exact r.pl i hit
      · have : i = t := by omega
        subst this
        exact hl p hp (by rw [hpt]; have : lastN s M0 = i := by omega
                          rw [this])
theorem due_left {time : Int} {i : Nat} {L M : List (Int × Int)} (hL : ∀ p ∈ L, p.1 ≤ time + i) (hM : ∀ p ∈ M, time + i < p.1) :
    (((L ++ M).map fun p => (p.1 - time, p.2)).filter fun y => decide (y.1 > time + i - time)).map (fun y => (y.1 - (time + i) + time, y.2)) = M.map fun p => (p.1 - (time + i), p.2) := by
  rw [List.map_append, List.filter_append]
  have e1 : (L.map fun p => (p.1 - time, p.2)).filter (fun y => decide (y.1 > time + i - time)) = [] := by
    rw [List.filter_eq_nil_iff]
    intro y hy
    obtain ⟨p, hp, rfl⟩ := List.mem_map.mp hy
    have := hL p hp
    simp only [decide_eq_true_eq]
    omega
  have e2 : (M.map fun p => (p.1 - time, p.2)).filter (fun y => decide (y.1 > time + i - time)) = M.map fun p => (p.1 - time, p.2) := by
    rw [List.filter_eq_self]
    intro y hy
    obtain ⟨p, hp, rfl⟩ := List.mem_map.mp hy
    have := hM p hp
    simp only [decide_eq_true_eq]
    omega
  rw [e1, e2, List.nil_append, List.map_map]
  refine List.map_congr_left fun p _ => ?_
  show (p.1 - time - (time + i) + time, p.2) = _
  rw [show p.1 - time - (time + (i : Int)) + time = p.1 - (time + (i : Int)) by omega]
theorem eqv_rows (D : List (Int × Int)) : PyData.eqv (.list (D.map rowD)) (.list []) = decide (D = []) := by cases D <;> rfl
end TR

namespace TR
open PySem L2
/-! ### a player that plays with no overlap, no sleep, no stop -/
structure Goes (f : Sf) (s : Pl) (n : Int) : Prop where
  ok : s.Ok f
  pl : s.plays = true
  sl : s.sleep = none
  st : s.stops = false
  ov : s.ov = 0
  nw : s.now = some n
  tn : n ∈ s.o.q.turn
/-- what stays of an order -/
def SameO (o o' : Or) : Prop := o'.q = o.q ∧ o'.mixed = o.mixed ∧ o'.again = o.again
theorem SameO.trans {a b c : Or} (h : SameO a b) (g : SameO b c) : SameO a c := ⟨g.1.trans h.1, g.2.1.trans h.2.1, g.2.2.trans h.2.2⟩
theorem join0 {f : Sf} {s : Pl} {n x : Int} (ho : s.ov = 0) (h1 : 1 ≤ longO f s.o n) (h2 : 1 ≤ longO f s.o x) : joinL f s n x = 0 := by
  have h := joinL_nn (f := f) (s := s) (n := n) (x := x) (by omega) h1 h2
  have h3 : joinL f s n x ≤ s.ov := Int.le_trans (mn2_le _ _).1 (mn2_le _ _).1
  omega
theorem soon_run {f : Sf} {x : Int} {r : List Int} : ∀ (d : Nat) (s : Pl) (n : Int), Goes f s n → s.soon = x :: r → longO f s.o n - s.spot = (d : Int) + 1 →
    (∀ i, i ≤ d → (tickP f i s).plays = true) ∧ Goes f (tickP f (d + 1) s) x ∧ (tickP f (d + 1) s).soon = r ∧ (∃ t, (tickP f (d + 1) s).rows = s.rows ++ [(t, x)]) ∧ SameO s.o (tickP f (d + 1) s).o
  | d, s, n, g, hs, hd => by
    have hp := g.pl
    have hn := g.nw
    have e2 : ∀ q, tickP f (q + 1) s = tickP f q (stepP f s) := fun q => by
      show tickP f q (tick1 f s) = _
      unfold tick1
      rw [if_pos hp]
    have hx : x ∈ s.o.q.turn := g.ok.sn x (by rw [hs]; exact List.mem_cons_self)
    have kn := g.ok.tn.kn (g.ok.nw n hn).1
    have kx := g.ok.tn.kn (g.ok.o.has hx)
    have hf : foundP (preP f s) = some x := by
      unfold foundP
      rw [if_neg (by rw [show (preP f s).stops = s.stops from rfl, g.st]; exact Bool.false_ne_true)]
      unfold nextV
      rw [show (preP f s).soon = s.soon from rfl, hs]
    have hj : joinL f (preP f s) n x = 0 := join0 (s := preP f s) g.ov kn.lo kx.lo
    have oks := g.ok.step hp
    have est : stepP f s = if longO f s.o n ≤ s.spot + 1 then goOn f (preP f s) n x else preP f s := by
      rw [(stepP_none g.sl).1, turnP_some (f := f) (s := preP f s) hn hf, hj]
      show (if longO f s.o n - 0 ≤ s.spot + 1 then _ else _) = _
      rw [Int.sub_zero]
    match d, hd with
    | 0, hd =>
      rw [if_pos (by omega)] at est
      have eg : goOn f (preP f s) n x = beginP f { preP f s with soon := r, past := s.past ++ [n] } (some x) (decide ((preP f s).spot < longO f (preP f s).o n)) := by
        unfold goOn nextS
        rw [show (preP f s).soon = s.soon from rfl, hs]
        rfl
      rw [eg] at est
      have e1 : tickP f 1 s = stepP f s := e2 0
      refine ⟨fun i hi => ?_, ?_, ?_, ?_, ?_⟩
      · rw [Nat.le_zero.mp hi]; exact hp
      · rw [e1]
        refine ⟨oks, ?_, ?_, ?_, ?_, ?_, ?_⟩ <;> rw [est]
        · exact hp
        · exact g.sl
        · exact g.st
        · exact g.ov
        · rfl
        · exact hx
      · rw [e1, est]; rfl
      · rw [e1, est]; exact ⟨_, rfl⟩
      · rw [e1, est]; exact ⟨rfl, rfl, rfl⟩
    | d + 1, hd =>
      rw [if_neg (by omega)] at est
      rw [est] at oks e2
      have gp : Goes f (preP f s) n := ⟨oks, hp, g.sl, g.st, g.ov, hn, g.tn⟩
      obtain ⟨h1, h2, h3, h4, h5⟩ := soon_run (f := f) (x := x) (r := r) d (preP f s) n gp hs (by show longO f s.o n - (s.spot + 1) = _; omega)
      refine ⟨fun i hi => ?_, ?_, ?_, ?_, ?_⟩
      · cases i with
        | zero => exact hp
        | succ i => rw [e2]; exact h1 i (by omega)
      · rw [e2]; exact h2
      · rw [e2]; exact h3
      · rw [e2]; exact h4
      · rw [e2]; exact h5
theorem soon_all {f : Sf} : ∀ (xs : List Int) (s : Pl) (n : Int), Goes f s n → s.soon = xs → ∃ T M, Run f s T M ∧ M.map (·.2) = xs
  | [], s, n, g, hs => ⟨0, [], ⟨g.ok, g.sl, (fun _ z => absurd z (Nat.not_lt_zero _)), by simp [tickP]⟩, rfl⟩
  | x :: r, s, n, g, hs => by
    have hb := (g.ok.nw n g.nw).2
    obtain ⟨h1, h2, h3, ⟨t, h4⟩, _⟩ := soon_run (f := f) (x := x) (r := r) (longO f s.o n - s.spot - 1).toNat s n g hs (by omega)
    generalize (longO f s.o n - s.spot - 1).toNat = d at *
    obtain ⟨T, M, rn, hM⟩ := soon_all r _ x h2 h3
    refine ⟨d + 1 + T, (t, x) :: M, ⟨g.ok, g.sl, fun i hi => ?_, ?_⟩, ?_⟩
    · by_cases hid : i ≤ d
      · exact h1 i hid
      · rw [show i = d + 1 + (i - (d + 1)) by omega, tickP_add]
        exact rn.pl _ (by omega)
    · rw [tickP_add, rn.rw_, h4, List.append_assoc]; rfl
    · rw [List.map_cons, hM]
theorem soon_ahead {f : Sf} {s : Pl} {n : Int} (g : Goes f s n) (hl : s.soon.length ≤ 12) : (aheadP f s s.soon.length).map (·.2) = s.soon := by
  obtain ⟨T, M, rn, hM⟩ := soon_all s.soon s n g rfl
  have el : s.soon.length = M.length := by rw [← hM, List.length_map]
  rw [el, rn.ahead g.nw g.pl (by omega), List.map_map, ← hM]
  rfl
theorem soon_skip {f : Sf} {s : Pl} {n x : Int} {r : List Int} (g : Goes f s n) (hs : s.soon = x :: r) : Goes f (skipP f s) x ∧ (skipP f s).soon = r ∧ SameO s.o (skipP f s).o := by
  have e1 : nextV s true = some x := by unfold nextV; rw [hs]
  have e2 : nextS s true = { s with soon := r } := by unfold nextS; rw [hs]
  have e3 : pushN { s with soon := r } = { s with soon := r, past := s.past ++ [n] } := by unfold pushN; rw [show ({ s with soon := r } : Pl).now = s.now from rfl, g.nw]
  have hx : x ∈ s.o.q.turn := g.ok.sn x (by rw [hs]; exact List.mem_cons_self)
  have ok := g.ok.skip
  have e : skipP f s = { beginP f { s with soon := r, past := s.past ++ [n] } (some x) false with plays := true } := by
    unfold skipP
    rw [e1, e2, e3, g.pl]
    rfl
  rw [e] at ok ⊢
  exact ⟨⟨ok, rfl, g.sl, g.st, g.ov, rfl, hx⟩, rfl, rfl, rfl, rfl⟩
theorem end_skip {f : Sf} {s : Pl} {n : Int} (g : Goes f s n) (hs : s.soon = []) (hm : s.o.mixed = false) : (skipP f s).now = plainN s.o (some n) := by
  have e1 : nextV s true = plainN s.o (some n) := by
    unfold nextV
    rw [hs]
    show (if true = true then skipV s.o s.now else _) = _
    rw [if_pos rfl, g.nw]
    unfold skipV
    rw [if_neg (by rw [hm]; exact Bool.false_ne_true)]
  unfold skipP
  rw [e1]
  cases plainN s.o (some n) <;> rfl
theorem firstV_some {o : Or} (h : o.q.turn ≠ []) : ∃ x, firstV o = some x := by
  unfold firstV
  split
  · unfold popO fillF
    split
    · have hl := mixL_len o.num o.q.turn
      cases e : (mixL o.num o.q.turn).2 with
      | nil =>
        rw [e] at hl
        exact absurd (List.length_eq_zero_iff.mp hl.symm) h
      | cons x r => exact ⟨x, rfl⟩
    · rename_i hd
      cases e : o.deck with
      | nil => exact absurd e hd
      | cons x r => exact ⟨x, rfl⟩
  · cases e : o.q.turn with
    | nil => exact absurd e h
    | cons x r => exact ⟨x, rfl⟩
theorem firstS_same (o : Or) : SameO o (firstS o) := by
  unfold firstS
  split
  · unfold popS fillF
    split <;> exact ⟨rfl, rfl, rfl⟩
  · exact ⟨rfl, rfl, rfl⟩
theorem start_run {f : Sf} {s : Pl} (ok : s.Ok f) (h1 : s.now = none) (h2 : s.soon = []) (h3 : s.o.q.turn ≠ []) : ∃ x, x ∈ s.o.q.turn ∧ resumeP f s = { beginP f { s with o := firstS s.o } (some x) false with plays := true } := by
  obtain ⟨x, hx⟩ := firstV_some h3
  refine ⟨x, firstV_mem ok.o hx, ?_⟩
  unfold resumeP
  rw [h1]
  simp only
  rw [h2]
  simp only
  rw [hx]
theorem start_goes {f : Sf} {s : Pl} (ok : s.Ok f) (h1 : s.now = none) (h2 : s.soon = []) (h3 : s.o.q.turn ≠ []) (h4 : s.sleep = none) (h5 : s.stops = false) (h6 : s.ov = 0) : ∃ n, Goes f (resumeP f s) n ∧ (resumeP f s).soon = [] ∧ SameO s.o (resumeP f s).o := by
  obtain ⟨x, hx, e⟩ := start_run ok h1 h2 h3
  have okr := ok.resume
  rw [e] at okr ⊢
  have hq := firstS_same s.o
  refine ⟨x, ⟨okr, rfl, h4, h5, h6, rfl, ?_⟩, h2, hq⟩
  show x ∈ (firstS s.o).q.turn
  rw [hq.1]
  exact hx
theorem rem_goes {f : Sf} {s : Pl} {n e : Int} (g : Goes f s n) (he : e ∈ s.o.q.turn) (hne : e ≠ n) : Goes f (removeP s e) n :=
  ⟨g.ok.remove he, g.pl, g.sl, g.st, g.ov, g.nw, (List.mem_erase_of_ne (fun z => hne z.symm)).mpr g.tn⟩
theorem soonP_goes {f : Sf} {s : Pl} {n e : Int} (g : Goes f s n) (he : e ∈ s.o.q.turn) : Goes f (soonP s e) n := ⟨g.ok.playSoon he, g.pl, g.sl, g.st, g.ov, g.nw, g.tn⟩
theorem Goes.eq {f : Sf} {s : Pl} {n m : Int} (g : Goes f s n) (h : Goes f s m) : n = m := by
  have := g.nw
  rw [h.nw] at this
  cases this
  rfl
/-- a player that was only filled -/
structure Fresh (ov0 : Int) (f : Sf) (i : Nat) (s : Pl) : Prop where
  ok : s.Ok f
  nw : s.now = none
  sn : s.soon = []
  ps : s.past = []
  rw_ : s.rows = []
  pl : s.plays = false
  st : s.stops = false
  sl : s.sleep = none
  ov : s.ov = ov0
  ol : s.old = none
  tm : s.time = 0
  tl : s.o.q.tunes.length = i
  tr : s.o.q.turn.length = i
theorem fresh0 {ov n : Int} {f : Sf} (h1 : 0 ≤ ov ∧ ov ≤ 9) (h2 : 0 ≤ n ∧ n < 6075) : Fresh ov f 0 (pl0 ov n) := ⟨ok_pl0 h1 h2, rfl, rfl, rfl, rfl, rfl, rfl, rfl, rfl, rfl, rfl, rfl, rfl⟩
theorem Fresh.add {ov0 : Int} {f : Sf} {i : Nat} {s : Pl} (h : Fresh ov0 f i s) {x : Str} {p : Int} (hx : ∃ n, f.lookup x = some n ∧ 1 ≤ n ∧ n ≤ 40) (hi : i < 12) : Fresh ov0 f (i + 1) (addP s x p) := by
  refine ⟨h.ok.add hx (by rw [h.tr]; omega) (by rw [h.tl]; omega), h.nw, h.sn, h.ps, h.rw_, h.pl, h.st, h.sl, h.ov, h.ol, h.tm, ?_, ?_⟩
  · show (putO s.o x p).q.tunes.length = _
    rw [putO_q]
    show (s.o.q.tunes ++ [x]).length = _
    rw [List.length_append, h.tl]
    rfl
  · show (putO s.o x p).q.turn.length = _
    rw [putO_q]
    show (insP s.o.q.turn p.toNat _).length = _
    rw [insP_len, h.tr]
theorem Fresh.again {ov0 : Int} {f : Sf} {i : Nat} {s : Pl} (h : Fresh ov0 f i s) (x : Str) : Fresh ov0 f i (againS s x) := ⟨h.ok.again x, h.nw, h.sn, h.ps, h.rw_, h.pl, h.st, h.sl, h.ov, h.ol, h.tm, h.tl, h.tr⟩
theorem Fresh.mixed {ov0 : Int} {f : Sf} {i : Nat} {s : Pl} (h : Fresh ov0 f i s) (b : Bool) : Fresh ov0 f i (mixedP s b) := by
  have hq := setM_q s.o b s.now
  refine ⟨h.ok.mixed b, h.nw, h.sn, h.ps, h.rw_, h.pl, h.st, h.sl, h.ov, h.ol, h.tm, ?_, ?_⟩
  · show (setM s.o b s.now).q.tunes.length = _
    rw [hq]; exact h.tl
  · show (setM s.o b s.now).q.turn.length = _
    rw [hq]; exact h.tr
theorem Fresh.sz {ov0 : Int} {f : Sf} {i : Nat} {s : Pl} (h : Fresh ov0 f i s) : Sz s 0 := ⟨by rw [h.rw_]; exact Nat.le_refl _, by rw [h.ps]; exact Nat.le_refl _, by rw [h.sn]; exact Nat.le_refl _⟩
theorem mixedP_m (s : Pl) (b : Bool) : (mixedP s b).o.mixed = b ∧ (mixedP s b).o.again = s.o.again := by
  show (setM s.o b s.now).mixed = b ∧ (setM s.o b s.now).again = s.o.again
  unfold setM
  cases b
  · exact ⟨rfl, rfl⟩
  · rw [if_pos rfl]
    split
    · rename_i h; exact ⟨h, rfl⟩
    · exact ⟨rfl, rfl⟩
end TR

namespace TR
open PySem L2
/-- the second ones of pairs -/
theorem st_lcSnd {K : PySem.W.Frag} {H0 H : Hp} {L : List Ent} {a : Addr} {g : TG} {tt : TT} {te : TE} {vs : List Nat} {σ : L2.St} {Q : VK} {ys : List (Int × Int)} {zs : List V} (w : W H0 H L) (j : Nat) (hj : L[j]? = some (a, .lst zs)) (r : RowsAt H zs ys) (hl : ys.length ≤ 60000)
    (hs : ∀ D q (y : Int × Int) P H' xs, W H0 H' ((D, .lst xs) :: L) → H' q = some (.tup [.int y.1, .int y.2]) → xAcc D P (.int y.2) H' → LcTurn g tt te vs σ D P (.ref q) H')
    (k : ∀ D H', W H0 H' ((D, .lst ((ys.map (·.2)).map V.int)) :: L) → Q (.ref D) H') : xLc (Itl K a) g tt te vs σ H Q := by
  have hzy := r.len
  refine st_lcL (xs := zs) (fun D i H' => W H H' ((D, .lst (((ys.take i).map (·.2)).map V.int)) :: L)) w.now (fun D H' w1 => w1) (fun D i H' _ w1 => SqL.of (w1.get (j + 1) (by simpa using hj))) ?_ ?_
  · rintro D i x H' hx w1
    obtain ⟨y, hy, q, rfl, hq⟩ := r.get i hx
    have e : ((ys.take (i + 1)).map (·.2)).map V.int = ((ys.take i).map (·.2)).map V.int ++ [V.int y.2] := by
      rw [List.take_succ, hy, List.map_append, List.map_append]; rfl
    refine hs D q y _ H' _ (w.tr w1) (w1.tp _ _ hq) ?_
    refine st_acc w1.now 0 rfl (szL (by rw [List.length_map, List.length_map, List.length_take]; omega)) fun H3 w3 => ?_
    show W H H3 ((D, .lst (((ys.take (i + 1)).map (·.2)).map V.int)) :: L)
    rw [e]
    exact w1.tr w3
  · rintro D H' w1
    rw [hzy, List.take_length] at w1
    exact k D H' (w.tr w1)
/-- some of ints -/
theorem st_lcF {K : PySem.W.Frag} {H0 H : Hp} {L : List Ent} {a : Addr} {g : TG} {tt : TT} {te : TE} {vs : List Nat} {σ : L2.St} {Q : VK} {ns : List Int} (p : Int → Bool) (w : W H0 H L) (j : Nat) (hj : L[j]? = some (a, .lst (ns.map V.int))) (hl : ns.length ≤ 60000)
    (hs : ∀ D x P H' xs, W H0 H' ((D, .lst xs) :: L) → (p x = true → xAcc D P (.int x) H') → (p x = false → P H') → LcTurn g tt te vs σ D P (.int x) H')
    (k : ∀ D H', W H0 H' ((D, .lst ((ns.filter p).map V.int)) :: L) → Q (.ref D) H') : xLc (Itl K a) g tt te vs σ H Q := by
  refine st_lcL (xs := ns.map V.int) (fun D i H' => W H H' ((D, .lst (((ns.take i).filter p).map V.int)) :: L)) w.now (fun D H' w1 => w1) (fun D i H' _ w1 => SqL.of (w1.get (j + 1) (by simpa using hj))) ?_ ?_
  · rintro D i x H' hx w1
    rw [List.getElem?_map] at hx
    obtain ⟨y, hy, rfl⟩ := Option.map_eq_some_iff.mp hx
    have e : (ns.take (i + 1)).filter p = (ns.take i).filter p ++ [y].filter p := by
      rw [List.take_succ, hy, ← List.filter_append]; rfl
    refine hs D y _ H' _ (w.tr w1) (fun hp => ?_) (fun hp => ?_)
    · refine st_acc w1.now 0 rfl (szL ?_) fun H3 w3 => ?_
      · rw [List.length_map]
        exact Nat.le_trans (List.length_filter_le _ _) (by rw [List.length_take]; omega)
      · show W H H3 ((D, .lst (((ns.take (i + 1)).filter p).map V.int)) :: L)
        rw [e, List.filter_cons_of_pos hp, List.map_append]
        exact w1.tr w3
    · show W H H' ((D, .lst (((ns.take (i + 1)).filter p).map V.int)) :: L)
      rw [e, List.filter_cons_of_neg (by rw [hp]; exact Bool.false_ne_true), List.filter_nil, List.append_nil]
      exact w1
  · rintro D H' w1
    rw [List.length_map, List.take_length] at w1
    exact k D H' (w.tr w1)
section
variable {P : Program} {w : World} {K : PySem.W.Frag} {mg : Str → Option Value} {base : Heap} {A : Ads}
variable {H0 H : Hp} {a : PA} {b : SA} {s : Pl} {f : Sf} {X : List Ent} {Q : VK} {E : XK}
theorem OP.app {l : Addr} {xs : List V} {y : V} (h : OP A H0 H a b s f ((l, .lst xs) :: X)) (hz : xs.length ≤ 100000) (k : ∀ H', OP A H0 H' a b s f ((l, .lst (xs ++ [y])) :: X) → Tps H H' → Q .non H') : xApp (.ref l) [y] H Q := by
  obtain ⟨ov, rs, w, g⟩ := h
  refine st_app w.now 12 rfl (szL hz) fun H' w1 => ?_
  replace w1 : W H H' (oL A a b s ov rs f ((l, .lst (xs ++ [y])) :: X)) := w1
  exact k H' ⟨ov, rs, w.tr w1, g.mono w1.tp⟩ w1.tp
/-- the same with the new one in front -/
theorem OP.front {H1 H2 : Hp} {ov : V} {rs : List V} {x : Ent} (w : W H0 H1 (oL A a b s ov rs f X)) (g : PlF H1 s ov rs) (w2 : W H1 H2 (x :: (oL A a b s ov rs f X))) : OP A H0 H2 a b s f (x :: X) := by
  have w3 : W H1 H2 (oL A a b s ov rs f (x :: X)) := w2.perm (by
    have e : ∀ (P S : List Ent), (x :: (P ++ (S ++ X))).Perm (P ++ (S ++ (x :: X))) := fun P S => by walk_at "perm"
    exact e _ _)
  exact ⟨ov, rs, w.tr w3, g.mono w3.tp⟩
end
theorem last_app {xs : List V} {y : V} : atI (xs ++ [y]) (-1) = some y := by
  unfold atI ixN
  rw [if_neg (by decide), if_pos (by rw [List.length_append]; simp; omega)]
  show (xs ++ [y])[((-1 : Int) + ((xs ++ [y]).length : Int)).toNat]? = _
  rw [show ((-1 : Int) + ((xs ++ [y]).length : Int)).toNat = xs.length by rw [List.length_append]; simp; omega]
  rw [List.getElem?_append_right (Nat.le_refl _), Nat.sub_self]
  rfl
end TR
namespace TR
open PySem L2
/-! ### begins, by sums of what is long -/
def len3 (E : List (Int × Int)) (k : Nat) : Int := (E.getD (k % E.length) (0, 0)).2
def ent3 (E : List (Int × Int)) (k : Nat) : Int := (E.getD (k % E.length) (0, 0)).1
def join3 (E : List (Int × Int)) (ov : Int) (ag : Bool) (k : Nat) : Int := if ag = false ∧ k + 1 = E.length then 0 else mn2 (mn2 ov (len3 E k / 2)) (len3 E (k + 1) / 2)
def at3 (E : List (Int × Int)) (ov : Int) (ag : Bool) : Nat → Int
  | 0 => 0
  | k + 1 => at3 E ov ag k + len3 E k - join3 E ov ag k
def row3 (E : List (Int × Int)) (ov : Int) (ag : Bool) (k : Nat) : Int × Int := (at3 E ov ag k, ent3 E k)
structure E3 (E : List (Int × Int)) (ov : Int) : Prop where
  ne : E ≠ []
  nd : (E.map (·.1)).Nodup
  bd : ∀ p ∈ E, 1 ≤ p.2 ∧ p.2 ≤ 40
  o0 : 0 ≤ ov
  o9 : ov ≤ 9
section
variable {E : List (Int × Int)} {ov : Int} {ag : Bool}
theorem E3.pos (h : E3 E ov) : 0 < E.length := List.length_pos_iff.mpr h.ne
theorem E3.mem (h : E3 E ov) (k : Nat) : E[k % E.length]? = some (ent3 E k, len3 E k) ∧ (ent3 E k, len3 E k) ∈ E := by
  have hl := Nat.mod_lt k h.pos
  have e : E.getD (k % E.length) (0, 0) = E[k % E.length] := by rw [List.getD_eq_getElem?_getD, List.getElem?_eq_getElem hl]; rfl
  have e2 : (ent3 E k, len3 E k) = E[k % E.length] := by unfold ent3 len3; rw [e]
  exact ⟨by rw [e2, List.getElem?_eq_getElem hl], by rw [e2]; exact List.getElem_mem hl⟩
theorem E3.len (h : E3 E ov) (k : Nat) : 1 ≤ len3 E k ∧ len3 E k ≤ 40 := h.bd _ (h.mem k).2
theorem E3.join (h : E3 E ov) (k : Nat) : 0 ≤ join3 E ov ag k ∧ join3 E ov ag k ≤ len3 E k / 2 ∧ join3 E ov ag k ≤ len3 E (k + 1) / 2 ∧ join3 E ov ag k ≤ ov := by
  have h1 := h.len k
  have h2 := h.len (k + 1)
  have h3 := h.o0
  unfold join3
  split
  · refine ⟨Int.le_refl _, ?_, ?_, h3⟩ <;> omega
  · have a := mn2_le (mn2 ov (len3 E k / 2)) (len3 E (k + 1) / 2)
    have b := mn2_le ov (len3 E k / 2)
    have c := mn2_ge (m := 0) (i := mn2 ov (len3 E k / 2)) (j := len3 E (k + 1) / 2) (mn2_ge h3 (by omega)) (by omega)
    refine ⟨c, ?_, ?_, ?_⟩ <;> omega
theorem E3.lt (h : E3 E ov) (k : Nat) : at3 E ov ag k < at3 E ov ag (k + 1) := by
  have h1 := h.len k
  have h2 := h.join (ag := ag) k
  show _ < at3 E ov ag k + len3 E k - join3 E ov ag k
  omega
theorem E3.two (h : E3 E ov) (k : Nat) : at3 E ov ag k + len3 E k ≤ at3 E ov ag (k + 2) := by
  have h1 := h.len (k + 1)
  have h2 := h.join (ag := ag) (k + 1)
  have h3 := h.join (ag := ag) k
  show _ ≤ at3 E ov ag k + len3 E k - join3 E ov ag k + len3 E (k + 1) - join3 E ov ag (k + 1)
  omega
theorem E3.mono (h : E3 E ov) {j k : Nat} (hj : j ≤ k) : at3 E ov ag j ≤ at3 E ov ag k := by
  induction k with
  | zero => rw [Nat.le_zero.mp hj]; exact Int.le_refl _
  | succ k ih =>
    by_cases e : j = k + 1
    · rw [e]; exact Int.le_refl _
    · have := ih (by omega)
      have := h.lt (ag := ag) k
      omega
theorem E3.ge (h : E3 E ov) (k : Nat) : (k : Int) ≤ at3 E ov ag k := by
  induction k with
  | zero => exact Int.le_refl _
  | succ k ih =>
    have := h.lt (ag := ag) k
    omega
theorem E3.over (h : E3 E ov) {j k : Nat} (hj : j + 1 < k) : at3 E ov ag j + len3 E j ≤ at3 E ov ag k := Int.le_trans (h.two j) (h.mono (by omega))
theorem E3.inj (h : E3 E ov) {j k : Nat} (e : row3 E ov ag j = row3 E ov ag k) : j = k := by
  have e1 : at3 E ov ag j = at3 E ov ag k := congrArg Prod.fst e
  rcases Nat.lt_trichotomy j k with q | q | q
  · have := h.mono (ag := ag) (show j + 1 ≤ k from q)
    have := h.lt (ag := ag) j
    omega
  · exact q
  · have := h.mono (ag := ag) (show k + 1 ≤ j from q)
    have := h.lt (ag := ag) k
    omega
/-- how many begin up to a tick -/
structure Cnt (E : List (Int × Int)) (ov : Int) (ag : Bool) (t : Int) (m : Nat) : Prop where
  lo : ∀ k, k < m → at3 E ov ag k ≤ t ∧ (ag = true ∨ k < E.length)
  hi : ¬ (at3 E ov ag m ≤ t ∧ (ag = true ∨ m < E.length))
theorem Cnt.eq {t : Int} {m m' : Nat} (h : Cnt E ov ag t m) (g : Cnt E ov ag t m') : m = m' := by
  rcases Nat.lt_trichotomy m m' with q | q | q
  · exact absurd (g.lo m q) h.hi
  · exact q
  · exact absurd (h.lo m' q) g.hi
/-- seen: what was, and what is new -/
theorem seen_new (g : Nat → Int × Int) (hg : ∀ {i j}, g i = g j → i = j) (m : Nat) : ∀ (n : Nat), m ≤ n →
    (List.range m).map g ++ ((List.range n).map g).filter (fun x => !decide (x ∈ (List.range m).map g)) = (List.range n).map g
  | 0, h => by rw [Nat.le_zero.mp h]; rfl
  | n + 1, h => by
    by_cases e : m = n + 1
    · subst e
      have : ((List.range (n + 1)).map g).filter (fun x => !decide (x ∈ (List.range (n + 1)).map g)) = [] := List.filter_eq_nil_iff.mpr fun x hx => by simp only [decide_eq_true hx]; decide
      rw [this, List.append_nil]
    · have ih := seen_new g hg m n (by omega)
      have hn : g n ∉ (List.range m).map g := fun z => by
        obtain ⟨j, hj, ej⟩ := List.mem_map.mp z
        have := hg ej
        rw [List.mem_range] at hj
        omega
      rw [List.range_succ, List.map_append, List.filter_append, ← List.append_assoc, ih]
      show _ ++ [g n].filter _ = _
      rw [List.filter_cons_of_pos (by rw [decide_eq_false hn]; rfl)]
      rfl
/-! the player that plays these -/
structure Snd (f : Sf) (E : List (Int × Int)) (ov : Int) (ag : Bool) (s : Pl) (k : Nat) : Prop where
  ok : s.Ok f
  nw : s.now = some (ent3 E k)
  pl : s.plays = true
  sl : s.sleep = none
  st : s.stops = false
  sn : s.soon = []
  ov_ : s.ov = ov
  tr : s.o.q.turn = E.map (·.1)
  lg : ∀ p ∈ E, longO f s.o p.1 = p.2
  mx : s.o.mixed = false
  ag_ : s.o.again = if ag = true then "all" else "none"
  kn : ag = true ∨ k < E.length
  sp : s.spot = s.time - at3 E ov ag k
  lo : at3 E ov ag k ≤ s.time
  hi : s.time < at3 E ov ag (k + 1)
  rw_ : s.rows = (List.range (k + 1)).map (row3 E ov ag)
  od : s.old = if 0 < k ∧ s.time < at3 E ov ag (k - 1) + len3 E (k - 1) then some (ent3 E (k - 1), s.time - at3 E ov ag (k - 1), join3 E ov ag (k - 1)) else none
structure Ended (f : Sf) (E : List (Int × Int)) (ov : Int) (ag : Bool) (s : Pl) (t : Int) : Prop where
  ok : s.Ok f
  nw : s.now = none
  pl : s.plays = false
  rw_ : s.rows = (List.range E.length).map (row3 E ov ag)
  ag_ : ag = false
  hi : at3 E ov ag E.length ≤ t
variable {f : Sf} {s : Pl} {k : Nat}
theorem Snd.long (hE : E3 E ov) (h : Snd f E ov ag s k) (j : Nat) : longO f s.o (ent3 E j) = len3 E j := h.lg _ (hE.mem j).2
theorem Snd.place (hE : E3 E ov) (h : Snd f E ov ag s k) (j : Nat) : ent3 E j ∈ s.o.q.turn ∧ s.o.q.turn.idxOf (ent3 E j) = j % E.length := by
  have hl := Nat.mod_lt j hE.pos
  have hm := (hE.mem j).1
  have e : s.o.q.turn[j % E.length]? = some (ent3 E j) := by rw [h.tr, List.getElem?_map, hm]; rfl
  have hlt : j % E.length < s.o.q.turn.length := by rw [h.tr, List.length_map]; exact hl
  have e2 : s.o.q.turn[j % E.length] = ent3 E j := Option.some.inj (by rw [← e, List.getElem?_eq_getElem hlt])
  refine ⟨List.mem_of_getElem? e, ?_⟩
  rw [← e2]
  exact List.Nodup.idxOf_getElem (by rw [h.tr]; exact hE.nd) _ hlt
theorem mod_succ {k n : Nat} (hn : 0 < n) : (k + 1) % n = if k % n + 1 < n then k % n + 1 else 0 := by
  rw [Nat.add_mod]
  by_cases h1 : n = 1
  · subst h1
    rw [Nat.mod_one]
    split <;> omega
  · rw [Nat.mod_eq_of_lt (show 1 < n by omega)]
    have := Nat.mod_lt k hn
    split
    · rw [Nat.mod_eq_of_lt (by omega)]
    · rw [show k % n + 1 = n by omega, Nat.mod_self]
theorem ent3_succ (hE : E3 E ov) (k : Nat) (t : List Int) (ht : t = E.map (·.1)) : t[k % E.length + 1]? = (if k % E.length + 1 < E.length then some (ent3 E (k + 1)) else none) ∧ (¬ k % E.length + 1 < E.length → t.head? = some (ent3 E (k + 1))) := by
  have e1 := (hE.mem (k + 1)).1
  rw [mod_succ hE.pos] at e1
  refine ⟨?_, fun hn => ?_⟩
  · split
    · rename_i hlt
      rw [if_pos hlt] at e1
      rw [ht, List.getElem?_map, e1]
      rfl
    · rename_i hlt
      rw [ht]
      exact List.getElem?_eq_none (by rw [List.length_map]; omega)
  · rw [if_neg hn] at e1
    rw [ht, List.head?_eq_getElem?, List.getElem?_map, e1]
    rfl
theorem Snd.next (hE : E3 E ov) (h : Snd f E ov ag s k) : nextV s false = if ag = true ∨ k + 1 < E.length then some (ent3 E (k + 1)) else none := by
  obtain ⟨hm, hi⟩ := h.place hE k
  obtain ⟨e1, e2⟩ := ent3_succ hE k _ h.tr
  have hna : ¬ again1 s.o (some (ent3 E k)) := fun z => by
    have z1 := z.1
    rw [h.ag_] at z1
    split at z1
    · exact absurd z1 (by decide +kernel)
    · exact absurd z1 (by decide +kernel)
  unfold nextV
  rw [h.sn]
  show (if false = true then _ else afterV s.o s.now) = _
  rw [if_neg Bool.false_ne_true, h.nw]
  unfold afterV
  rw [if_neg hna]
  unfold skipV
  rw [if_neg (by rw [h.mx]; exact Bool.false_ne_true)]
  have hfo : fromO s.o (some (ent3 E k)) = if k % E.length + 1 < E.length then some (ent3 E (k + 1)) else none := by
    unfold fromO
    show (if ent3 E k ∈ s.o.q.turn then behindOf s.o.q.turn (ent3 E k) else _) = _
    rw [if_pos hm]
    unfold behindOf
    rw [hi]
    exact e1
  unfold plainN
  rw [hfo]
  by_cases hlt : k % E.length + 1 < E.length
  · rw [if_pos hlt]
    show some (ent3 E (k + 1)) = _
    rcases h.kn with hg | hg
    · rw [if_pos (.inl hg)]
    · rw [Nat.mod_eq_of_lt hg] at hlt
      rw [if_pos (.inr hlt)]
  · rw [if_neg hlt]
    show (if s.o.again = "all" then s.o.q.turn.head? else none) = _
    rw [e2 hlt, h.ag_]
    cases hga : ag with
    | true => rw [if_pos rfl, if_pos rfl, if_pos (.inl rfl)]
    | false =>
      rw [if_neg Bool.false_ne_true, if_neg (by decide +kernel)]
      rcases h.kn with hg | hg
      · rw [hga] at hg; cases hg
      · rw [Nat.mod_eq_of_lt hg] at hlt
        rw [if_neg (by
          intro z
          rcases z with z | z
          · cases z
          · exact hlt z)]
theorem Snd.step (hE : E3 E ov) (h : Snd f E ov ag s k) : (stepP f s).time = s.time + 1 ∧
    (Snd f E ov ag (stepP f s) k ∨ Snd f E ov ag (stepP f s) (k + 1) ∨ (k + 1 = E.length ∧ Ended f E ov ag (stepP f s) (s.time + 1))) := by
  have oks := h.ok.step h.pl
  have hlk := h.long hE k
  have hlk1 := h.long hE (k + 1)
  have hnx := h.next hE
  have hfo : foundP (preP f s) = if ag = true ∨ k + 1 < E.length then some (ent3 E (k + 1)) else none := by
    unfold foundP
    rw [if_neg (by rw [show (preP f s).stops = s.stops from rfl, h.st]; exact Bool.false_ne_true)]
    exact hnx
  have hpo : oldP f s = if 0 < k ∧ s.time + 1 < at3 E ov ag (k - 1) + len3 E (k - 1) then some (ent3 E (k - 1), s.time + 1 - at3 E ov ag (k - 1), join3 E ov ag (k - 1)) else none := by
    unfold oldP
    rw [h.od]
    by_cases hc : 0 < k ∧ s.time < at3 E ov ag (k - 1) + len3 E (k - 1)
    · rw [if_pos hc]
      show (if s.time - at3 E ov ag (k - 1) + 1 < longO f s.o (ent3 E (k - 1)) then _ else _) = _
      rw [h.long hE (k - 1)]
      by_cases hc2 : s.time + 1 < at3 E ov ag (k - 1) + len3 E (k - 1)
      · rw [if_pos (by omega), if_pos ⟨hc.1, hc2⟩]
        rw [show s.time - at3 E ov ag (k - 1) + 1 = s.time + 1 - at3 E ov ag (k - 1) by omega]
      · rw [if_neg (by omega), if_neg (fun z => hc2 z.2)]
    · rw [if_neg hc, if_neg (fun z => hc ⟨z.1, by omega⟩)]
  have stay : s.time + 1 < at3 E ov ag (k + 1) → (preP f s).Ok f → Snd f E ov ag (preP f s) k := fun hlt okp =>
    ⟨okp, h.nw, h.pl, h.sl, h.st, h.sn, h.ov_, h.tr, h.lg, h.mx, h.ag_, h.kn, by show s.spot + 1 = s.time + 1 - _; have := h.sp; omega, by have := h.lo; show _ ≤ s.time + 1; omega, hlt, h.rw_, hpo⟩
  have hat : at3 E ov ag (k + 1) = at3 E ov ag k + len3 E k - join3 E ov ag k := rfl
  have hsp := h.sp
  have hhi := h.hi
  have e0 := (stepP_none (f := f) h.sl).1
  by_cases hc : ag = true ∨ k + 1 < E.length
  · rw [if_pos hc] at hfo
    have hj : joinL f (preP f s) (ent3 E k) (ent3 E (k + 1)) = join3 E ov ag k := by
      unfold joinL join3
      rw [if_neg (by
        intro z
        rcases hc with q | q
        · rw [z.1] at q; cases q
        · omega)]
      show mn2 (mn2 s.ov (longO f s.o (ent3 E k) / 2)) (longO f s.o (ent3 E (k + 1)) / 2) = _
      rw [hlk, hlk1, h.ov_]
    rw [turnP_some (f := f) (s := preP f s) h.nw hfo, hj] at e0
    have e0 : stepP f s = if longO f s.o (ent3 E k) - join3 E ov ag k ≤ s.spot + 1 then goOn f (preP f s) (ent3 E k) (ent3 E (k + 1)) else preP f s := e0
    rw [hlk] at e0
    by_cases hgo : len3 E k - join3 E ov ag k ≤ s.spot + 1
    · rw [if_pos hgo] at e0
      have hge : s.time + 1 = at3 E ov ag (k + 1) := by omega
      have eN : nextS (preP f s) false = preP f s := by
        have ea : afterS s.o s.now = s.o := by
          unfold afterS skipS
          split
          · rfl
          · rw [if_neg (by rw [h.mx]; exact Bool.false_ne_true)]
        unfold nextS
        split
        · rename_i x r e
          have e : s.soon = x :: r := e
          rw [h.sn] at e
          cases e
        · show ({ preP f s with o := if false = true then skipS s.o s.now else afterS s.o s.now } : Pl) = _
          rw [if_neg Bool.false_ne_true, ea]
          rfl
      have eg : goOn f (preP f s) (ent3 E k) (ent3 E (k + 1)) = beginP f { preP f s with past := s.past ++ [ent3 E k] } (some (ent3 E (k + 1))) (decide (s.spot + 1 < len3 E k)) := by
        unfold goOn
        rw [eN, ← hlk]
        rfl
      rw [eg] at e0
      rw [e0] at oks ⊢
      refine ⟨rfl, .inr (.inl ⟨oks, rfl, h.pl, h.sl, h.st, h.sn, h.ov_, h.tr, h.lg, h.mx, h.ag_, hc, ?_, ?_, ?_, ?_, ?_⟩)⟩
      · show (0 : Int) = s.time + 1 - _
        omega
      · show _ ≤ s.time + 1
        omega
      · show s.time + 1 < _
        have := hE.lt (ag := ag) (k + 1)
        omega
      · show s.rows ++ [(s.time + 1, ent3 E (k + 1))] = _
        rw [h.rw_, hge, List.range_succ (n := k + 1), List.map_append]
        rfl
      · show oldJ f _ _ = _
        unfold oldJ
        by_cases hj0 : s.spot + 1 < len3 E k
        · rw [if_pos (decide_eq_true hj0), if_pos ⟨Nat.succ_pos k, by show s.time + 1 < at3 E ov ag k + len3 E k; omega⟩]
          show s.now.map _ = _
          rw [h.nw]
          show some (ent3 E k, s.spot + 1, longO f s.o (ent3 E k) - (s.spot + 1)) = some (ent3 E k, s.time + 1 - at3 E ov ag k, join3 E ov ag k)
          rw [hlk, show s.spot + 1 = s.time + 1 - at3 E ov ag k by omega, show len3 E k - (s.time + 1 - at3 E ov ag k) = join3 E ov ag k by omega]
        · rw [if_neg (by rw [decide_eq_false hj0]; exact Bool.false_ne_true), if_neg (by
            intro z
            have z2 : s.time + 1 < at3 E ov ag k + len3 E k := z.2
            omega)]
    · rw [if_neg hgo] at e0
      rw [e0] at oks ⊢
      exact ⟨rfl, .inl (stay (by omega) oks)⟩
  · rw [if_neg hc] at hfo
    have hag : ag = false := by cases ag with
      | true => exact absurd (.inl rfl) hc
      | false => rfl
    have hkn : k < E.length := by
      rcases h.kn with q | q
      · rw [hag] at q; cases q
      · exact q
    have hk1 : k + 1 = E.length := by
      have : ¬ k + 1 < E.length := fun z => hc (.inr z)
      omega
    have hj0 : join3 E ov ag k = 0 := by unfold join3; rw [if_pos ⟨hag, hk1⟩]
    rw [turnP_none (f := f) (s := preP f s) h.nw hfo] at e0
    have e0 : stepP f s = if longO f s.o (ent3 E k) ≤ s.spot + 1 then endP f (preP f s) (ent3 E k) else preP f s := e0
    rw [hlk] at e0
    by_cases hgo : len3 E k ≤ s.spot + 1
    · rw [if_pos hgo] at e0
      rw [e0] at oks ⊢
      refine ⟨rfl, .inr (.inr ⟨hk1, oks, rfl, rfl, ?_, hag, ?_⟩)⟩
      · show s.rows = _
        rw [h.rw_, hk1]
      · rw [← hk1]
        omega
    · rw [if_neg hgo] at e0
      rw [e0] at oks ⊢
      exact ⟨rfl, .inl (stay (by omega) oks)⟩
/-- at tick t, m rows -/
def Sn3 (f : Sf) (E : List (Int × Int)) (ov : Int) (ag : Bool) (s : Pl) (t : Int) (m : Nat) : Prop := (∃ k, m = k + 1 ∧ Snd f E ov ag s k ∧ s.time = t) ∨ (m = E.length ∧ Ended f E ov ag s t)
theorem Sn3.ok {t : Int} {m : Nat} (h : Sn3 f E ov ag s t m) : s.Ok f := by
  rcases h with ⟨k, _, h, _⟩ | ⟨_, h⟩
  · exact h.ok
  · exact h.ok
theorem Sn3.rw_ {t : Int} {m : Nat} (h : Sn3 f E ov ag s t m) : s.rows = (List.range m).map (row3 E ov ag) := by
  rcases h with ⟨k, rfl, h, _⟩ | ⟨rfl, h⟩
  · exact h.rw_
  · exact h.rw_
theorem Sn3.cnt (hE : E3 E ov) {t : Int} {m : Nat} (h : Sn3 f E ov ag s t m) : Cnt E ov ag t m := by
  rcases h with ⟨k, rfl, h, rfl⟩ | ⟨rfl, h⟩
  · refine ⟨fun j hj => ⟨Int.le_trans (hE.mono (by omega)) h.lo, ?_⟩, fun z => by have := h.hi; omega⟩
    rcases h.kn with q | q
    · exact .inl q
    · exact .inr (by omega)
  · refine ⟨fun j hj => ⟨Int.le_trans (hE.mono (by omega)) h.hi, .inr hj⟩, fun z => ?_⟩
    rcases z.2 with q | q
    · rw [h.ag_] at q; cases q
    · omega
theorem Sn3.tick (hE : E3 E ov) {t : Int} {m : Nat} (h : Sn3 f E ov ag s t m) : ∃ m', m ≤ m' ∧ Sn3 f E ov ag (tickP f 1 s) (t + 1) m' := by
  rcases h with ⟨k, rfl, h, rfl⟩ | ⟨rfl, h⟩
  · have e1 : tickP f 1 s = stepP f s := by
      show tick1 f s = _
      unfold tick1
      rw [if_pos h.pl]
    rw [e1]
    obtain ⟨e2, h1 | h1 | ⟨h1, h2⟩⟩ := h.step hE
    · exact ⟨k + 1, Nat.le_refl _, .inl ⟨k, rfl, h1, e2⟩⟩
    · exact ⟨k + 2, by omega, .inl ⟨k + 1, rfl, h1, e2⟩⟩
    · exact ⟨k + 1, Nat.le_refl _, .inr ⟨h1, h2⟩⟩
  · have e1 : tickP f 1 s = s := by
      show tick1 f s = _
      unfold tick1
      rw [if_neg (by rw [h.pl]; exact Bool.false_ne_true)]
    rw [e1]
    exact ⟨_, Nat.le_refl _, .inr ⟨rfl, h.ok, h.nw, h.pl, h.rw_, h.ag_, by have := h.hi; omega⟩⟩
/-- over: which two go over at a tick -/
def ovr3 (E : List (Int × Int)) (ov : Int) (ag : Bool) (k : Nat) : Int × Int := (at3 E ov ag (k + 1), at3 E ov ag k + len3 E k)
theorem E3.any (hE : E3 E ov) {t : Int} {m n : Nat} (hm : Cnt E ov ag t m) (hmn : m ≤ n) (hfar : ∀ j, m ≤ j → j < n → t < at3 E ov ag j) :
    ((List.range (n - 1)).map (ovr3 E ov ag)).any (fun p => decide (p.1 ≤ t) && decide (t < p.2)) = decide (1 < m ∧ t < at3 E ov ag (m - 2) + len3 E (m - 2)) := by
  rw [Bool.eq_iff_iff, List.any_eq_true, decide_eq_true_iff]
  constructor
  · rintro ⟨p, hp, h2⟩
    obtain ⟨j, hj, rfl⟩ := List.mem_map.mp hp
    rw [List.mem_range] at hj
    rw [Bool.and_eq_true, decide_eq_true_iff, decide_eq_true_iff] at h2
    have h3 : at3 E ov ag (j + 1) ≤ t := h2.1
    have h4 : t < at3 E ov ag j + len3 E j := h2.2
    have hjm : j + 1 < m := by
      rcases Nat.lt_or_ge (j + 1) m with q | q
      · exact q
      · have := hfar (j + 1) q (by omega)
        omega
    have hj2 : j = m - 2 := by
      rcases Nat.lt_or_ge j (m - 2) with q | q
      · have h5 := hE.over (ag := ag) (j := j) (k := m - 1) (by omega)
        have h6 := (hm.lo (m - 1) (by omega)).1
        omega
      · omega
    subst hj2
    exact ⟨by omega, h4⟩
  · rintro ⟨h1, h2⟩
    refine ⟨_, List.mem_map.mpr ⟨m - 2, List.mem_range.mpr (by omega), rfl⟩, ?_⟩
    rw [Bool.and_eq_true, decide_eq_true_iff, decide_eq_true_iff]
    refine ⟨?_, h2⟩
    show at3 E ov ag (m - 2 + 1) ≤ t
    rw [show m - 2 + 1 = m - 1 by omega]
    exact (hm.lo (m - 1) (by omega)).1
theorem Cnt.le (hE : E3 E ov) {t t' : Int} {m n : Nat} (hm : Cnt E ov ag t m) (hn : Cnt E ov ag t' n) (ht : t ≤ t') : m ≤ n ∧ ∀ j, m ≤ j → j < n → t < at3 E ov ag j := by
  refine ⟨?_, fun j h1 h2 => ?_⟩
  · rcases Nat.lt_or_ge n m with q | q
    · have := hm.lo n q
      exact absurd ⟨by omega, this.2⟩ hn.hi
    · exact q
  · have h3 := (hn.lo j h2).2
    have h4 : ag = true ∨ m < E.length := h3.imp id (fun z => by omega)
    have h5 : ¬ at3 E ov ag m ≤ t := fun z => hm.hi ⟨z, h4⟩
    have h6 := hE.mono (ag := ag) h1
    omega
/-- the first one begins -/
theorem snd_start (hE : E3 E ov) (ok : s.Ok f) (h1 : s.now = none) (h2 : s.soon = []) (h3 : s.sleep = none) (h4 : s.stops = false) (h5 : s.rows = []) (h6 : s.time = 0) (h7 : s.ov = ov) (h8 : s.o.q.turn = E.map (·.1)) (h9 : ∀ p ∈ E, longO f s.o p.1 = p.2)
    (h10 : s.o.mixed = false) (h11 : s.o.again = if ag = true then "all" else "none") : Snd f E ov ag (resumeP f s) 0 ∧ (resumeP f s).time = 0 := by
  have hm := (hE.mem 0).1
  rw [Nat.zero_mod] at hm
  have hv : firstV s.o = some (ent3 E 0) := by
    unfold firstV
    rw [if_neg (by rw [h10]; exact Bool.false_ne_true), h8, List.head?_eq_getElem?, List.getElem?_map, hm]
    rfl
  have hS : firstS s.o = s.o := by unfold firstS; rw [if_neg (by rw [h10]; exact Bool.false_ne_true)]
  have e : resumeP f s = { beginP f s (some (ent3 E 0)) false with plays := true } := by
    unfold resumeP
    split
    · rename_i n hn
      rw [h1] at hn
      cases hn
    · split
      · rename_i x r hs
        rw [h2] at hs
        cases hs
      · rw [hv, hS]
  have okr := ok.resume
  rw [e] at okr ⊢
  refine ⟨⟨okr, rfl, rfl, h3, h4, h2, h7, h8, h9, h10, h11, .inr hE.pos, ?_, ?_, ?_, ?_, ?_⟩, h6⟩
  · show (0 : Int) = s.time - 0
    omega
  · show (0 : Int) ≤ s.time
    omega
  · show s.time < at3 E ov ag (0 + 1)
    have := hE.lt (ag := ag) 0
    have e0 : at3 E ov ag 0 = 0 := rfl
    omega
  · show s.rows ++ [(s.time, ent3 E 0)] = _
    rw [h5, h6]
    rfl
  · show oldJ f s false = _
    rw [if_neg (fun z => absurd z.1 (Nat.lt_irrefl 0))]
    rfl
/-- what sounds at a tick -/
theorem Sn3.snd (hE : E3 E ov) {t : Int} {m : Nat} (h : Sn3 f E ov ag s t m) :
    (∃ e p l w n, soundsP f s = [(e, p, l, w), (n, s.spot, w - l, w)] ∧ 0 < l ∧ l ≤ w ∧ w ≤ ov ∧ l = longO f s.o e - p ∧ s.o.has e ∧ s.now = some n ∧ s.plays = true ∧ (1 < m ∧ t < at3 E ov ag (m - 2) + len3 E (m - 2))) ∨
    (∃ n, soundsP f s = [(n, s.spot, 1, 1)] ∧ s.now = some n ∧ s.plays = true ∧ ¬ (1 < m ∧ t < at3 E ov ag (m - 2) + len3 E (m - 2))) ∨
    (soundsP f s = [] ∧ s.now = none ∧ s.plays = false ∧ ¬ (1 < m ∧ t < at3 E ov ag (m - 2) + len3 E (m - 2))) := by
  rcases h with ⟨k, rfl, h, rfl⟩ | ⟨rfl, h⟩
  · have hod := h.od
    have hm2 : k + 1 - 2 = k - 1 := by omega
    rw [hm2]
    by_cases hc : 0 < k ∧ s.time < at3 E ov ag (k - 1) + len3 E (k - 1)
    · rw [if_pos hc] at hod
      have hl := h.long hE (k - 1)
      have hlo := h.lo
      have hj := hE.join (ag := ag) (k - 1)
      have ek : at3 E ov ag k = at3 E ov ag (k - 1) + len3 E (k - 1) - join3 E ov ag (k - 1) := by
        obtain ⟨j, rfl⟩ : ∃ j, k = j + 1 := ⟨k - 1, by omega⟩
        rfl
      have e : soundsP f s = [(ent3 E (k - 1), s.time - at3 E ov ag (k - 1), longO f s.o (ent3 E (k - 1)) - (s.time - at3 E ov ag (k - 1)), join3 E ov ag (k - 1)), (ent3 E k, s.spot, join3 E ov ag (k - 1) - (longO f s.o (ent3 E (k - 1)) - (s.time - at3 E ov ag (k - 1))), join3 E ov ag (k - 1))] := by
        unfold soundsP
        rw [h.nw, hod]
      exact .inl ⟨_, _, _, _, _, e, by omega, by omega, hj.2.2.2, rfl, h.ok.od _ _ _ hod, h.nw, h.pl, by omega, hc.2⟩
    · rw [if_neg hc] at hod
      have e : soundsP f s = [(ent3 E k, s.spot, 1, 1)] := by
        unfold soundsP
        rw [h.nw, hod]
      exact .inr (.inl ⟨_, e, h.nw, h.pl, fun z => hc ⟨by omega, z.2⟩⟩)
  · have e : soundsP f s = [] := by
      unfold soundsP
      rw [h.nw]
    refine .inr (.inr ⟨e, h.nw, h.pl, fun z => ?_⟩)
    have h2 := hE.two (ag := ag) (E.length - 2)
    rw [show E.length - 2 + 2 = E.length by omega] at h2
    have := h.hi
    omega
end
end TR

namespace TR
open PySem L2 PyProof.Rows
/-! ### readings that law_k33 needs more -/
theorem room65 {k : Nat} {A : Around} (r : Room k A) : A.units + 65 < cLine := by have := r.un; omega
@[irreducible] def xNotInD (K : PySem.W.Frag) : R2 := rNotInD K
@[irreducible] def xDictP (K : PySem.W.Frag) : List V → Hp → VK → Prop := fun xs H Q => ∃ (a : Addr) (ps : List Addr) (kvs : List (Key × V)), xs = [.ref a] ∧ SqL K H a (ps.map V.ref) ∧ Paired (fun p kv => SqT K H p [kV kv.1, kv.2]) ps kvs ∧ ∀ p, H p = none → Q (.ref p) (upd H p (.dK (mergeK [] kvs)))
section
variable {X : Cx} {sB : Shared} {HB : Hp} {scB : Scope} {envB : Env} {fpB : List Addr}
theorem my_notInDB (hu : X.A.units + 65 < cLine) : OpR (X.blk sB HB scB envB fpB) (compareOp .NotIn) (xNotInD X.K) := by unfold xNotInD; exact op_notInD hu
theorem ix_tupB : IxR (X.blk sB HB scB envB fpB) (rIxT X.K) := ix_tup
theorem my_dictP (hc : X.calm = true) : CallR X (.type "dict") (xDictP X.K) := by unfold xDictP; exact call_dictP hc
variable {a b c d : Expr} {ta tb tc td : TE} {op op' op'' : CmpOp} {pos : Pos}
theorem still_ixL {K : PySem.W.Frag} {v : V} (h : Still ta) : Still (tOp (rIxL K) ta (tC v)) := fun σ H Q q => by
  obtain ⟨w, ⟨p, xs, i, z, e1, e2, hq, he, q⟩, k⟩ := h σ H _ q
  exact ⟨z, q, fun Q' q' => k _ ⟨p, xs, i, z, e1, e2, hq, he, q'⟩⟩
theorem still_ixT {K : PySem.W.Frag} {v : V} (h : Still ta) : Still (tOp (rIxT K) ta (tC v)) := fun σ H Q q => by
  obtain ⟨w, ⟨p, xs, i, z, e1, e2, hq, he, q⟩, k⟩ := h σ H _ q
  exact ⟨z, q, fun Q' q' => k _ ⟨p, xs, i, z, e1, e2, hq, he, q'⟩⟩
/-- a < b <= c <= d of ints, all still -/
def uCh3 (f g h : Int → Int → Bool) (ta tb tc td : TE) : TT := fun σ H Q => ta σ H fun x _ => tb σ H fun y _ => tc σ H fun z _ => td σ H fun w _ => ∃ i j l m, x = .int i ∧ y = .int j ∧ z = .int l ∧ w = .int m ∧ Q (f i j && (g j l && h l m)) H
theorem my_ch3T {f g h : Int → Int → Bool} (ho : OpR X (compareOp op) (rI0 fun i j => .bl (f i j))) (ho' : OpR X (compareOp op') (rI0 fun i j => .bl (g i j))) (ho'' : OpR X (compareOp op'') (rI0 fun i j => .bl (h i j)))
    (ha : PE X a ta) (hb : PE X b tb) (hc : PE X c tc) (hd : PE X d td) (sa : Still ta) (sb : Still tb) (sc : Still tc) (sd : Still td)
    (hm : lastMarks [op, op', op''] [b, c, d] = false := by with_unfolding_all rfl) : PT X (.Compare a [op, op', op''] [b, c, d] pos) (uCh3 f g h ta tb tc td) := by
  refine ⟨fun pins s σ H Q I q => ?_⟩
  obtain ⟨x, q, ka⟩ := sa σ H _ q
  obtain ⟨y, q, kb⟩ := sb σ H _ q
  obtain ⟨z, q, kc⟩ := sc σ H _ q
  obtain ⟨w, ⟨i, j, l, m, rfl, rfl, rfl, rfl, q⟩, kd⟩ := sd σ H _ q
  refine isTrue_chain (thn (ha.run pins s σ H (fun v' H' => v' = .int i ∧ H' = H) I (ka _ ⟨rfl, rfl⟩)) fun v1 s1 ⟨x1, H1, I1, r1, e1, f1⟩ => ?_) hm
  subst e1 f1
  refine test_link (thn (hb.run pins s1 σ _ (fun v' H' => v' = .int j ∧ H' = H1) I1 (kb _ ⟨rfl, rfl⟩)) fun v2 s2 ⟨x2, H2, I2, r2, e2, f2⟩ => ?_)
  subst e2 f2
  refine thn (ho pins s2 σ _ _ _ v1 v2 (fun v' H' => v' = .bl (f i j) ∧ H' = H2) I2 r1 r2 ⟨i, j, rfl, rfl, rfl, rfl⟩) fun v3 s3 ⟨x3, H3, I3, r3, e3, f3⟩ => ?_
  subst e3 f3
  cases r3
  refine wpAny_truthy_bool ?_
  cases hf : f i j with
  | false =>
    rw [hf, Bool.false_and] at q
    exact ite_ff ⟨H3, I3, q⟩
  | true =>
    rw [hf, Bool.true_and] at q
    refine ite_tt (test_link (thn (hc.run pins s3 σ _ (fun v' H' => v' = .int l ∧ H' = H3) I3 (kc _ ⟨rfl, rfl⟩)) fun v4 s4 ⟨x4, H4, I4, r4, e4, f4⟩ => ?_))
    subst e4 f4
    refine thn (ho' pins s4 σ _ _ _ v2 v4 (fun v' H' => v' = .bl (g j l) ∧ H' = H4) I4 r2 r4 ⟨j, l, rfl, rfl, rfl, rfl⟩) fun v5 s5 ⟨x5, H5, I5, r5, e5, f5⟩ => ?_
    subst e5 f5
    cases r5
    refine wpAny_truthy_bool ?_
    cases hg : g j l with
    | false =>
      rw [hg, Bool.false_and] at q
      exact ite_ff ⟨H5, I5, q⟩
    | true =>
      rw [hg, Bool.true_and] at q
      refine ite_tt (test_last (thn (hd.run pins s5 σ _ (fun v' H' => v' = .int m ∧ H' = H5) I5 (kd _ ⟨rfl, rfl⟩)) fun v6 s6 ⟨x6, H6, I6, r6, e6, f6⟩ => ?_))
      subst e6 f6
      refine thn (ho'' pins s6 σ _ _ _ v4 v6 (fun v' H' => v' = .bl (h l m) ∧ H' = H6) I6 r4 r6 ⟨l, m, rfl, rfl, rfl, rfl⟩) fun v7 s7 ⟨x7, H7, I7, r7, e7, f7⟩ => ?_
      subst e7 f7
      cases r7
      exact wpAny_truthy_bool ⟨H7, I7, q⟩
end
section
variable {K : PySem.W.Frag} {H0 H : Hp} {L : List Ent} {x y : V} {d : PyData} {ds : List PyData} {Q : VK} {a : Addr}
theorem st_notInD (hx : Dp K H x d) (hy : Dp K H y (.list ds)) (s : Sh 64 d) (s2 : Sh 64 (.list ds)) (h : Q (.bl (!ds.any fun z => PyData.eqv z d)) H) : xNotInD K x y H Q := by
  unfold xNotInD; exact ⟨d, ds, hx, hy, s.shaped (Nat.le_refl _), s2.shaped (Nat.le_refl _), h⟩
theorem rows_pairs (K : PySem.W.Frag) {H : Hp} : ∀ {vs : List V} {rs : List (Int × Int)}, RowsAt H vs rs → ∃ ps : List Addr, vs = ps.map V.ref ∧ Paired (fun p (kv : Key × V) => SqT K H p [kV kv.1, kv.2]) ps (rs.map fun r => ((Sum.inl r.1 : Key), V.int r.2))
  | [], [], _ => ⟨[], rfl, .nil⟩
  | v :: vs, r :: rs, ⟨⟨q, e, h⟩, b⟩ => by
    obtain ⟨ps, e1, e2⟩ := rows_pairs K b
    subst e e1
    exact ⟨q :: ps, rfl, .cons (SqT.of h) e2⟩
  | [], _ :: _, h => h.elim
  | _ :: _, [], h => h.elim
theorem st_dictP {xs : List V} {E : List (Int × Int)} (w : W H0 H L) (i : Nat) (hi : L[i]? = some (a, .lst xs)) (r : RowsAt H xs E) (k : ∀ p H', W H0 H' ((p, .dK (mergeK [] (E.map fun r => ((Sum.inl r.1 : Key), V.int r.2)))) :: L) → Q (.ref p) H') : xDictP K [.ref a] H Q := by
  obtain ⟨ps, e, hp⟩ := rows_pairs K r
  subst e
  unfold xDictP
  exact ⟨a, ps, _, rfl, SqL.of (w.get i hi), hp, fun p hn => k p _ (w.new _ hn)⟩
/-- some of a list of pairs, as they are -/
theorem st_lcKeep {g : TG} {tt : TT} {te : TE} {vs : List Nat} {σ : L2.St} {ys : List (Int × Int)} {zs : List V} (p : Int × Int → Bool) (w : W H0 H L) (j : Nat) (hj : L[j]? = some (a, .lst zs)) (r : RowsAt H zs ys) (hl : ys.length ≤ 60000)
    (hs : ∀ D q y P H' xs, W H0 H' ((D, .lst xs) :: L) → Tps H H' → H' q = some (.tup [.int y.1, .int y.2]) → (p y = true → xAcc D P (.ref q) H') → (p y = false → P H') → LcTurn g tt te vs σ D P (.ref q) H')
    (k : ∀ D H' xs, W H0 H' ((D, .lst xs) :: L) → RowsAt H' xs (ys.filter p) → Tps H H' → Q (.ref D) H') : xLc (Itl K a) g tt te vs σ H Q := by
  have hzy := r.len
  refine st_lcL (xs := zs) (fun D i H' => ∃ xs, W H H' ((D, .lst xs) :: L) ∧ RowsAt H' xs ((ys.take i).filter p)) w.now (fun D H' w1 => ⟨[], w1, True.intro⟩) (fun D i H' _ ⟨xs, w1, _⟩ => SqL.of (w1.get (j + 1) (by simpa using hj))) ?_ ?_
  · rintro D i x H' hx ⟨xs, w1, r1⟩
    obtain ⟨y, hy, q, rfl, hq⟩ := r.get i hx
    have e : (ys.take (i + 1)).filter p = (ys.take i).filter p ++ [y].filter p := by
      rw [List.take_succ, hy, ← List.filter_append]; rfl
    refine hs D q y _ H' xs (w.tr w1) w1.tp (w1.tp _ _ hq) (fun hp => ?_) (fun hp => ?_)
    · have hlen : xs.length ≤ 60000 := by
        rw [r1.len]
        exact Nat.le_trans (List.length_filter_le _ _) (Nat.le_trans (by rw [List.length_take]; omega) hl)
      refine st_acc w1.now 0 rfl (szL (by omega)) fun H3 w3 => ?_
      refine ⟨xs ++ [V.ref q], w1.tr w3, ?_⟩
      rw [e, List.filter_cons_of_pos hp]
      exact (r1.mono w3.tp).snoc ⟨q, rfl, w3.tp _ _ (w1.tp _ _ hq)⟩
    · refine ⟨xs, w1, ?_⟩
      rw [e, List.filter_cons_of_neg (by rw [hp]; exact Bool.false_ne_true), List.filter_nil, List.append_nil]
      exact r1
  · rintro D H' ⟨xs, w1, r1⟩
    rw [hzy, List.take_length] at r1
    exact k D H' xs (w.tr w1) r1 w1.tp
end
/-- pairs made over a range -/
theorem st_lcMk {H0 H : Hp} {L : List Ent} {Q : VK} {lo : Int} {n : Nat} {g : TG} {tt : TT} {te : TE} {vs : List Nat} {σ : L2.St} (h : Nat → Int × Int) (w : W H0 H L) (hn : n ≤ 60000)
    (hs : ∀ D i P H' xs, i < n → W H0 H' ((D, .lst xs) :: L) → Tps H H' → xNew (.tup [.int (h i).1, .int (h i).2]) H' (fun v H4 => xAcc D P v H4) → LcTurn g tt te vs σ D P (.int (lo + (i : Int))) H')
    (k : ∀ D H' xs, W H0 H' ((D, .lst xs) :: L) → RowsAt H' xs ((List.range n).map h) → Tps H H' → Q (.ref D) H') : xLc (Itr lo n) g tt te vs σ H Q := by
  refine st_lcR (fun D i H' => ∃ xs, W H H' ((D, .lst xs) :: L) ∧ RowsAt H' xs ((List.range i).map h)) w.now (fun D H' w1 => ⟨[], w1, True.intro⟩) ?_ ?_
  · rintro D i H' hi ⟨xs, w1, r1⟩
    refine hs D i _ H' xs hi (w.tr w1) w1.tp ?_
    refine st_tup w1.now fun q2 H2 hq2 w2 => ?_
    have hlen : xs.length = i := by rw [r1.len, List.length_map, List.length_range]
    refine st_acc w2.now 0 rfl (szL (by omega)) fun H3 w3 => ?_
    refine ⟨xs ++ [V.ref q2], w1.tr (w2.tr w3), ?_⟩
    rw [List.range_succ, List.map_append]
    exact ((r1.mono w2.tp).mono w3.tp).snoc ⟨q2, rfl, w3.tp _ _ hq2⟩
  · rintro D H' ⟨xs, w1, r1⟩
    exact k D H' xs (w.tr w1) r1 w1.tp
/-- yes or no of pairs -/
theorem st_lcBl {K : PySem.W.Frag} {H0 H : Hp} {L : List Ent} {Q : VK} {a : Addr} {g : TG} {tt : TT} {te : TE} {vs : List Nat} {σ : L2.St} {ys : List (Int × Int)} {zs : List V} (p : Int × Int → Bool) (w : W H0 H L) (j : Nat) (hj : L[j]? = some (a, .lst zs)) (r : RowsAt H zs ys) (hl : ys.length ≤ 60000)
    (hs : ∀ D q y P H' xs, W H0 H' ((D, .lst xs) :: L) → H' q = some (.tup [.int y.1, .int y.2]) → xAcc D P (.bl (p y)) H' → LcTurn g tt te vs σ D P (.ref q) H')
    (k : ∀ D H', W H0 H' ((D, .lst ((ys.map p).map V.bl)) :: L) → Tps H H' → Q (.ref D) H') : xLc (Itl K a) g tt te vs σ H Q := by
  have hzy := r.len
  refine st_lcL (xs := zs) (fun D i H' => W H H' ((D, .lst (((ys.take i).map p).map V.bl)) :: L)) w.now (fun D H' w1 => w1) (fun D i H' _ w1 => SqL.of (w1.get (j + 1) (by simpa using hj))) ?_ ?_
  · rintro D i x H' hx w1
    obtain ⟨y, hy, q, rfl, hq⟩ := r.get i hx
    have e : ((ys.take (i + 1)).map p).map V.bl = ((ys.take i).map p).map V.bl ++ [V.bl (p y)] := by
      rw [List.take_succ, hy, List.map_append, List.map_append]; rfl
    refine hs D q y _ H' _ (w.tr w1) (w1.tp _ _ hq) ?_
    refine st_acc w1.now 0 rfl (szL (by rw [List.length_map, List.length_map, List.length_take]; omega)) fun H3 w3 => ?_
    show W H H3 ((D, .lst (((ys.take (i + 1)).map p).map V.bl)) :: L)
    rw [e]
    exact w1.tr w3
  · rintro D H' w1
    rw [hzy, List.take_length] at w1
    exact k D H' (w.tr w1) w1.tp
theorem RowsAt.at {H : Hp} : ∀ {vs : List V} {rs : List (Int × Int)} {i : Nat} {r : Int × Int}, RowsAt H vs rs → rs[i]? = some r → ∃ q, vs[i]? = some (.ref q) ∧ H q = some (.tup [.int r.1, .int r.2])
  | v :: vs, r :: rs, 0, _, ⟨⟨q, e, h⟩, _⟩, e2 => by cases e2; exact ⟨q, by rw [e]; rfl, h⟩
  | v :: vs, r :: rs, i + 1, _, ⟨_, b⟩, e2 => RowsAt.at (i := i) b e2
  | [], [], _, _, _, e => by simp at e
  | [], _ :: _, _, _, h, _ => h.elim
  | _ :: _, [], _, _, h, _ => h.elim
theorem eqv_row (a b : Int × Int) : PyData.eqv (rowD a) (rowD b) = decide (a = b) := by
  unfold rowD
  simp only [PyData.eqv, PyData.eqvAll, Bool.and_true]
  rw [Bool.eq_iff_iff, decide_eq_true_iff, Bool.and_eq_true, beq_iff_eq, beq_iff_eq]
  constructor
  · rintro ⟨h1, h2⟩; exact Prod.ext h1 h2
  · rintro rfl; exact ⟨rfl, rfl⟩
theorem any_row (rs : List (Int × Int)) (a : Int × Int) : ((rs.map rowD).any fun z => PyData.eqv z (rowD a)) = decide (a ∈ rs) := by
  rw [Bool.eq_iff_iff, List.any_eq_true, decide_eq_true_iff]
  constructor
  · rintro ⟨z, hz, e⟩
    obtain ⟨r, hr, rfl⟩ := List.mem_map.mp hz
    rw [eqv_row, decide_eq_true_iff] at e
    rw [← e]; exact hr
  · intro h
    exact ⟨rowD a, List.mem_map_of_mem h, by rw [eqv_row, decide_eq_true_iff]⟩
/-- a dict of pairs with other keys each -/
theorem merge_out {e : Int} : ∀ (E : List (Int × Int)) (acc : List (Key × V)), e ∉ E.map (·.1) → valV (mergeK acc (E.map fun r => ((Sum.inl r.1 : Key), V.int r.2))) (Sum.inl e) = valV acc (Sum.inl e)
  | [], _, _ => rfl
  | p :: r, acc, h => by
    rw [List.map_cons, List.mem_cons, not_or] at h
    show valV (mergeK (putK acc (Sum.inl p.1) (V.int p.2)) (r.map _)) _ = _
    rw [merge_out r _ h.2, valV_put, if_neg (fun z => h.1 (Sum.inl.inj z))]
theorem merge_val {e l : Int} : ∀ (E : List (Int × Int)) (acc : List (Key × V)), (E.map (·.1)).Nodup → (e, l) ∈ E → valV (mergeK acc (E.map fun r => ((Sum.inl r.1 : Key), V.int r.2))) (Sum.inl e) = some (.int l)
  | p :: r, acc, nd, h => by
    rw [List.map_cons] at nd
    obtain ⟨n1, n2⟩ := List.nodup_cons.mp nd
    show valV (mergeK (putK acc (Sum.inl p.1) (V.int p.2)) (r.map _)) _ = _
    rcases List.mem_cons.mp h with q | q
    · subst q
      rw [merge_out r _ n1, valV_put, if_pos rfl]
    · exact merge_val r _ n2 q
@[irreducible] def sp_begins : Sp := fun vs H Q _ => ∃ (le : Addr) (xs : List V) (E : List (Int × Int)) (ov : Int) (ag : Bool) (last : Int) (R : List Ent), vs = [.ref le, .int ov, .bl ag, .int last] ∧ W H H ((le, .lst xs) :: R) ∧ RowsAt H xs E ∧ E3 E ov ∧ 0 ≤ last ∧ last ≤ 200 ∧
  ∀ H' l ys m, W H H' ((l, .lst ys) :: (le, .lst xs) :: R) → RowsAt H' ys ((List.range m).map (row3 E ov ag)) → Cnt E ov ag last m → Q (.ref l) H'
theorem of_begins  {vs : List V} {H : Hp} {Q : VK} {E : XK} (h :  ∃ (le : Addr) (xs : List V) (E : List (Int × Int)) (ov : Int) (ag : Bool) (last : Int) (R : List Ent), vs = [.ref le, .int ov, .bl ag, .int last] ∧ W H H ((le, .lst xs) :: R) ∧ RowsAt H xs E ∧ E3 E ov ∧ 0 ≤ last ∧ last ≤ 200 ∧
  ∀ H' l ys m, W H H' ((l, .lst ys) :: (le, .lst xs) :: R) → RowsAt H' ys ((List.range m).map (row3 E ov ag)) → Cnt E ov ag last m → Q (.ref l) H') : sp_begins  vs H Q E := by unfold sp_begins; exact h
section
variable {P : Program} {w : World} {K : PySem.W.Frag} {mg : Str → Option Value} {base : Heap} {A : Ads}
theorem ok_law_begins (T : Txt K mg A) : FnOk P w K mg base (L2.CX P w) 1 A.f_law_begins A.d_law_begins P_law_begins (sp_begins) := by
  refine T.F_law_begins.okX sc_law_begins (fun vs H Q E h => ?_) (fun cdv Ar outer s H vs Q E hr h => ?_)
  · unfold sp_begins at h; obtain ⟨le, xs, E, ov, ag, last, R, rfl, _⟩ := h; rfl
  · unfold sp_begins at h; obtain ⟨le, xs, E, ov, ag, last, R, rfl, w, r, hE, l0, l1, k⟩ := h
    refine ⟨_, (pss_cons (ps_set (i := 4) sc_law_begins.nd rfl (by first | exact Or.inl rfl | exact Or.inr rfl) (my_lst pa_nil))
      (pss_cons (ps_set (i := 5) sc_law_begins.nd rfl (by first | exact Or.inl rfl | exact Or.inr rfl) pe_int)
      (pss_cons (ps_set (i := 6) sc_law_begins.nd rfl (by first | exact Or.inl rfl | exact Or.inr rfl) pe_int)
      (pss_cons (my_while ownE (PW.pt (my_and (pt_cmpR op_le (pv 5) (pv 3) (nomark _)) (pw_and1 (PW.pt (my_or (pt_val (pv 2)) (pw_or1 (pt_cmpR op_lt (pv 6) (pe_callB my_lenQ (by rfl) T.z_len PySem.boot_len (pa_cons (pv 0) pa_nil)) (nomark _))))))))
        (pss_cons (ps_asg (pe_ix ix_list (pv 0) (pe_op op_mod (pv 6) (pe_callB my_lenQ (by rfl) T.z_len PySem.boot_len (pa_cons (pv 0) pa_nil))) (fun _ _ => rfl)) (pg_tup rfl (pgs_cons (pg_name (i := 7) sc_law_begins.nd rfl (by first | exact Or.inl rfl | exact Or.inr rfl)) (pgs_cons (pg_name (i := 8) sc_law_begins.nd rfl (by first | exact Or.inl rfl | exact Or.inr rfl)) pgs_nil))))
      (pss_cons (ps_expr (pe_bm PySem.F.plainAttrs_list PySem.F.slot_list_append PySem.F.type_list_append my_append (pv 4) (pa_cons (my_tup (pa_cons (pv 5) (pa_cons (pv 7) pa_nil))) pa_nil)))
      (pss_cons (ps_set (i := 9) sc_law_begins.nd rfl (by first | exact Or.inl rfl | exact Or.inr rfl) (pe_ix ix_tup (pe_ix ix_list (pv 0) (pe_op op_mod (pe_op op_add (pv 6) pe_int) (pe_callB my_lenQ (by rfl) T.z_len PySem.boot_len (pa_cons (pv 0) pa_nil))) (fun _ _ => rfl)) pe_int (fun _ _ => rfl)))
      (pss_cons (ps_set (i := 10) sc_law_begins.nd rfl (by first | exact Or.inl rfl | exact Or.inr rfl) (my_andV (pe_not (pv 2)) (pe_one (pe_cmpR op_eq (pe_op op_add (pv 6) pe_int) (pe_callB my_lenQ (by rfl) T.z_len PySem.boot_len (pa_cons (pv 0) pa_nil)) (nomark _)))))
      (pss_cons (ps_set (i := 5) sc_law_begins.nd rfl (by first | exact Or.inl rfl | exact Or.inr rfl) (pe_op op_sub (pe_op op_add (pv 5) (pv 8)) (my_ifExp (pt_val (pv 10)) pe_int (pe_callB (my_min3 rfl) (by rfl) T.z_min (by decide +kernel) (pa_cons (pv 1) (pa_cons (pe_op op_fdiv (pv 8) pe_int) (pa_cons (pe_op op_fdiv (pv 9) pe_int) pa_nil)))))))
      (pss_one (ps_set (i := 6) sc_law_begins.nd rfl (by first | exact Or.inl rfl | exact Or.inr rfl) (pe_op op_add (pv 6) pe_int)))))))))
      (pss_one (ps_ret (pv 4))))))), ?_⟩
    have hxl := r.len
    have hpos := hE.pos
    walk_at "rd"
    refine st_new w fun l H1 w1 => ?_
    walk_at "rd"
    refine st_while2 (fun q σ H' => ∃ (i : Nat) (ys : List V) (u1 u2 u3 u4 : Option V), σ = [some (.ref le), some (.int ov), some (.bl ag), some (.int last), some (.ref l), some (.int (at3 E ov ag i)), some (.int (i : Int)), u1, u2, u3, u4] ∧ q = (last + 1 - at3 E ov ag i).toNat ∧ (∀ j, j < i → at3 E ov ag j ≤ last ∧ (ag = true ∨ j < E.length)) ∧
        RowsAt H' ys ((List.range i).map (row3 E ov ag)) ∧ W H H' ((l, .lst ys) :: (le, .lst xs) :: R)) _
      ⟨0, [], none, none, none, none, rfl, rfl, (fun j hj => absurd hj (Nat.not_lt_zero _)), True.intro, w1⟩ ?_
    rintro q σ H' ⟨i, ys, u1, u2, u3, u4, rfl, rfl, hlo, ry, w2⟩
    have hge := hE.ge (ag := ag) i
    walk_at "rd"
    by_cases h1 : at3 E ov ag i ≤ last
    case neg =>
      refine xIf_F (decide_eq_false h1) ?_
      refine xWb_F rfl ?_
      walk_at "rd"
      exact k _ _ _ i w2 ry ⟨hlo, fun z => h1 z.1⟩
    refine xIf_T (decide_eq_true h1) ?_
    walk_at "rd"
    by_cases hag : ag = true
    case' pos =>
      refine xIf_T hag ?_
      refine xWb_T rfl ?_
      have h2 : ag = true ∨ i < E.length := .inl hag
    case' neg =>
      refine xIf_F (Bool.eq_false_iff.mpr hag) ?_
      walk_at "rd"
      by_cases hlt : i < E.length
      case neg =>
        refine xWb_F (decide_eq_false (by rw [hxl]; omega)) ?_
        walk_at "rd"
        exact k _ _ _ i w2 ry ⟨hlo, fun z => z.2.elim hag hlt⟩
      refine xWb_T (decide_eq_true (by rw [hxl]; omega)) ?_
      have h2 : ag = true ∨ i < E.length := .inr hlt
    all_goals
      have hp0 : (0 : Int) < (xs.length : Int) := by omega
      obtain ⟨q1, g1, hq1⟩ := (r.mono w2.tp).at (hE.mem i).1
      obtain ⟨q2, g2, hq2⟩ := (r.mono w2.tp).at (hE.mem (i + 1)).1
      have a1 : atI xs ((i : Int) % (xs.length : Int)) = some (.ref q1) := at_of (j := i % E.length) (by rw [hxl]; rfl) g1
      have a2 : atI xs (((i : Int) + 1) % (xs.length : Int)) = some (.ref q2) := at_of (j := (i + 1) % E.length) (by rw [hxl]; rfl) g2
      replace hq1 : H' q1 = some (.tup [.int (ent3 E i), .int (len3 E i)]) := hq1
      replace hq2 : H' q2 = some (.tup [.int (ent3 E (i + 1)), .int (len3 E (i + 1))]) := hq2
      walk_at "rd"
      refine st_tup w2.now fun q3 H3 hq3 w3 => ?_
      walk_at "rd"
      have hyl : ys.length = i := by rw [ry.len, List.length_map, List.length_range]
      refine st_app w3.now 0 rfl (szL (by omega)) fun H4 w4 => ?_
      have w5 : W H' H4 ((l, .lst (ys ++ [V.ref q3])) :: (le, .lst xs) :: R) := w3.tr w4
      replace hq2 := w5.tp _ _ hq2
      have hq3' := w4.tp _ _ hq3
      replace ry := ry.mono w5.tp
      have w6 := w2.tr w5
      clear w2 w3 w4 w5 hq1 hq3
      have ry6 : RowsAt H4 (ys ++ [V.ref q3]) ((List.range (i + 1)).map (row3 E ov ag)) := by
        rw [List.range_succ, List.map_append]
        exact ry.snoc ⟨q3, rfl, hq3'⟩
      have hlt1 := hE.lt (ag := ag) i
      have hlo6 : ∀ j, j < i + 1 → at3 E ov ag j ≤ last ∧ (ag = true ∨ j < E.length) := fun j hj => by
        by_cases e : j = i
        · rw [e]; exact ⟨h1, h2⟩
        · exact hlo j (by omega)
      walk_at "rd"
      by_cases hend : ag = false ∧ i + 1 = E.length
      · have e0 : at3 E ov ag (i + 1) = at3 E ov ag i + len3 E i - 0 := by
          show at3 E ov ag i + len3 E i - join3 E ov ag i = _
          unfold join3
          rw [if_pos hend]
        refine xIf_T (by rw [hend.1]; rfl) ?_
        walk_at "rd"
        refine xIf_T (decide_eq_true (by rw [hxl, ← hend.2]; rfl)) ?_
        walk_at "rd"
        exact ⟨(show (last + 1 - at3 E ov ag (i + 1)).toNat < _ by omega), i + 1, _, _, _, _, _, by rw [e0]; rfl, rfl, hlo6, ry6, w6⟩
      · have e0 : at3 E ov ag (i + 1) = at3 E ov ag i + len3 E i - mn2 (mn2 ov (len3 E i / 2)) (len3 E (i + 1) / 2) := by
          show at3 E ov ag i + len3 E i - join3 E ov ag i = _
          unfold join3
          rw [if_neg hend]
        by_cases hag2 : ag = true
        case' pos =>
          refine xIf_F (by rw [hag2]; rfl) ?_
          walk_at "rd"
          refine xIf_F rfl ?_
        case' neg =>
          refine xIf_T (by rw [Bool.eq_false_iff.mpr hag2]; rfl) ?_
          walk_at "rd"
          refine xIf_F (decide_eq_false (fun z => hend ⟨Bool.eq_false_iff.mpr hag2, by have z2 := V.int.inj z; rw [hxl] at z2; omega⟩)) ?_
        all_goals
          walk_at "rd"
          exact ⟨(show (last + 1 - at3 E ov ag (i + 1)).toNat < _ by omega), i + 1, _, _, _, _, _, by rw [e0]; rfl, rfl, hlo6, ry6, w6⟩
end
end TR

namespace TR
open PySem L2
/-! ### law_k33 -/
theorem RowsAt.app {H : Hp} : ∀ {vs us : List V} {rs qs : List (Int × Int)}, RowsAt H vs rs → RowsAt H us qs → RowsAt H (vs ++ us) (rs ++ qs)
  | [], _, [], _, _, h => h
  | v :: vs, _, r :: rs, _, ⟨a, b⟩, h => ⟨a, RowsAt.app b h⟩
  | [], _, _ :: _, _, h, _ => h.elim
  | _ :: _, _, [], _, h, _ => h.elim
structure Fill (f : Sf) (E : List (Int × Int)) (s : Pl) : Prop where
  tr : s.o.q.turn = E.map (·.1)
  lg : ∀ p ∈ E, longO f s.o p.1 = p.2
  bd : ∀ p ∈ E, 1 ≤ p.2 ∧ p.2 ≤ 40
  mx : s.o.mixed = false
theorem Fill.add {f : Sf} {E : List (Int × Int)} {s : Pl} {x : Str} {n : Int} (h : Fill f E s) (ok : s.Ok f) (hl : s.o.q.turn.length = E.length) (hx : f.lookup x = some n) (hn : 1 ≤ n ∧ n ≤ 40) :
    Fill f (E ++ [((s.o.q.tunes.length : Int) + 1, n)]) (addP s x (E.length : Int)) := by
  have hq : (putO s.o x (E.length : Int)).q = s.o.q.put x (E.length : Int) := putO_q _ _ _
  refine ⟨?_, ?_, ?_, ?_⟩
  · show (putO s.o x (E.length : Int)).q.turn = _
    rw [hq]
    show insP s.o.q.turn ((E.length : Int)).toNat _ = _
    rw [List.map_append, ← h.tr]
    unfold insP
    rw [Int.toNat_natCast, ← hl, List.take_length, List.drop_length, List.append_nil]
    rfl
  · intro p hp
    show longO f (putO s.o x (E.length : Int)) p.1 = p.2
    unfold longO
    rw [hq]
    rcases List.mem_append.mp hp with q | q
    · have he : s.o.has p.1 := ok.o.has (by rw [h.tr]; exact List.mem_map_of_mem q)
      rw [tune_put he.1 he.2]
      exact h.lg p q
    · rw [List.mem_singleton.mp q]
      have : (s.o.q.put x (E.length : Int)).tune ((s.o.q.tunes.length : Int) + 1) = x := by
        unfold Qu.tune Qu.put
        simp only
        rw [show ((s.o.q.tunes.length : Int) + 1 - 1).toNat = s.o.q.tunes.length by omega, List.getD_eq_getElem?_getD, List.getElem?_append_right (Nat.le_refl _), Nat.sub_self]
        rfl
      show (f.lookup ((s.o.q.put x (E.length : Int)).tune ((s.o.q.tunes.length : Int) + 1))).getD 0 = n
      rw [this, hx]
      rfl
  · intro p hp
    rcases List.mem_append.mp hp with q | q
    · exact h.bd p q
    · rw [List.mem_singleton.mp q]; exact hn
  · show (putO s.o x (E.length : Int)).mixed = false
    unfold putO
    rw [if_neg (by rw [h.mx]; exact Bool.false_ne_true)]
    exact h.mx
theorem xIf_selS {c : Bool} {x y : String} {σ : L2.St} {H : Hp} {Q : VK} (h : Q (.str (Str.ofString (if c = true then x else y))) H) : xIf c (tC (.str (Str.ofString x)) σ H Q) (tC (.str (Str.ofString y)) σ H Q) := by
  cases c with
  | true => exact xIf_T rfl h
  | false => exact xIf_F rfl h
section
variable {P : Program} {w : World} {K : PySem.W.Frag} {mg : Str → Option Value} {base : Heap} {A : Ads}
theorem ok_law (T : Txt K mg A) : FnOk P w K mg base (L2.CX P w) 11 A.f_law A.d_law P_law (sp_law K) := by
  refine T.F_law.okX sc_law (fun vs H Q E h => ?_) (fun cdv Ar outer s H vs Q E hr h => ?_)
  · unfold sp_law at h; obtain ⟨a, ns, R, rfl, _⟩ := h; rfl
  · unfold sp_law at h; obtain ⟨sa, ns, R, rfl, sc, w, hl, k⟩ := h
    refine ⟨_, (pss_cons (ps_set (i := 1) sc_law.nd rfl (by first | exact Or.inl rfl | exact Or.inr rfl) (my_lst pa_nil))
      (pss_cons (ps_set (i := 2) sc_law.nd rfl (by first | exact Or.inl rfl | exact Or.inr rfl) (my_call (ok_law_shelf T) (hr.mono (by decide)) (by rfl) T.g_law_shelf T.k_law_shelf T.b_law_shelf passE (pa_cons (pv 0) (pa_cons (pv 1) pa_nil))))
      (pss_cons (ps_set (i := 3) sc_law.nd rfl (by first | exact Or.inl rfl | exact Or.inr rfl) (my_call (ok_law_draw T) (hr.mono (by decide)) (by rfl) T.g_law_draw T.k_law_draw T.b_law_draw passE (pa_cons (pv 0) (pa_cons (pv 1) (pa_cons pe_int pa_nil)))))
      (pss_cons (ps_set (i := 4) sc_law.nd rfl (by first | exact Or.inl rfl | exact Or.inr rfl) (my_make T.M_Player (ok_Player_init__ T) (hr.mono (by decide)) (by rfl) T.g_Player T.b_Player_init__ passE (pa_cons (my_call (ok_law_made T) (hr.mono (by decide)) (by rfl) T.g_law_made T.k_law_made T.b_law_made passE (pa_cons (pv 2) pa_nil)) (pa_cons (pv 3) (pa_cons pe_int pa_nil)))))
      (pss_cons (ps_set (i := 5) sc_law.nd rfl (by first | exact Or.inl rfl | exact Or.inr rfl) (my_lst pa_nil))
      (pss_cons (my_for ownE rfl (pi_range1 (by rfl) T.z_range (pa_cons (pe_op op_add pe_int (my_call (ok_law_draw T) (hr.mono (by decide)) (by rfl) T.g_law_draw T.k_law_draw T.b_law_draw passE (pa_cons (pv 0) (pa_cons (pv 1) (pa_cons pe_int pa_nil))))) pa_nil)) (pg_name (i := 6) sc_law.nd rfl (by first | exact Or.inl rfl | exact Or.inr rfl))
        (pss_cons (ps_set (i := 7) sc_law.nd rfl (by first | exact Or.inl rfl | exact Or.inr rfl) (my_call (ok_law_pick T) (hr.mono (by decide)) (by rfl) T.g_law_pick T.k_law_pick T.b_law_pick passE (pa_cons (pv 0) (pa_cons (pv 1) (pa_cons (my_lst (pa_cons pe_str (pa_cons pe_str (pa_cons pe_str (pa_cons pe_str (pa_cons pe_str (pa_cons pe_str pa_nil))))))) pa_nil)))))
      (pss_one (ps_expr (pe_bm PySem.F.plainAttrs_list PySem.F.slot_list_append PySem.F.type_list_append my_append (pv 5) (pa_cons (my_tup (pa_cons (my_meth (pv 4) T.c_Player T.m_Player_add (ok_Player_add T) (hr.mono (by decide)) T.b_Player_add passE (pa_cons (pv 7) (pa_cons (pv 6) pa_nil))) (pa_cons (pe_dget (hu_of hr) (pv 2) (pv 7) (fun _ _ => rfl)) pa_nil))) pa_nil))))))
      (pss_cons (ps_set (i := 8) sc_law.nd rfl (by first | exact Or.inl rfl | exact Or.inr rfl) (pe_cmpR op_eq (my_call (ok_law_draw T) (hr.mono (by decide)) (by rfl) T.g_law_draw T.k_law_draw T.b_law_draw passE (pa_cons (pv 0) (pa_cons (pv 1) (pa_cons pe_int pa_nil)))) pe_int (nomark _)))
      (pss_cons (ps_expr (my_meth (pv 4) T.c_Player T.m_Player_set_again (ok_Player_set_again T) (hr.mono (by decide)) T.b_Player_set_again passE (pa_cons (my_ifExp (pt_val (pv 8)) pe_str pe_str) pa_nil)))
      (pss_cons (ps_expr (my_meth0 (pv 4) T.c_Player T.m_Player_resume (ok_Player_resume T) (hr.mono (by decide)) T.b_Player_resume passE))
      (pss_cons (ps_set (i := 9) sc_law.nd rfl (by first | exact Or.inl rfl | exact Or.inr rfl) (my_call (ok_law_draw T) (hr.mono (by decide)) (by rfl) T.g_law_draw T.k_law_draw T.b_law_draw passE (pa_cons (pv 0) (pa_cons (pv 1) (pa_cons pe_int pa_nil)))))
      (pss_cons (ps_set (i := 10) sc_law.nd rfl (by first | exact Or.inl rfl | exact Or.inr rfl) (my_call (ok_law_begins T) (hr.mono (by decide)) (by rfl) T.g_law_begins T.k_law_begins T.b_law_begins passE (pa_cons (pv 5) (pa_cons (pv 3) (pa_cons (pv 8) (pa_cons (pv 9) pa_nil))))))
      (pss_cons (ps_set (i := 11) sc_law.nd rfl (by first | exact Or.inl rfl | exact Or.inr rfl) (my_lst pa_nil))
      (pss_cons (ps_set (i := 12) sc_law.nd rfl (by first | exact Or.inl rfl | exact Or.inr rfl) (pe_callTy (my_dictP rfl) (by rfl) T.z_dict (by decide +kernel) (pa_cons (pv 5) pa_nil)))
      (pss_cons (my_setLc (i := 13) (own := [("k", 6)]) rfl sc_law.nd rfl rfl (sw_true rfl rfl rfl (by decide +kernel)) (pi_range1 (by rfl) T.z_range (pa_cons (pe_op op_sub (pe_callB my_lenQ (by rfl) T.z_len PySem.boot_len (pa_cons (pv 10) pa_nil)) pe_int) pa_nil)) (blkOk_by (own := [("k", 6)]) (N := N_law) (sc := defScope s_law) (by decide +kernel)) (fun _ _ _ _ _ => (pg_name (i := 6) sc_law.nd rfl (by first | exact Or.inl rfl | exact Or.inr rfl))) (fun _ _ _ _ _ => pts_nil) (fun _ _ _ _ _ => (my_tup (pa_cons (pe_ix ix_tupB (pe_ix ix_listB (pv 10) (pe_op op_add (pv 6) pe_int) (fun _ _ => rfl)) pe_int (fun _ _ => rfl)) (pa_cons (pe_op op_add (pe_ix ix_tupB (pe_ix ix_listB (pv 10) (pv 6) (fun _ _ => rfl)) pe_int (fun _ _ => rfl)) (pe_dget (hu_of hr) (pv 12) (pe_ix ix_tupB (pe_ix ix_listB (pv 10) (pv 6) (fun _ _ => rfl)) pe_int (fun _ _ => rfl)) (fun _ _ => rfl))) pa_nil)))))
      (pss_cons (my_for ownE rfl (pi_range1 (by rfl) T.z_range (pa_cons (pe_op op_add (pv 9) pe_int) pa_nil)) (pg_name (i := 6) sc_law.nd rfl (by first | exact Or.inl rfl | exact Or.inr rfl))
        (pss_cons (ps_set (i := 14) sc_law.nd rfl (by first | exact Or.inl rfl | exact Or.inr rfl) (my_meth0 (pv 4) T.c_Player T.m_Player_sounds (ok_Player_sounds T) (hr.mono (by decide)) T.b_Player_sounds passE))
      (pss_cons (my_if (pt_cmpR op_ne (pe_cmpR op_eq (pe_callB my_lenQ (by rfl) T.z_len PySem.boot_len (pa_cons (pv 14) pa_nil)) pe_int (nomark _)) (pe_callB (cr_any rfl) (by rfl) T.z_any (by decide +kernel) (pa_cons (my_lc (own := [("first", 15), ("end", 16)]) rfl sc_law.nd (pi_list (pv 13)) (blkOk_by (own := [("first", 15), ("end", 16)]) (N := N_law) (sc := defScope s_law) (by decide +kernel)) (fun _ _ _ _ _ => (by exact (pg_tupB (n := 2) rfl (pgs_cons (pg_name (i := 15) sc_law.nd rfl (by first | exact Or.inl rfl | exact Or.inr rfl)) (pgs_cons (pg_name (i := 16) sc_law.nd rfl (by first | exact Or.inl rfl | exact Or.inr rfl)) pgs_nil))))) (fun _ _ _ _ _ => pts_nil) (fun _ _ _ _ _ => (my_chI op_le op_lt (pv 15) (pv 6) (pv 16) still_v still_v still_v))) pa_nil)) (nomark _))
        (pss_one (ps_ret pe_bl))
        pss_nil)
      (pss_cons (my_if (PW.pt (my_and (pt_cmpR op_eq (pe_callB my_lenQ (by rfl) T.z_len PySem.boot_len (pa_cons (pv 14) pa_nil)) pe_int (nomark _)) (pw_and1 (pt_cmpR (my_neD hr.units) (my_tup (pa_cons (pe_op op_add (pe_ix ix_tup (pe_ix ix_list (pv 14) pe_int (fun _ _ => rfl)) pe_int (fun _ _ => rfl)) (pe_ix ix_tup (pe_ix ix_list (pv 14) pe_int (fun _ _ => rfl)) pe_int (fun _ _ => rfl))) (pa_cons (pe_ix ix_tup (pe_ix ix_list (pv 14) pe_int (fun _ _ => rfl)) pe_int (fun _ _ => rfl)) pa_nil))) (my_tup (pa_cons (pe_ix ix_tup (pe_ix ix_list (pv 14) pe_int (fun _ _ => rfl)) pe_int (fun _ _ => rfl)) (pa_cons (pe_ix ix_tup (pe_ix ix_list (pv 14) pe_int (fun _ _ => rfl)) pe_int (fun _ _ => rfl)) pa_nil))) (nomark _)))))
        (pss_one (ps_ret pe_bl))
        pss_nil)
      (pss_cons (my_if (PW.pt (my_and (pt_cmpR op_eq (pe_callB my_lenQ (by rfl) T.z_len PySem.boot_len (pa_cons (pv 14) pa_nil)) pe_int (nomark _)) (pw_and1 (pt_not (my_ch3T op_lt op_le op_le pe_int (pe_ix ix_tup (pe_ix ix_list (pv 14) pe_int (fun _ _ => rfl)) pe_int (fun _ _ => rfl)) (pe_ix ix_tup (pe_ix ix_list (pv 14) pe_int (fun _ _ => rfl)) pe_int (fun _ _ => rfl)) (pv 3) still_c (still_ixT (still_ixL still_v)) (still_ixT (still_ixL still_v)) still_v)))))
        (pss_one (ps_ret pe_bl))
        pss_nil)
      (pss_cons (my_if (PW.pt (my_and (pt_cmpR op_eq (pe_callB my_lenQ (by rfl) T.z_len PySem.boot_len (pa_cons (pv 14) pa_nil)) pe_int (nomark _)) (pw_and1 (pt_cmpR (my_neD hr.units) (pe_ix ix_tup (pe_ix ix_list (pv 14) pe_int (fun _ _ => rfl)) pe_int (fun _ _ => rfl)) (pe_op op_sub (pe_dget (hu_of hr) (pv 2) (my_meth (pv 4) T.c_Player T.m_Player_tune (ok_Player_tune T) (hr.mono (by decide)) T.b_Player_tune passE (pa_cons (pe_ix ix_tup (pe_ix ix_list (pv 14) pe_int (fun _ _ => rfl)) pe_int (fun _ _ => rfl)) pa_nil)) (fun _ _ => rfl)) (pe_ix ix_tup (pe_ix ix_list (pv 14) pe_int (fun _ _ => rfl)) pe_int (fun _ _ => rfl))) (nomark _)))))
        (pss_one (ps_ret pe_bl))
        pss_nil)
      (pss_cons (my_if (PW.pt (my_or (PW.pt (my_and (pt_cmpR op_eq (pe_callB my_lenQ (by rfl) T.z_len PySem.boot_len (pa_cons (pv 14) pa_nil)) pe_int (nomark _)) (pw_and1 (pt_cmpR (my_neD hr.units) (pe_slice my_slT (pe_ix ix_list (pv 14) pe_int (fun _ _ => rfl)) (po_some pe_int) po_none) (my_tup (pa_cons pe_int (pa_cons pe_int pa_nil))) (nomark _))))) (pw_or1 (pt_cmpR op_ne (pe_ix ix_tup (my_meth0 (pv 4) T.c_Player T.m_Player_state (ok_Player_state T) (hr.mono (by decide)) T.b_Player_state passE) pe_int (fun _ _ => rfl)) (pe_cmpR (my_neD hr.units) (pv 14) (my_lst pa_nil) (nomark _)) (nomark _)))))
        (pss_one (ps_ret pe_bl))
        pss_nil)
      (pss_cons (my_if (PW.pt (my_and (pt_cmpR (my_neD hr.units) (pv 14) (my_lst pa_nil) (nomark _)) (pw_and1 (pt_cmpR (my_neD hr.units) (my_tup (pa_cons (pe_ix ix_tup (pe_ix ix_list (pv 14) (pe_un un_neg pe_int) (fun _ _ => rfl)) pe_int (fun _ _ => rfl)) (pa_cons (pe_ix ix_tup (pe_ix ix_list (pv 14) (pe_un un_neg pe_int) (fun _ _ => rfl)) pe_int (fun _ _ => rfl)) pa_nil))) (pe_slice my_slT (my_meth0 (pv 4) T.c_Player T.m_Player_state (ok_Player_state T) (hr.mono (by decide)) T.b_Player_state passE) po_none (po_some pe_int)) (nomark _)))))
        (pss_one (ps_ret pe_bl))
        pss_nil)
      (pss_cons (ps_set (i := 11) sc_law.nd rfl (by first | exact Or.inl rfl | exact Or.inr rfl) (pe_op my_cat (pv 11) (my_lc (own := [("row", 17)]) rfl sc_law.nd (pi_list (my_meth0 (pv 4) T.c_Player T.m_Player_log (ok_Player_log T) (hr.mono (by decide)) T.b_Player_log passE)) (blkOk_by (own := [("row", 17)]) (N := N_law) (sc := defScope s_law) (by decide +kernel)) (fun _ _ _ _ _ => (pg_name (i := 17) sc_law.nd rfl (by first | exact Or.inl rfl | exact Or.inr rfl))) (fun _ _ _ _ _ => (pts_one (pt_cmpR (my_notInDB (room65 hr)) (pv 17) (pv 11) (by rfl)))) (fun _ _ _ _ _ => (pv 17)))))
      (pss_one (ps_expr (my_meth (pv 4) T.c_Player T.m_Player_tick (ok_Player_tick T) (hr.mono (by decide)) T.b_Player_tick passE (pa_cons pe_int pa_nil)))))))))))))
      (pss_one (ps_ret (pe_cmpR (my_eqD hr.units) (pv 11) (pv 10) (nomark _))))))))))))))))))), ?_⟩
    walk_at "rd"
    refine st_new w fun t H1 w1 => ?_
    have w1 : W H H1 ((t, .lst (zeros 0)) :: R) := w1
    walk_at "rd"
    refine st_call (of_shelf ⟨sa, t, ns, 0, R, rfl, sc, w1.now, by decide, fun H2 lg f hf hk w2 => ?_⟩)
    have w3 : W H H2 ((t, .lst (zeros 12)) :: (lg, .dK (sfK f)) :: R) := w1.tr w2
    clear w1 w2
    walk_at "rd"
    refine draw_at w3 0 rfl (by walk_at "scr") (by omega) (by decide) fun H3 w4 o0 o1 => ?_
    replace w4 : W H H3 ((t, .lst (zeros 13)) :: (lg, .dK (sfK f)) :: R) := w4
    generalize drawP ns 12 10 = vo at *
    clear w3
    walk_at "rd"
    refine st_call (of_made ⟨lg, f, _, rfl, (w4.rot 1 1).now, hf, hk, fun H5 b w6 => ?_⟩)
    have w7 : W H H5 ((t, .lst (zeros 13)) :: (sL A b f ++ ((lg, .dK (sfK f)) :: R))) := W.perm (w4.tr w6) (by
      have e : ∀ (S : List Ent) (x y : Ent), (S ++ (x :: y :: R)).Perm (y :: (S ++ (x :: R))) := fun S x y => by walk_at "perm"
      exact e _ _ _)
    clear w6 w4
    walk_at "rd"
    refine st_make w7 fun pp dx H6 w8 => ?_
    refine of_Player_init ⟨pp, dx, .ref b.q, vo, 0, _, rfl, w8.now, fun _ H7 ap eap w9 => ?_, fun z => absurd ⟨⟨o0, by omega⟩, Int.le_refl _, by decide⟩ z⟩
    subst eap
    have w10 : W H H7 (oL A ap b (pl0 vo 0) .non [] f ((t, .lst (zeros 13)) :: (lg, .dK (sfK f)) :: R)) := W.perm (w8.tr w9) (by
      have e : ∀ (P S : List Ent) (x y : Ent), (P ++ (x :: (S ++ (y :: R)))).Perm (P ++ (S ++ (x :: y :: R))) := fun P S x y => by walk_at "perm"
      exact e _ _ _ _)
    have p0 : OP A H H7 ap b (pl0 vo 0) f ((t, .lst (zeros 13)) :: (lg, .dK (sfK f)) :: R) := ⟨_, _, w10, ⟨rfl, True.intro⟩⟩
    clear w9 w8 w7 w10
    obtain ⟨ov, rs, w, g⟩ := p0
    walk_at "rd"
    refine OP.new ⟨ov, rs, w, g⟩ fun le H8 p1 _ => ?_
    clear w g
    replace p1 := p1.perm (List.Perm.swap _ _ _)
    obtain ⟨ov, rs, w, g⟩ := p1
    walk_at "rd"
    refine OP.draw ⟨ov, rs, w, g⟩ (by walk_at "scr") (by omega) (by decide) fun H9 p2 _ r0 r1 => ?_
    clear w g
    generalize drawP ns 13 10 = rr at *
    obtain ⟨ov, rs, w, g⟩ := p2
    walk_at "rd"
    refine st_forR (fun i σ H' => ∃ (u u7 : Option V) (s : Pl) (E : List (Int × Int)) (xs : List V), σ = [some (.ref sa), some (.ref t), some (.ref lg), some (.int vo), some (.ref ap.p), some (.ref le), u, u7, none, none, none, none, none, none, none, none, none, none] ∧ Fresh vo f i s ∧ E.length = i ∧ Fill f E s ∧ RowsAt H' xs E ∧
        OP A H H' ap b s f ((t, .lst (zeros (14 + i))) :: (le, .lst xs) :: (lg, .dK (sfK f)) :: R))
      ⟨none, none, pl0 vo 0, [], [], rfl, fresh0 ⟨o0, by omega⟩ ⟨Int.le_refl _, by decide⟩, rfl, ⟨rfl, (fun _ z => nomatch z), (fun _ z => nomatch z), rfl⟩, True.intro, ⟨ov, rs, w, g⟩⟩ ?_ ?_
    · clear w g
      rintro i σ H' hi ⟨u, u7, s, E, xs, rfl, fr, hEl, fl, rE, p3⟩
      have hi10 : i < 10 := by omega
      obtain ⟨ov, rs, w, g⟩ := p3
      walk_at "rd"
      refine OP.new ⟨ov, rs, w, g⟩ fun nl H10 p4 tp4 => ?_
      clear w g
      replace p4 : OP A H H10 ap b s f ((nl, .lst (names6.map V.str)) :: (t, .lst (zeros (14 + i))) :: (le, .lst xs) :: (lg, .dK (sfK f)) :: R) := p4
      refine OP.pickV (gv := V.str) (xs := names6) (n := 14 + i) "" p4 (by walk_at "scr") (by omega) (by unfold names6; exact List.cons_ne_nil _ _) fun H11 v p5 tp5 _ hv => ?_
      clear p4
      obtain ⟨m, hm, hm1⟩ := hf v hv
      obtain ⟨ov, rs, w, g⟩ := p5
      walk_at "rd"
      rw [show (0 : Int) + (i : Int) = (E.length : Int) by rw [hEl]; omega]
      refine OP.add (p := (E.length : Int)) ⟨ov, rs, w, g⟩ fr.ok (by rw [fr.tl]; omega) (fun z => by rw [hm] at z; cases z) ⟨by omega, by rw [fr.tr, hEl]; exact Int.le_refl _, by rw [fr.tr]; omega⟩ fun H12 p6 tp6 => ?_
      clear w g
      have fl2 := fl.add fr.ok (by rw [fr.tr, hEl]) hm hm1
      have fr2 := fr.add (x := v) (p := (E.length : Int)) (hf v hv) (by omega)
      obtain ⟨ov, rs, w, g⟩ := p6
      walk_at "rd"
      refine ⟨?_, ?_⟩
      · have e1 : valV (sfK f) (Sum.inr v) = some (.int m) := by rw [sfK_val, hm]; rfl
        rw [← e1]
        exact DGet.k (k := Sum.inr v) (w.get 14 rfl)
      walk_at "rd"
      refine OP.new ⟨ov, rs, w, g⟩ fun q7 H13 p7 tp7 => ?_
      clear w g
      have hq7 : H13 q7 = some (.tup [.int ((s.o.q.tunes.length : Int) + 1), .int m]) := let ⟨_, _, w, _⟩ := p7; w.get 12 rfl
      replace p7 := p7.cut1
      obtain ⟨ov, rs, w, g⟩ := p7
      walk_at "rd"
      replace rE := (((rE.mono tp4).mono tp5).mono tp6).mono tp7
      refine OP.app (OP.perm ⟨ov, rs, w, g⟩ (List.Perm.swap _ _ _)) (by rw [rE.len, hEl]; omega) fun H14 p8 tp8 => ?_
      replace p8 := OP.perm p8 (List.Perm.swap _ _ _)
      exact ⟨_, _, _, _, _, rfl, fr2, by rw [List.length_append, hEl]; rfl, fl2, (rE.mono tp8).snoc ⟨q7, rfl, tp8 _ _ hq7⟩, p8⟩
    · clear w g
      rintro σ H' ⟨u, u7, s, E, xs, rfl, fr, hEl, fl, rE, p3⟩
      have hN : 1 ≤ (1 + rr).toNat ∧ (1 + rr).toNat ≤ 10 := by omega
      generalize (1 + rr).toNat = N at *
      have hE3 : E3 E vo := ⟨fun z => by rw [z] at hEl; simp at hEl; omega, by rw [← fl.tr]; exact fr.ok.o.q.nd, fl.bd, o0, by omega⟩
      obtain ⟨ov, rs, w, g⟩ := p3
      walk_at "rd"
      refine OP.draw ⟨ov, rs, w, g⟩ (by walk_at "scr") (by omega) (by decide) fun H10 p4 tp4 _ _ => ?_
      clear w g
      replace rE := rE.mono tp4
      generalize drawP ns (14 + N) 2 = da at *
      obtain ⟨ag, eag⟩ : ∃ ag, ag = decide (V.int da = V.int 0) := ⟨_, rfl⟩
      obtain ⟨ov, rs, w, g⟩ := p4
      walk_at "rd"
      rw [← eag]
      have frA := fr.again (if ag = true then "all" else "none" : String)
      have flA : Fill f E (againS s (if ag = true then "all" else "none" : String)) := ⟨fl.tr, fl.lg, fl.bd, fl.mx⟩
      refine xIf_selS ?_
      walk_at "rd"
      refine OP.again (x := Str.ofString (if ag = true then "all" else "none")) ⟨ov, rs, w, g⟩ (by cases ag <;> decide +kernel) fun H11 p5 tp5 => ?_
      clear w g
      replace rE := rE.mono tp5
      have hagA : (againS s (if ag = true then "all" else "none" : String)).o.again = if ag = true then "all" else "none" := rfl
      generalize againS s (if ag = true then "all" else "none" : String) = sA at *
      obtain ⟨ov, rs, w, g⟩ := p5
      walk_at "rd"
      refine OP.resume ⟨ov, rs, w, g⟩ frA.ok (frA.sz.mono (by omega)) fun H12 a12 ea12 p6 tp6 => ?_
      clear w g
      replace rE := rE.mono tp6
      rw [← ea12]
      obtain ⟨sn0, tm0⟩ := snd_start (ag := ag) hE3 frA.ok frA.nw frA.sn frA.sl frA.st frA.rw_ frA.tm frA.ov flA.tr flA.lg flA.mx hagA
      have hz0 := Sz.resume (f := f) frA.sz
      generalize resumeP f sA = s0 at *
      clear frA flA hagA fr fl
      obtain ⟨ov, rs, w, g⟩ := p6
      walk_at "rd"
      refine OP.draw ⟨ov, rs, w, g⟩ (by walk_at "scr") (by omega) (by decide) fun H13 p7 tp7 l0 l1 => ?_
      clear w g
      replace rE := rE.mono tp7
      generalize drawP ns _ 201 = la at *
      obtain ⟨ov, rs, w, g⟩ := p7
      walk_at "rd"
      have wb : W H H13 ((le, .lst xs) :: (oL A a12 b s0 ov rs f ((t, .lst (zeros (14 + N + 1 + 1))) :: (lg, .dK (sfK f)) :: R))) := w.perm (by
        have e : ∀ (P S : List Ent) (x y : Ent) (Z : List Ent), (P ++ (S ++ (x :: y :: Z))).Perm (y :: (P ++ (S ++ (x :: Z)))) := fun P S x y Z => by walk_at "perm"
        exact e _ _ _ _ _)
      refine st_call (of_begins ⟨le, xs, E, vo, ag, la, _, rfl, wb.now, rE, hE3, l0, by omega, fun H14 ld ys md w14 rD cD => ?_⟩)
      have p8 : OP A H H14 a12 b s0 f ((t, .lst (zeros (14 + N + 1 + 1))) :: (ld, .lst ys) :: (le, .lst xs) :: (lg, .dK (sfK f)) :: R) := ⟨ov, rs, (wb.tr w14).perm (by
        have e : ∀ (P S : List Ent) (x y z : Ent) (Z : List Ent), (x :: y :: (P ++ (S ++ (z :: Z)))).Perm (P ++ (S ++ (z :: x :: y :: Z))) := fun P S x y z Z => by walk_at "perm"
        exact e _ _ _ _ _ _), g.mono w14.tp⟩
      replace rE := rE.mono w14.tp
      clear w g wb w14
      have hmd : md ≤ 201 := by
        rcases Nat.eq_zero_or_pos md with z | z
        · omega
        · have h1 := (cD.lo (md - 1) (by omega)).1
          have h2 := hE3.ge (ag := ag) (md - 1)
          omega
      have hyl : ys.length = md := by rw [rD.len, List.length_map, List.length_range]
      obtain ⟨ov, rs, w, g⟩ := p8
      walk_at "rd"
      refine OP.new ⟨ov, rs, w, g⟩ fun ls0 H15 p9 tp9 => ?_
      clear w g
      replace rE := rE.mono tp9
      replace rD := rD.mono tp9
      obtain ⟨ov, rs, w, g⟩ := p9
      walk_at "rd"
      refine st_dictP w.now 15 rfl rE fun lo H16 w16 => ?_
      have p10 := OP.front w g w16
      replace rE := rE.mono w16.tp
      replace rD := rD.mono w16.tp
      clear w g w16
      obtain ⟨ov, rs, w, g⟩ := p10
      walk_at "rd"
      have hrow : ∀ i, i < md → ((List.range md).map (row3 E vo ag))[i]? = some (row3 E vo ag i) := fun i hi => by
        rw [List.getElem?_map, List.getElem?_range hi]
        rfl
      have hK : ∀ i, valV (mergeK [] (E.map fun r => ((Sum.inl r.1 : Key), V.int r.2))) (Sum.inl (ent3 E i)) = some (.int (len3 E i)) := fun i => merge_val E [] hE3.nd (hE3.mem i).2
      refine st_lcMk (ovr3 E vo ag) w.now (by omega) ?_ ?_
      · intro D i P H17 xs17 hi w17 tp17 kt
        have hi2 : i + 1 < md := by omega
        obtain ⟨q1, g1, hq1⟩ := (rD.mono tp17).at (hrow i (by omega))
        obtain ⟨q2, g2, hq2⟩ := (rD.mono tp17).at (hrow (i + 1) hi2)
        replace hq1 : H17 q1 = some (.tup [.int (at3 E vo ag i), .int (ent3 E i)]) := hq1
        replace hq2 : H17 q2 = some (.tup [.int (at3 E vo ag (i + 1)), .int (ent3 E (i + 1))]) := hq2
        have a1 : atI ys (0 + (i : Int)) = some (.ref q1) := at_of (j := i) (by omega) g1
        have a2 : atI ys (0 + (i : Int) + 1) = some (.ref q2) := at_of (j := i + 1) (by omega) g2
        walk_at "rd"
        refine xIf_T rfl ?_
        walk_at "rd"
        refine ⟨?_, ?_⟩
        · rw [← hK i]
          exact DGet.k (k := Sum.inl (ent3 E i)) (w17.get 13 rfl)
        walk_at "rd"
        exact kt
      intro lv H17 vv w17 rV tp17
      have p11 := OP.front w g w17
      replace rE := rE.mono tp17
      replace rD := rD.mono tp17
      clear w g w17
      rw [show ((ys.length : Int) - 1).toNat = md - 1 by omega] at rV
      have p12 : OP A H H17 a12 b s0 f ((ls0, .lst []) :: (lv, .lst vv) :: (ld, .lst ys) :: (lg, .dK (sfK f)) :: R) := OP.cut1 (OP.cut1 (OP.cut1 (p11.perm (by
        have e : ∀ (x1 x2 x3 x4 x5 x6 : Ent) (Z : List Ent), (x1 :: x2 :: x3 :: x4 :: x5 :: x6 :: Z).Perm (x2 :: x4 :: x6 :: x3 :: x1 :: x5 :: Z) := fun x1 x2 x3 x4 x5 x6 Z => by walk_at "perm"
        exact e _ _ _ _ _ _ _))))
      clear p11 rE hrow hK
      obtain ⟨ov, rs, w, g⟩ := p12
      walk_at "rd"
      refine st_forR (fun i σ H' => ∃ (u6 u14 u15 u16 u17 : Option V) (s : Pl) (a' : PA) (m m' : Nat) (sl : Addr) (zs : List V), σ = [some (.ref sa), some (.ref t), some (.ref lg), some (.int vo), some (.ref a12.p), some (.ref le), u6, u7, some (.bl ag), some (.int la), some (.ref ld), some (.ref sl), some (.ref lo), some (.ref lv), u14, u15, u16, u17] ∧
          a'.p = a12.p ∧ Sn3 f E vo ag s (i : Int) m ∧ (i = 0 ∨ Cnt E vo ag ((i : Int) - 1) m') ∧ m' ≤ m ∧ Sz s (1 + i) ∧ RowsAt H' zs ((List.range m').map (row3 E vo ag)) ∧ RowsAt H' ys ((List.range md).map (row3 E vo ag)) ∧ RowsAt H' vv ((List.range (md - 1)).map (ovr3 E vo ag)) ∧
          OP A H H' a' b s f ((sl, .lst zs) :: (lv, .lst vv) :: (ld, .lst ys) :: (lg, .dK (sfK f)) :: R))
        ⟨_, _, _, _, _, s0, a12, 1, 0, ls0, [], rfl, rfl, .inl ⟨0, rfl, sn0, tm0⟩, .inl rfl, Nat.zero_le _, hz0, True.intro, rD, rV, ⟨ov, rs, w, g⟩⟩ ?_ ?_
      · clear w g sn0 tm0 hz0 rD rV
        rintro i σ H' hi ⟨u6, u14, u15, u16, u17, s, a', m, m', sl, zs, rfl, ea', s3, hc, hmm, hz, rZ, rD, rV, p13⟩
        have hila : (i : Int) ≤ la := by omega
        have cM := s3.cnt hE3
        obtain ⟨hmn, hfar⟩ := cM.le hE3 cD hila
        have hany := hE3.any cM hmn hfar
        have okS := s3.ok
        rw [← ea', Int.zero_add]
        obtain ⟨ov, rs, w, g⟩ := p13
        walk_at "rd"
        refine OP.sounds ⟨ov, rs, w, g⟩ okS fun H18 l18 xs18 p14 r18 tp18 => ?_
        clear w g
        replace rZ := rZ.mono tp18
        replace rD := rD.mono tp18
        replace rV := rV.mono tp18
        obtain ⟨ov, rs, w, g⟩ := p14
        walk_at "rd"
        refine st_lcBl (fun p => decide (p.1 ≤ (i : Int)) && decide ((i : Int) < p.2)) w.now 14 rfl rV (by rw [List.length_map, List.length_range]; omega) ?_ ?_
        · intro D q y P H19 xs19 w19 hq kt
          walk_at "rd"
          refine xIf_T rfl ?_
          walk_at "rd"
          exact kt
        intro D H19 w19 tp19
        have p15 := OP.front w g w19
        clear w g w19
        replace rZ := rZ.mono tp19
        replace rD := rD.mono tp19
        replace rV := rV.mono tp19
        replace r18 := r18.mono tp19
        obtain ⟨ov, rs, w, g⟩ := p15
        walk_at "rd"
        have hb : ((((List.range (md - 1)).map (ovr3 E vo ag)).map fun p => decide (p.1 ≤ (i : Int)) && decide ((i : Int) < p.2)).any id) = decide (1 < m ∧ (i : Int) < at3 E vo ag (m - 2) + len3 E (m - 2)) := by rw [List.any_map]; exact hany
        rw [hb]
        have hm201 : m ≤ 201 := by omega
        clear hb hany hfar hmn
        have hcs := s3.snd hE3
        by_cases hcond : 1 < m ∧ (i : Int) < at3 E vo ag (m - 2) + len3 E (m - 2)
        case' pos =>
          obtain ⟨e, p, l, ww, n, hso, hl0, hlw, hwo, hle, hhe, hnw, hpl, _⟩ : ∃ e p l w n, soundsP f s = [(e, p, l, w), (n, s.spot, w - l, w)] ∧ 0 < l ∧ l ≤ w ∧ w ≤ vo ∧ l = longO f s.o e - p ∧ s.o.has e ∧ s.now = some n ∧ s.plays = true ∧ (1 < m ∧ (i : Int) < at3 E vo ag (m - 2) + len3 E (m - 2)) := by
            rcases hcs with h | ⟨_, _, _, _, h⟩ | ⟨_, _, _, h⟩
            · exact h
            · exact absurd hcond h
            · exact absurd hcond h
          rw [hso] at r18
          obtain ⟨q1, q2, rfl, hq1, hq2⟩ : ∃ q1 q2, xs18 = [V.ref q1, V.ref q2] ∧ H19 q1 = some (.tup [.int e, .int p, .int l, .int ww]) ∧ H19 q2 = some (.tup [.int n, .int s.spot, .int (ww - l), .int ww]) := by
            match xs18, r18 with
            | [_, _], ⟨⟨q1, e1, h1⟩, ⟨q2, e2, h2⟩, _⟩ => exact ⟨q1, q2, by rw [e1, e2], h1, h2⟩
            | _ :: _ :: _ :: _, h => exact h.2.2.elim
          refine xIf_F (by rw [decide_eq_true hcond, decide_eq_true (p := V.int ((([V.ref q1, V.ref q2] : List V).length : Nat) : Int) = V.int 2) rfl]; rfl) ?_
          have p16 := OP.cut1 ⟨ov, rs, w, g⟩
          clear w g
          obtain ⟨ov, rs, w, g⟩ := p16
          walk_at "rd"
          refine xIf_T (decide_eq_true rfl) ?_
          walk_at "rd"
          refine OP.new ⟨ov, rs, w, g⟩ fun t20 H20 p17 tp20 => ?_
          clear w g
          replace hq1 := tp20 _ _ hq1
          replace hq2 := tp20 _ _ hq2
          obtain ⟨ov, rs, w, g⟩ := p17
          walk_at "rd"
          refine OP.new ⟨ov, rs, w, g⟩ fun t21 H21 p18 tp21 => ?_
          clear w g
          replace hq1 := tp21 _ _ hq1
          replace hq2 := tp21 _ _ hq2
          obtain ⟨ov, rs, w, g⟩ := p18
          refine st_neS (d := .tuple [.int ww, .int ww]) (.tup (SqT.of (w.get 13 rfl)) (.cons (by show Dp _ _ (.int (l + (ww - l))) _; rw [show l + (ww - l) = ww by omega]; exact .int _) (.cons (.int _) .nil))) (.tup (SqT.of (w.get 12 rfl)) (.cons (.int _) (.cons (.int _) .nil))) (sh_tup (k := 63) (sh_cons (sh_int _) (sh_cons (sh_int _) sh_nil))) ?_
          have p19 := OP.cut1 (OP.cut1 ⟨ov, rs, w, g⟩)
          clear w g
          walk_at "rd"
          refine xIf_F rfl ?_
          obtain ⟨ov, rs, w, g⟩ := p19
          walk_at "rd"
          refine xIf_T (decide_eq_true rfl) ?_
          walk_at "rd"
          refine xIf_F (by show (!(decide (0 < l) && (decide (l ≤ ww) && decide (ww ≤ vo)))) = false; rw [decide_eq_true hl0, decide_eq_true hlw, decide_eq_true hwo]; rfl) ?_
          walk_at "rd"
          refine xIf_T (decide_eq_true rfl) ?_
          walk_at "rd"
          refine OP.tune ⟨ov, rs, w, g⟩ hhe ?_
          have kn := okS.tn.kn hhe
          walk_at "rd"
          refine ⟨?_, ?_⟩
          · have e1 : valV (sfK f) (Sum.inr (s.o.q.tune e)) = some (.int (longO f s.o e)) := by rw [sfK_val, kn.lk]; rfl
            rw [← e1]
            exact DGet.k (k := Sum.inr (s.o.q.tune e)) (w.get 16 rfl)
          walk_at "rd"
          refine st_neS (d := .int l) (.int _) (by show Dp _ _ (.int (longO f s.o e - p)) _; rw [← hle]; exact .int _) (sh_int _) ?_
          walk_at "rd"
          refine xIf_F rfl ?_
          walk_at "rd"
          refine xIf_F (decide_eq_false (by intro z; have := V.int.inj z; simp at this)) ?_
          refine xIf_F rfl ?_
          walk_at "rd"
          refine OP.state ⟨ov, rs, w, g⟩ fun H22 t22 p20 tp22 ht22 => ?_
          clear w g
          rw [hpl] at ht22
          obtain ⟨ov, rs, w, g⟩ := p20
          walk_at "rd"
          refine OP.new ⟨ov, rs, w, g⟩ fun l23 H23 p21 tp23 => ?_
          clear w g ht22
          replace hq1 := tp23 _ _ (tp22 _ _ hq1)
          replace hq2 := tp23 _ _ (tp22 _ _ hq2)
          obtain ⟨ov, rs, w, g⟩ := p21
          have dS : Dp K H23 (.ref l18) (.list ([(e, p, l, ww), (n, s.spot, ww - l, ww)].map snD)) := .lst (SqL.of (w.get 13 rfl)) (dpAll_sns ⟨⟨q1, rfl, hq1⟩, ⟨q2, rfl, hq2⟩, True.intro⟩)
          refine st_neD (e := .list []) dS (.lst (SqL.of (w.get 12 rfl)) .nil) (sh_sns (k := 62) _) (sh_list (k := 63) sh_nil) ?_
          walk_at "rd"
          refine xIf_F (by simp [PyData.eqv, PyData.eqvAll]) ?_
          have p22 := OP.cut1 ⟨ov, rs, w, g⟩
          clear w g dS
          obtain ⟨ov, rs, w, g⟩ := p22
          walk_at "rd"
          refine OP.new ⟨ov, rs, w, g⟩ fun l24 H24 p23 tp24 => ?_
          clear w g
          replace hq1 := tp24 _ _ hq1
          replace hq2 := tp24 _ _ hq2
          obtain ⟨ov, rs, w, g⟩ := p23
          have dS : Dp K H24 (.ref l18) (.list ([(e, p, l, ww), (n, s.spot, ww - l, ww)].map snD)) := .lst (SqL.of (w.get 13 rfl)) (dpAll_sns ⟨⟨q1, rfl, hq1⟩, ⟨q2, rfl, hq2⟩, True.intro⟩)
          refine st_neD (e := .list []) dS (.lst (SqL.of (w.get 12 rfl)) .nil) (sh_sns (k := 62) _) (sh_list (k := 63) sh_nil) ?_
          walk_at "rd"
          refine xIf_T (by simp [PyData.eqv, PyData.eqvAll]) ?_
          have p24 := OP.cut1 ⟨ov, rs, w, g⟩
          clear w g dS
          obtain ⟨ov, rs, w, g⟩ := p24
          walk_at "rd"
          refine OP.new ⟨ov, rs, w, g⟩ fun t25 H25 p25 tp25 => ?_
          clear w g
          obtain ⟨ov, rs, w, g⟩ := p25
          walk_at "rd"
          refine OP.state ⟨ov, rs, w, g⟩ fun H26 t26 p26 tp26 ht26 => ?_
          clear w g
          rw [hnw] at ht26
          obtain ⟨ov, rs, w, g⟩ := p26
          walk_at "rd"
          refine ⟨by unfold HT.sIx; simp, ?_⟩
          refine OP.new ⟨ov, rs, w, g⟩ fun t27 HT p27 tp27 => ?_
          clear w g
          replace p27 : OP A H HT a' b s f ((t27, .tup [.int n, .int s.spot]) :: (t25, .tup [.int n, .int s.spot]) :: (l18, .lst [V.ref q1, V.ref q2]) :: (sl, .lst zs) :: (lv, .lst vv) :: (ld, .lst ys) :: (lg, .dK (sfK f)) :: R) := p27
          obtain ⟨ov, rs, w, g⟩ := p27
          refine st_neS (d := .tuple [.int n, .int s.spot]) (.tup (SqT.of (w.get 13 rfl)) (.cons (.int _) (.cons (.int _) .nil))) (.tup (SqT.of (w.get 12 rfl)) (.cons (.int _) (.cons (.int _) .nil))) (sh_tup (k := 63) (sh_cons (sh_int _) (sh_cons (sh_int _) sh_nil))) ?_
          walk_at "rd"
          refine xIf_F rfl ?_
          have pT := OP.cut1 (OP.cut1 (OP.cut1 ⟨ov, rs, w, g⟩))
          clear w g ht26
          have tpT : Tps H19 HT := fun _ _ h => tp27 _ _ (tp26 _ _ (tp25 _ _ (tp24 _ _ (tp23 _ _ (tp22 _ _ (tp21 _ _ (tp20 _ _ h)))))))
        case' neg =>
          by_cases hnow : s.now = none
          case' pos =>
            obtain ⟨hso, _, hpl, _⟩ : soundsP f s = [] ∧ s.now = none ∧ s.plays = false ∧ ¬ (1 < m ∧ (i : Int) < at3 E vo ag (m - 2) + len3 E (m - 2)) := by
              rcases hcs with ⟨_, _, _, _, _, _, _, _, _, _, _, _, _, h⟩ | ⟨n, _, h, _⟩ | h
              · exact absurd h hcond
              · rw [hnow] at h; cases h
              · exact h
            rw [hso] at r18
            obtain rfl : xs18 = [] := by
              match xs18, r18 with
              | [], _ => rfl
              | _ :: _, h => exact h.elim
            have hl2 : decide (V.int ((([] : List V).length : Nat) : Int) = V.int 2) = false := decide_eq_false (by intro z; have := V.int.inj z; simp at this)
            have hl1 : decide (V.int ((([] : List V).length : Nat) : Int) = V.int 1) = false := decide_eq_false (by intro z; have := V.int.inj z; simp at this)
            refine xIf_F (by rw [decide_eq_false hcond, hl2]; rfl) ?_
            have p16 := OP.cut1 ⟨ov, rs, w, g⟩
            clear w g
            obtain ⟨ov, rs, w, g⟩ := p16
            walk_at "rd"
            refine xIf_F hl2 ?_
            refine xIf_F rfl ?_
            walk_at "rd"
            refine xIf_F hl2 ?_
            refine xIf_F rfl ?_
            walk_at "rd"
            refine xIf_F hl2 ?_
            refine xIf_F rfl ?_
            walk_at "rd"
            refine xIf_F hl1 ?_
            refine xIf_F rfl ?_
            walk_at "rd"
            refine OP.state ⟨ov, rs, w, g⟩ fun H22 t22 p20 tp22 ht22 => ?_
            clear w g
            rw [hpl] at ht22
            obtain ⟨ov, rs, w, g⟩ := p20
            walk_at "rd"
            refine OP.new ⟨ov, rs, w, g⟩ fun l23 H23 p21 tp23 => ?_
            clear w g ht22
            obtain ⟨ov, rs, w, g⟩ := p21
            refine st_neS (d := .list []) (.lst (SqL.of (w.get 13 rfl)) .nil) (.lst (SqL.of (w.get 12 rfl)) .nil) (sh_list (k := 63) sh_nil) ?_
            walk_at "rd"
            refine xIf_F rfl ?_
            have p22 := OP.cut1 ⟨ov, rs, w, g⟩
            clear w g
            obtain ⟨ov, rs, w, g⟩ := p22
            walk_at "rd"
            refine OP.new ⟨ov, rs, w, g⟩ fun l24 HT p23 tp24 => ?_
            clear w g
            obtain ⟨ov, rs, w, g⟩ := p23
            refine st_neS (d := .list []) (.lst (SqL.of (w.get 13 rfl)) .nil) (.lst (SqL.of (w.get 12 rfl)) .nil) (sh_list (k := 63) sh_nil) ?_
            walk_at "rd"
            refine xIf_F rfl ?_
            refine xIf_F rfl ?_
            have pT := OP.cut1 (OP.cut1 ⟨ov, rs, w, g⟩)
            clear w g
            have tpT : Tps H19 HT := fun _ _ h => tp24 _ _ (tp23 _ _ (tp22 _ _ h))
          case' neg =>
            obtain ⟨n, hso, hnw, hpl, _⟩ : ∃ n, soundsP f s = [(n, s.spot, 1, 1)] ∧ s.now = some n ∧ s.plays = true ∧ ¬ (1 < m ∧ (i : Int) < at3 E vo ag (m - 2) + len3 E (m - 2)) := by
              rcases hcs with ⟨_, _, _, _, _, _, _, _, _, _, _, _, _, h⟩ | h | ⟨_, h, _⟩
              · exact absurd h hcond
              · exact h
              · exact absurd h hnow
            rw [hso] at r18
            obtain ⟨q1, rfl, hq1⟩ : ∃ q1, xs18 = [V.ref q1] ∧ H19 q1 = some (.tup [.int n, .int s.spot, .int 1, .int 1]) := by
              match xs18, r18 with
              | [_], ⟨⟨q1, e1, h1⟩, _⟩ => exact ⟨q1, by rw [e1], h1⟩
              | _ :: _ :: _, h => exact h.2.elim
            have hl2 : decide (V.int ((([V.ref q1] : List V).length : Nat) : Int) = V.int 2) = false := decide_eq_false (by intro z; have := V.int.inj z; simp at this)
            refine xIf_F (by rw [decide_eq_false hcond, hl2]; rfl) ?_
            have p16 := OP.cut1 ⟨ov, rs, w, g⟩
            clear w g
            obtain ⟨ov, rs, w, g⟩ := p16
            walk_at "rd"
            refine xIf_F hl2 ?_
            refine xIf_F rfl ?_
            walk_at "rd"
            refine xIf_F hl2 ?_
            refine xIf_F rfl ?_
            walk_at "rd"
            refine xIf_F hl2 ?_
            refine xIf_F rfl ?_
            walk_at "rd"
            refine xIf_T (decide_eq_true rfl) ?_
            walk_at "rd"
            refine ⟨by unfold HT.sIx; simp, ?_⟩
            refine OP.new ⟨ov, rs, w, g⟩ fun t20 H20 p17 tp20 => ?_
            clear w g
            replace hq1 := tp20 _ _ hq1
            replace p17 : OP A H H20 a' b s f ((t20, .tup [.int 1, .int 1]) :: (l18, .lst [V.ref q1]) :: (sl, .lst zs) :: (lv, .lst vv) :: (ld, .lst ys) :: (lg, .dK (sfK f)) :: R) := p17
            obtain ⟨ov, rs, w, g⟩ := p17
            walk_at "rd"
            refine OP.new ⟨ov, rs, w, g⟩ fun t21 H21 p18 tp21 => ?_
            clear w g
            replace hq1 := tp21 _ _ hq1
            obtain ⟨ov, rs, w, g⟩ := p18
            refine st_neS (d := .tuple [.int 1, .int 1]) (.tup (SqT.of (w.get 13 rfl)) (.cons (.int _) (.cons (.int _) .nil))) (.tup (SqT.of (w.get 12 rfl)) (.cons (.int _) (.cons (.int _) .nil))) (sh_tup (k := 63) (sh_cons (sh_int _) (sh_cons (sh_int _) sh_nil))) ?_
            have p19 := OP.cut1 (OP.cut1 ⟨ov, rs, w, g⟩)
            clear w g
            walk_at "rd"
            refine xIf_F rfl ?_
            obtain ⟨ov, rs, w, g⟩ := p19
            walk_at "rd"
            refine OP.state ⟨ov, rs, w, g⟩ fun H22 t22 p20 tp22 ht22 => ?_
            clear w g
            rw [hpl] at ht22
            obtain ⟨ov, rs, w, g⟩ := p20
            walk_at "rd"
            refine OP.new ⟨ov, rs, w, g⟩ fun l23 H23 p21 tp23 => ?_
            clear w g ht22
            replace hq1 := tp23 _ _ (tp22 _ _ hq1)
            obtain ⟨ov, rs, w, g⟩ := p21
            have dS : Dp K H23 (.ref l18) (.list ([(n, s.spot, 1, 1)].map snD)) := .lst (SqL.of (w.get 13 rfl)) (dpAll_sns ⟨⟨q1, rfl, hq1⟩, True.intro⟩)
            refine st_neD (e := .list []) dS (.lst (SqL.of (w.get 12 rfl)) .nil) (sh_sns (k := 62) _) (sh_list (k := 63) sh_nil) ?_
            walk_at "rd"
            refine xIf_F (by simp [PyData.eqv, PyData.eqvAll]) ?_
            have p22 := OP.cut1 ⟨ov, rs, w, g⟩
            clear w g dS
            obtain ⟨ov, rs, w, g⟩ := p22
            walk_at "rd"
            refine OP.new ⟨ov, rs, w, g⟩ fun l24 H24 p23 tp24 => ?_
            clear w g
            replace hq1 := tp24 _ _ hq1
            obtain ⟨ov, rs, w, g⟩ := p23
            have dS : Dp K H24 (.ref l18) (.list ([(n, s.spot, 1, 1)].map snD)) := .lst (SqL.of (w.get 13 rfl)) (dpAll_sns ⟨⟨q1, rfl, hq1⟩, True.intro⟩)
            refine st_neD (e := .list []) dS (.lst (SqL.of (w.get 12 rfl)) .nil) (sh_sns (k := 62) _) (sh_list (k := 63) sh_nil) ?_
            walk_at "rd"
            refine xIf_T (by simp [PyData.eqv, PyData.eqvAll]) ?_
            have p24 := OP.cut1 ⟨ov, rs, w, g⟩
            clear w g dS
            obtain ⟨ov, rs, w, g⟩ := p24
            walk_at "rd"
            refine OP.new ⟨ov, rs, w, g⟩ fun t25 H25 p25 tp25 => ?_
            clear w g
            obtain ⟨ov, rs, w, g⟩ := p25
            walk_at "rd"
            refine OP.state ⟨ov, rs, w, g⟩ fun H26 t26 p26 tp26 ht26 => ?_
            clear w g
            rw [hnw] at ht26
            obtain ⟨ov, rs, w, g⟩ := p26
            walk_at "rd"
            refine ⟨by unfold HT.sIx; simp, ?_⟩
            refine OP.new ⟨ov, rs, w, g⟩ fun t27 HT p27 tp27 => ?_
            clear w g
            replace p27 : OP A H HT a' b s f ((t27, .tup [.int n, .int s.spot]) :: (t25, .tup [.int n, .int s.spot]) :: (l18, .lst [V.ref q1]) :: (sl, .lst zs) :: (lv, .lst vv) :: (ld, .lst ys) :: (lg, .dK (sfK f)) :: R) := p27
            obtain ⟨ov, rs, w, g⟩ := p27
            refine st_neS (d := .tuple [.int n, .int s.spot]) (.tup (SqT.of (w.get 13 rfl)) (.cons (.int _) (.cons (.int _) .nil))) (.tup (SqT.of (w.get 12 rfl)) (.cons (.int _) (.cons (.int _) .nil))) (sh_tup (k := 63) (sh_cons (sh_int _) (sh_cons (sh_int _) sh_nil))) ?_
            walk_at "rd"
            refine xIf_F rfl ?_
            have pT := OP.cut1 (OP.cut1 (OP.cut1 ⟨ov, rs, w, g⟩))
            clear w g ht26
            have tpT : Tps H19 HT := fun _ _ h => tp27 _ _ (tp26 _ _ (tp25 _ _ (tp24 _ _ (tp23 _ _ (tp22 _ _ (tp21 _ _ (tp20 _ _ h)))))))
        all_goals
          replace rZ := rZ.mono tpT
          replace rD := rD.mono tpT
          replace rV := rV.mono tpT
          obtain ⟨ov, rs, w, g⟩ := pT
          walk_at "rd"
          refine OP.log ⟨ov, rs, w, g⟩ fun H30 l30 rs30 p30 r30 tp30 => ?_
          clear w g
          rw [s3.rw_] at r30
          replace rZ := rZ.mono tp30
          replace rD := rD.mono tp30
          replace rV := rV.mono tp30
          obtain ⟨ov, rs, w, g⟩ := p30
          walk_at "rd"
          refine st_lcKeep (fun x => !decide (x ∈ (List.range m').map (row3 E vo ag))) w.now 12 rfl r30 (by rw [List.length_map, List.length_range]; omega) ?_ ?_
          · intro D q y P H31 xs31 w31 tp31 hq kt kf
            walk_at "rd"
            refine st_notInD (d := rowD y) (ds := ((List.range m').map (row3 E vo ag)).map rowD) (.tup (SqT.of hq) (.cons (.int _) (.cons (.int _) .nil))) (.lst (SqL.of (w31.get 14 rfl)) (dpAll_rows (rZ.mono tp31))) (sh_rowD (k := 63) _) (sh_rows (k := 62) _) ?_
            rw [any_row]
            walk_at "rd"
            refine xIf_2 (fun h => ?_) (fun h => kf h)
            walk_at "rd"
            exact kt h
          intro D H31 xs31 w31 r31 tp31
          have p31 := OP.front w g w31
          clear w g w31
          replace rZ := rZ.mono tp31
          replace rD := rD.mono tp31
          replace rV := rV.mono tp31
          have rN := rZ.app r31
          rw [seen_new (row3 E vo ag) hE3.inj m' m hmm] at rN
          clear r31 rZ
          obtain ⟨ov, rs, w, g⟩ := p31
          have hzl := rN.len
          rw [List.length_map, List.length_range, List.length_append] at hzl
          walk_at "rd"
          refine ⟨szE (by omega), ?_⟩
          refine OP.new ⟨ov, rs, w, g⟩ fun l32 H32 p32 tp32 => ?_
          clear w g
          replace rN := rN.mono tp32
          replace rD := rD.mono tp32
          replace rV := rV.mono tp32
          replace p32 := OP.cut1 (OP.cut1 (OP.cut1 (p32.perm (by
            have e : ∀ (x1 x2 x3 x4 : Ent) (Z : List Ent), (x1 :: x2 :: x3 :: x4 :: Z).Perm (x2 :: x3 :: x4 :: x1 :: Z) := fun x1 x2 x3 x4 Z => by walk_at "perm"
            exact e _ _ _ _ _))))
          obtain ⟨ov, rs, w, g⟩ := p32
          walk_at "rd"
          refine OP.tick (m := 1) ⟨ov, rs, w, g⟩ okS hz (by omega) ⟨by decide, by decide⟩ fun H33 a33 ea33 p33 tp33 => ?_
          obtain ⟨m2, hm2, s32⟩ := s3.tick hE3
          exact ⟨_, _, _, _, _, _, a33, m2, m, l32, _, rfl, ea33, s32, .inr (by rw [show (((i + 1 : Nat) : Int)) - 1 = (i : Int) by omega]; exact cM), hm2, Sz.tick (f := f) 1 hz, rN.mono tp33, rD.mono tp33, rV.mono tp33, p33⟩
      · clear w g sn0 tm0 hz0 rD rV
        rintro σ H' ⟨u6, u14, u15, u16, u17, s, a', m, m', sl, zs, rfl, ea', s3, hc, hmm, hz, rZ, rD, rV, p13⟩
        have hcm : Cnt E vo ag la m' := by
          rcases hc with z | z
          · omega
          · rw [show (((la + 1).toNat : Nat) : Int) - 1 = la by omega] at z
            exact z
        have emd := hcm.eq cD
        subst emd
        obtain ⟨ov, rs, w, g⟩ := p13
        walk_at "rd"
        refine st_eqS (d := .list (((List.range m').map (row3 E vo ag)).map rowD)) (.lst (SqL.of (w.get 12 rfl)) (dpAll_rows rZ)) (.lst (SqL.of (w.get 14 rfl)) (dpAll_rows rD)) (sh_rows (k := 62) _) ?_
        exact k _
end
end TR
namespace TR
open PySem PySem.Spec PyProof.Rows L2
def dd_wall : He.DefD := ⟨("_wall", none), "_wall", "_wall", defArgs s_wall, defBody s_wall, defScope s_wall, [], []⟩
def dd_Dice_init__ : He.DefD := ⟨("Dice", some "__init__"), "__init__", "Dice.__init__", defArgs s_Dice_init__, defBody s_Dice_init__, defScope s_Dice_init__, [], []⟩
def dd_Dice_below : He.DefD := ⟨("Dice", some "below"), "below", "Dice.below", defArgs s_Dice_below, defBody s_Dice_below, defScope s_Dice_below, [], []⟩
def dd_Dice_twin : He.DefD := ⟨("Dice", some "twin"), "twin", "Dice.twin", defArgs s_Dice_twin, defBody s_Dice_twin, defScope s_Dice_twin, [], []⟩
def dd_mixed : He.DefD := ⟨("mixed", none), "mixed", "mixed", defArgs s_mixed, defBody s_mixed, defScope s_mixed, [], []⟩
def dd_Queue_init__ : He.DefD := ⟨("Queue", some "__init__"), "__init__", "Queue.__init__", defArgs s_Queue_init__, defBody s_Queue_init__, defScope s_Queue_init__, [], []⟩
def dd_Queue_entries : He.DefD := ⟨("Queue", some "entries"), "entries", "Queue.entries", defArgs s_Queue_entries, defBody s_Queue_entries, defScope s_Queue_entries, [], []⟩
def dd_Queue_need : He.DefD := ⟨("Queue", some "need"), "need", "Queue.need", defArgs s_Queue_need, defBody s_Queue_need, defScope s_Queue_need, [], []⟩
def dd_Queue_tune : He.DefD := ⟨("Queue", some "tune"), "tune", "Queue.tune", defArgs s_Queue_tune, defBody s_Queue_tune, defScope s_Queue_tune, [], []⟩
def dd_Queue_put : He.DefD := ⟨("Queue", some "put"), "put", "Queue.put", defArgs s_Queue_put, defBody s_Queue_put, defScope s_Queue_put, [], []⟩
def dd_Queue_remove : He.DefD := ⟨("Queue", some "remove"), "remove", "Queue.remove", defArgs s_Queue_remove, defBody s_Queue_remove, defScope s_Queue_remove, [], []⟩
def dd_Queue_move : He.DefD := ⟨("Queue", some "move"), "move", "Queue.move", defArgs s_Queue_move, defBody s_Queue_move, defScope s_Queue_move, [], []⟩
def dd_Queue_place : He.DefD := ⟨("Queue", some "place"), "place", "Queue.place", defArgs s_Queue_place, defBody s_Queue_place, defScope s_Queue_place, [], []⟩
def dd_Queue_twin : He.DefD := ⟨("Queue", some "twin"), "twin", "Queue.twin", defArgs s_Queue_twin, defBody s_Queue_twin, defScope s_Queue_twin, [], []⟩
def dd_Order_init__ : He.DefD := ⟨("Order", some "__init__"), "__init__", "Order.__init__", defArgs s_Order_init__, defBody s_Order_init__, defScope s_Order_init__, [], []⟩
def dd_Order_set_again : He.DefD := ⟨("Order", some "set_again"), "set_again", "Order.set_again", defArgs s_Order_set_again, defBody s_Order_set_again, defScope s_Order_set_again, [], []⟩
def dd_Order_set_mixed : He.DefD := ⟨("Order", some "set_mixed"), "set_mixed", "Order.set_mixed", defArgs s_Order_set_mixed, defBody s_Order_set_mixed, defScope s_Order_set_mixed, [], []⟩
def dd_Order_put : He.DefD := ⟨("Order", some "put"), "put", "Order.put", defArgs s_Order_put, defBody s_Order_put, defScope s_Order_put, [], []⟩
def dd_Order_remove : He.DefD := ⟨("Order", some "remove"), "remove", "Order.remove", defArgs s_Order_remove, defBody s_Order_remove, defScope s_Order_remove, [], []⟩
def dd_Order_next_plain : He.DefD := ⟨("Order", some "next_plain"), "next_plain", "Order.next_plain", defArgs s_Order_next_plain, defBody s_Order_next_plain, defScope s_Order_next_plain, [], []⟩
def dd_Order_next_mixed : He.DefD := ⟨("Order", some "next_mixed"), "next_mixed", "Order.next_mixed", defArgs s_Order_next_mixed, defBody s_Order_next_mixed, defScope s_Order_next_mixed, [], []⟩
def dd_Order_after : He.DefD := ⟨("Order", some "after"), "after", "Order.after", defArgs s_Order_after, defBody s_Order_after, defScope s_Order_after, [], []⟩
def dd_Order_skip : He.DefD := ⟨("Order", some "skip"), "skip", "Order.skip", defArgs s_Order_skip, defBody s_Order_skip, defScope s_Order_skip, [], []⟩
def dd_Order_first : He.DefD := ⟨("Order", some "first"), "first", "Order.first", defArgs s_Order_first, defBody s_Order_first, defScope s_Order_first, [], []⟩
def dd_Order_began : He.DefD := ⟨("Order", some "began"), "began", "Order.began", defArgs s_Order_began, defBody s_Order_began, defScope s_Order_began, [], []⟩
def dd_Order_twin : He.DefD := ⟨("Order", some "twin"), "twin", "Order.twin", defArgs s_Order_twin, defBody s_Order_twin, defScope s_Order_twin, [], []⟩
def dd_Player_init__ : He.DefD := ⟨("Player", some "__init__"), "__init__", "Player.__init__", defArgs s_Player_init__, defBody s_Player_init__, defScope s_Player_init__, [], []⟩
def dd_Player_long : He.DefD := ⟨("Player", some "long"), "long", "Player.long", defArgs s_Player_long, defBody s_Player_long, defScope s_Player_long, [], []⟩
def dd_Player_add : He.DefD := ⟨("Player", some "add"), "add", "Player.add", defArgs s_Player_add, defBody s_Player_add, defScope s_Player_add, [], []⟩
def dd_Player_remove : He.DefD := ⟨("Player", some "remove"), "remove", "Player.remove", defArgs s_Player_remove, defBody s_Player_remove, defScope s_Player_remove, [], []⟩
def dd_Player_move : He.DefD := ⟨("Player", some "move"), "move", "Player.move", defArgs s_Player_move, defBody s_Player_move, defScope s_Player_move, [], []⟩
def dd_Player_play_soon : He.DefD := ⟨("Player", some "play_soon"), "play_soon", "Player.play_soon", defArgs s_Player_play_soon, defBody s_Player_play_soon, defScope s_Player_play_soon, [], []⟩
def dd_Player_entries : He.DefD := ⟨("Player", some "entries"), "entries", "Player.entries", defArgs s_Player_entries, defBody s_Player_entries, defScope s_Player_entries, [], []⟩
def dd_Player_tune : He.DefD := ⟨("Player", some "tune"), "tune", "Player.tune", defArgs s_Player_tune, defBody s_Player_tune, defScope s_Player_tune, [], []⟩
def dd_Player_set_again : He.DefD := ⟨("Player", some "set_again"), "set_again", "Player.set_again", defArgs s_Player_set_again, defBody s_Player_set_again, defScope s_Player_set_again, [], []⟩
def dd_Player_set_mixed : He.DefD := ⟨("Player", some "set_mixed"), "set_mixed", "Player.set_mixed", defArgs s_Player_set_mixed, defBody s_Player_set_mixed, defScope s_Player_set_mixed, [], []⟩
def dd_Player_begin : He.DefD := ⟨("Player", some "begin"), "begin", "Player.begin", defArgs s_Player_begin, defBody s_Player_begin, defScope s_Player_begin, [], []⟩
def dd_Player_play : He.DefD := ⟨("Player", some "play"), "play", "Player.play", defArgs s_Player_play, defBody s_Player_play, defScope s_Player_play, [], []⟩
def dd_Player_resume : He.DefD := ⟨("Player", some "resume"), "resume", "Player.resume", defArgs s_Player_resume, defBody s_Player_resume, defScope s_Player_resume, [], []⟩
def dd_Player_pause : He.DefD := ⟨("Player", some "pause"), "pause", "Player.pause", defArgs s_Player_pause, defBody s_Player_pause, defScope s_Player_pause, [], []⟩
def dd_Player_next_entry : He.DefD := ⟨("Player", some "next_entry"), "next_entry", "Player.next_entry", defArgs s_Player_next_entry, defBody s_Player_next_entry, defScope s_Player_next_entry, [], []⟩
def dd_Player_skip : He.DefD := ⟨("Player", some "skip"), "skip", "Player.skip", defArgs s_Player_skip, defBody s_Player_skip, defScope s_Player_skip, [], []⟩
def dd_Player_back : He.DefD := ⟨("Player", some "back"), "back", "Player.back", defArgs s_Player_back, defBody s_Player_back, defScope s_Player_back, [], []⟩
def dd_Player_seek : He.DefD := ⟨("Player", some "seek"), "seek", "Player.seek", defArgs s_Player_seek, defBody s_Player_seek, defScope s_Player_seek, [], []⟩
def dd_Player_stop_behind : He.DefD := ⟨("Player", some "stop_behind"), "stop_behind", "Player.stop_behind", defArgs s_Player_stop_behind, defBody s_Player_stop_behind, defScope s_Player_stop_behind, [], []⟩
def dd_Player_sleep : He.DefD := ⟨("Player", some "sleep"), "sleep", "Player.sleep", defArgs s_Player_sleep, defBody s_Player_sleep, defScope s_Player_sleep, [], []⟩
def dd_Player_join_long : He.DefD := ⟨("Player", some "join_long"), "join_long", "Player.join_long", defArgs s_Player_join_long, defBody s_Player_join_long, defScope s_Player_join_long, [], []⟩
def dd_Player_step : He.DefD := ⟨("Player", some "step"), "step", "Player.step", defArgs s_Player_step, defBody s_Player_step, defScope s_Player_step, [], []⟩
def dd_Player_turn_over : He.DefD := ⟨("Player", some "turn_over"), "turn_over", "Player.turn_over", defArgs s_Player_turn_over, defBody s_Player_turn_over, defScope s_Player_turn_over, [], []⟩
def dd_Player_tick : He.DefD := ⟨("Player", some "tick"), "tick", "Player.tick", defArgs s_Player_tick, defBody s_Player_tick, defScope s_Player_tick, [], []⟩
def dd_Player_state : He.DefD := ⟨("Player", some "state"), "state", "Player.state", defArgs s_Player_state, defBody s_Player_state, defScope s_Player_state, [], []⟩
def dd_Player_sounds : He.DefD := ⟨("Player", some "sounds"), "sounds", "Player.sounds", defArgs s_Player_sounds, defBody s_Player_sounds, defScope s_Player_sounds, [], []⟩
def dd_Player_log : He.DefD := ⟨("Player", some "log"), "log", "Player.log", defArgs s_Player_log, defBody s_Player_log, defScope s_Player_log, [], []⟩
def dd_Player_ticks : He.DefD := ⟨("Player", some "ticks"), "ticks", "Player.ticks", defArgs s_Player_ticks, defBody s_Player_ticks, defScope s_Player_ticks, [], []⟩
def dd_Player_ahead : He.DefD := ⟨("Player", some "ahead"), "ahead", "Player.ahead", defArgs s_Player_ahead, defBody s_Player_ahead, defScope s_Player_ahead, [], []⟩
def dd_Player_twin : He.DefD := ⟨("Player", some "twin"), "twin", "Player.twin", defArgs s_Player_twin, defBody s_Player_twin, defScope s_Player_twin, [], []⟩
def dd_look_name : He.DefD := ⟨("look_name", none), "look_name", "look_name", defArgs s_look_name, defBody s_look_name, defScope s_look_name, [], []⟩
def dd_Shelf_init__ : He.DefD := ⟨("Shelf", some "__init__"), "__init__", "Shelf.__init__", defArgs s_Shelf_init__, defBody s_Shelf_init__, defScope s_Shelf_init__, [], []⟩
def dd_Shelf_add : He.DefD := ⟨("Shelf", some "add"), "add", "Shelf.add", defArgs s_Shelf_add, defBody s_Shelf_add, defScope s_Shelf_add, [], []⟩
def dd_Shelf_need : He.DefD := ⟨("Shelf", some "need"), "need", "Shelf.need", defArgs s_Shelf_need, defBody s_Shelf_need, defScope s_Shelf_need, [], []⟩
def dd_Shelf_long : He.DefD := ⟨("Shelf", some "long"), "long", "Shelf.long", defArgs s_Shelf_long, defBody s_Shelf_long, defScope s_Shelf_long, [], []⟩
def dd_Shelf_names : He.DefD := ⟨("Shelf", some "names"), "names", "Shelf.names", defArgs s_Shelf_names, defBody s_Shelf_names, defScope s_Shelf_names, [], []⟩
def dd_law_cell : He.DefD := ⟨("_law_cell", none), "_law_cell", "_law_cell", defArgs s_law_cell, defBody s_law_cell, defScope s_law_cell, [], []⟩
def dd_law_mix : He.DefD := ⟨("_law_mix", none), "_law_mix", "_law_mix", defArgs s_law_mix, defBody s_law_mix, defScope s_law_mix, [], []⟩
def dd_law_draw : He.DefD := ⟨("_law_draw", none), "_law_draw", "_law_draw", defArgs s_law_draw, defBody s_law_draw, defScope s_law_draw, [], []⟩
def dd_law_pick : He.DefD := ⟨("_law_pick", none), "_law_pick", "_law_pick", defArgs s_law_pick, defBody s_law_pick, defScope s_law_pick, [], []⟩
def dd_law_shelf : He.DefD := ⟨("_law_shelf", none), "_law_shelf", "_law_shelf", defArgs s_law_shelf, defBody s_law_shelf, defScope s_law_shelf, [], []⟩
def dd_law_made : He.DefD := ⟨("_law_made", none), "_law_made", "_law_made", defArgs s_law_made, defBody s_law_made, defScope s_law_made, [], []⟩
def dd_law_begins : He.DefD := ⟨("_law_begins", none), "_law_begins", "_law_begins", defArgs s_law_begins, defBody s_law_begins, defScope s_law_begins, [], []⟩
def dd_law : He.DefD := ⟨("law", none), "law", "law", defArgs s_law, defBody s_law, defScope s_law, [], []⟩
def hfn : List He.DefD := [dd_wall, dd_Dice_init__, dd_Dice_below, dd_Dice_twin, dd_mixed, dd_Queue_init__, dd_Queue_entries, dd_Queue_need, dd_Queue_tune, dd_Queue_put, dd_Queue_remove, dd_Queue_move, dd_Queue_place, dd_Queue_twin, dd_Order_init__, dd_Order_set_again, dd_Order_set_mixed, dd_Order_put, dd_Order_remove, dd_Order_next_plain, dd_Order_next_mixed, dd_Order_after, dd_Order_skip, dd_Order_first, dd_Order_began, dd_Order_twin, dd_Player_init__, dd_Player_long, dd_Player_add, dd_Player_remove, dd_Player_move, dd_Player_play_soon, dd_Player_entries, dd_Player_tune, dd_Player_set_again, dd_Player_set_mixed, dd_Player_begin, dd_Player_play, dd_Player_resume, dd_Player_pause, dd_Player_next_entry, dd_Player_skip, dd_Player_back, dd_Player_seek, dd_Player_stop_behind, dd_Player_sleep, dd_Player_join_long, dd_Player_step, dd_Player_turn_over, dd_Player_tick, dd_Player_state, dd_Player_sounds, dd_Player_log, dd_Player_ticks, dd_Player_ahead, dd_Player_twin, dd_look_name, dd_Shelf_init__, dd_Shelf_add, dd_Shelf_need, dd_Shelf_long, dd_Shelf_names, dd_law_cell, dd_law_mix, dd_law_draw, dd_law_pick, dd_law_shelf, dd_law_made, dd_law_begins, dd_law]
def hfa0 : List He.Fa := [.free "all", .free "any", .free "dict", .free "len", .free "list", .free "min", .free "range", .int "WHEEL" 6075, .int "TIMES" 106, .int "MORE" 1283, .int "MOST" 60, .int "MOST_ENTRIES" 12, .glo "REPEATS", .int "MOST_OVERLAP" 9, .int "MOST_TICKS" 200, .str "SMALL" "abcdefghijklmnopqrstuvwxyz", .int "MOST_NAME" 6, .int "MOST_TUNES" 6, .int "MOST_LONG" 40, .glo "RoadError", .glo "BadTune", .glo "BadNumber", .glo "BadEntry", .glo "BadWord", .glo "Dice", .glo "Queue", .glo "Order", .glo "Player", .glo "Shelf", .cls "Dice"]
def hfa1 : List He.Fa := [.mkr "Dice", .noat "Dice" "number", .cls "Queue", .mkr "Queue", .noat "Queue" "tunes", .noat "Queue" "turn", .noat "Queue" "last", .cls "Order", .mkr "Order", .noat "Order" "queue", .noat "Order" "dice", .noat "Order" "is_mixed", .noat "Order" "again", .noat "Order" "deck", .noat "Order" "is_gone", .noat "Order" "behind", .cls "Player", .mkr "Player", .noat "Player" "shelf", .noat "Player" "overlap", .noat "Player" "order", .noat "Player" "time", .noat "Player" "now", .noat "Player" "spot", .noat "Player" "old", .noat "Player" "soon", .noat "Player" "past", .noat "Player" "rows", .noat "Player" "is_playing", .noat "Player" "stops"]
def hfa2 : List He.Fa := [.noat "Player" "sleep_left", .cls "Shelf", .mkr "Shelf", .noat "Shelf" "longs", .glo "_wall", .meth "Dice" "__init__", .meth "Dice" "below", .meth "Dice" "twin", .glo "mixed", .meth "Queue" "__init__", .meth "Queue" "entries", .meth "Queue" "need", .meth "Queue" "tune", .meth "Queue" "put", .meth "Queue" "remove", .meth "Queue" "move", .meth "Queue" "place", .meth "Queue" "twin", .meth "Order" "__init__", .meth "Order" "set_again", .meth "Order" "set_mixed", .meth "Order" "put", .meth "Order" "remove", .meth "Order" "next_plain", .meth "Order" "next_mixed", .meth "Order" "after", .meth "Order" "skip", .meth "Order" "first", .meth "Order" "began", .meth "Order" "twin"]
def hfa3 : List He.Fa := [.meth "Player" "__init__", .meth "Player" "long", .meth "Player" "add", .meth "Player" "remove", .meth "Player" "move", .meth "Player" "play_soon", .meth "Player" "entries", .meth "Player" "tune", .meth "Player" "set_again", .meth "Player" "set_mixed", .meth "Player" "begin", .meth "Player" "play", .meth "Player" "resume", .meth "Player" "pause", .meth "Player" "next_entry", .meth "Player" "skip", .meth "Player" "back", .meth "Player" "seek", .meth "Player" "stop_behind", .meth "Player" "sleep", .meth "Player" "join_long", .meth "Player" "step", .meth "Player" "turn_over", .meth "Player" "tick", .meth "Player" "state", .meth "Player" "sounds", .meth "Player" "log", .meth "Player" "ticks", .meth "Player" "ahead", .meth "Player" "twin"]
def hfa4 : List He.Fa := [.glo "look_name", .meth "Shelf" "__init__", .meth "Shelf" "add", .meth "Shelf" "need", .meth "Shelf" "long", .meth "Shelf" "names", .glo "_law_cell", .glo "_law_mix", .glo "_law_draw", .glo "_law_pick", .glo "_law_shelf", .glo "_law_made", .glo "_law_begins", .glo "law"]
def hfa : List He.Fa := hfa0 ++ (hfa1 ++ (hfa2 ++ (hfa3 ++ (hfa4))))
def hx_x_RoadError (K : PySem.W.Frag) : Bool := PySem.W.excIn K (He.ga K "RoadError") He.veBase "ValueError.__new__"
def hx_k_RoadError (K : PySem.W.Frag) : Bool := PySem.W.keepIn K (.ref (He.ga K "RoadError"))
def hx_r_RoadError (K : PySem.W.Frag) : Bool := decide (PySem.W.subIn K (.ref (He.ga K "RoadError")) (.type "BaseException") = some true)
def hx_t_RoadError (K : PySem.W.Frag) : Bool := decide (PySem.W.typeIn K (.ref (He.ga K "RoadError")) = some (.type "type"))
def hx_e_RoadError_hg (K : PySem.W.Frag) : Bool := decide (PySem.W.findIn K (.ref (He.ga K "RoadError")) "__getattribute__" = some (some (.builtin "BaseException.__getattribute__")))
def hx_e_RoadError_hk (K : PySem.W.Frag) : Bool := decide (PySem.W.findIn K (.ref (He.ga K "RoadError")) "__getattr__" = some none)
def hx_e_RoadError_hd (K : PySem.W.Frag) : Bool := PySem.W.hasDictIn K (He.ga K "RoadError")
def hx_e_RoadError_ha (K : PySem.W.Frag) : Bool := decide (PySem.W.findIn K (.ref (He.ga K "RoadError")) "__class__" = some (some (.builtin "object.__class__")))
def hx_e_RoadError_hm (K : PySem.W.Frag) : Bool := decide (PySem.W.mroIn K (He.ga K "RoadError") (.type "object") = some true)
def hx_m_RoadError (K : PySem.W.Frag) : Bool := decide (PySem.W.exmOne K (.ref (He.ga K "RoadError")) (.ref (He.ga K "RoadError")) = some true)
def hx_i_RoadError_RoadError (K : PySem.W.Frag) : Bool := decide (PySem.W.kitOne K (.ref (He.ga K "RoadError")) (.ref (He.ga K "RoadError")) = some true)
def hx_i_RoadError_BadTune (K : PySem.W.Frag) : Bool := decide (PySem.W.kitOne K (.ref (He.ga K "RoadError")) (.ref (He.ga K "BadTune")) = some false)
def hx_i_RoadError_BadNumber (K : PySem.W.Frag) : Bool := decide (PySem.W.kitOne K (.ref (He.ga K "RoadError")) (.ref (He.ga K "BadNumber")) = some false)
def hx_i_RoadError_BadEntry (K : PySem.W.Frag) : Bool := decide (PySem.W.kitOne K (.ref (He.ga K "RoadError")) (.ref (He.ga K "BadEntry")) = some false)
def hx_i_RoadError_BadWord (K : PySem.W.Frag) : Bool := decide (PySem.W.kitOne K (.ref (He.ga K "RoadError")) (.ref (He.ga K "BadWord")) = some false)
def hx_i_RoadError_ValueError (K : PySem.W.Frag) : Bool := decide (PySem.W.kitOne K (.ref (He.ga K "RoadError")) (.type "ValueError") = some true)
def hx_x_BadTune (K : PySem.W.Frag) : Bool := PySem.W.excIn K (He.ga K "BadTune") He.veBase "ValueError.__new__"
def hx_k_BadTune (K : PySem.W.Frag) : Bool := PySem.W.keepIn K (.ref (He.ga K "BadTune"))
def hx_r_BadTune (K : PySem.W.Frag) : Bool := decide (PySem.W.subIn K (.ref (He.ga K "BadTune")) (.type "BaseException") = some true)
def hx_t_BadTune (K : PySem.W.Frag) : Bool := decide (PySem.W.typeIn K (.ref (He.ga K "BadTune")) = some (.type "type"))
def hx_e_BadTune_hg (K : PySem.W.Frag) : Bool := decide (PySem.W.findIn K (.ref (He.ga K "BadTune")) "__getattribute__" = some (some (.builtin "BaseException.__getattribute__")))
def hx_e_BadTune_hk (K : PySem.W.Frag) : Bool := decide (PySem.W.findIn K (.ref (He.ga K "BadTune")) "__getattr__" = some none)
def hx_e_BadTune_hd (K : PySem.W.Frag) : Bool := PySem.W.hasDictIn K (He.ga K "BadTune")
def hx_e_BadTune_ha (K : PySem.W.Frag) : Bool := decide (PySem.W.findIn K (.ref (He.ga K "BadTune")) "__class__" = some (some (.builtin "object.__class__")))
def hx_e_BadTune_hm (K : PySem.W.Frag) : Bool := decide (PySem.W.mroIn K (He.ga K "BadTune") (.type "object") = some true)
def hx_m_BadTune (K : PySem.W.Frag) : Bool := decide (PySem.W.exmOne K (.ref (He.ga K "BadTune")) (.ref (He.ga K "RoadError")) = some true)
def hx_i_BadTune_RoadError (K : PySem.W.Frag) : Bool := decide (PySem.W.kitOne K (.ref (He.ga K "BadTune")) (.ref (He.ga K "RoadError")) = some true)
def hx_i_BadTune_BadTune (K : PySem.W.Frag) : Bool := decide (PySem.W.kitOne K (.ref (He.ga K "BadTune")) (.ref (He.ga K "BadTune")) = some true)
def hx_i_BadTune_BadNumber (K : PySem.W.Frag) : Bool := decide (PySem.W.kitOne K (.ref (He.ga K "BadTune")) (.ref (He.ga K "BadNumber")) = some false)
def hx_i_BadTune_BadEntry (K : PySem.W.Frag) : Bool := decide (PySem.W.kitOne K (.ref (He.ga K "BadTune")) (.ref (He.ga K "BadEntry")) = some false)
def hx_i_BadTune_BadWord (K : PySem.W.Frag) : Bool := decide (PySem.W.kitOne K (.ref (He.ga K "BadTune")) (.ref (He.ga K "BadWord")) = some false)
def hx_i_BadTune_ValueError (K : PySem.W.Frag) : Bool := decide (PySem.W.kitOne K (.ref (He.ga K "BadTune")) (.type "ValueError") = some true)
def hx_x_BadNumber (K : PySem.W.Frag) : Bool := PySem.W.excIn K (He.ga K "BadNumber") He.veBase "ValueError.__new__"
def hx_k_BadNumber (K : PySem.W.Frag) : Bool := PySem.W.keepIn K (.ref (He.ga K "BadNumber"))
def hx_r_BadNumber (K : PySem.W.Frag) : Bool := decide (PySem.W.subIn K (.ref (He.ga K "BadNumber")) (.type "BaseException") = some true)
def hx_t_BadNumber (K : PySem.W.Frag) : Bool := decide (PySem.W.typeIn K (.ref (He.ga K "BadNumber")) = some (.type "type"))
def hx_e_BadNumber_hg (K : PySem.W.Frag) : Bool := decide (PySem.W.findIn K (.ref (He.ga K "BadNumber")) "__getattribute__" = some (some (.builtin "BaseException.__getattribute__")))
def hx_e_BadNumber_hk (K : PySem.W.Frag) : Bool := decide (PySem.W.findIn K (.ref (He.ga K "BadNumber")) "__getattr__" = some none)
def hx_e_BadNumber_hd (K : PySem.W.Frag) : Bool := PySem.W.hasDictIn K (He.ga K "BadNumber")
def hx_e_BadNumber_ha (K : PySem.W.Frag) : Bool := decide (PySem.W.findIn K (.ref (He.ga K "BadNumber")) "__class__" = some (some (.builtin "object.__class__")))
def hx_e_BadNumber_hm (K : PySem.W.Frag) : Bool := decide (PySem.W.mroIn K (He.ga K "BadNumber") (.type "object") = some true)
def hx_m_BadNumber (K : PySem.W.Frag) : Bool := decide (PySem.W.exmOne K (.ref (He.ga K "BadNumber")) (.ref (He.ga K "RoadError")) = some true)
def hx_i_BadNumber_RoadError (K : PySem.W.Frag) : Bool := decide (PySem.W.kitOne K (.ref (He.ga K "BadNumber")) (.ref (He.ga K "RoadError")) = some true)
def hx_i_BadNumber_BadTune (K : PySem.W.Frag) : Bool := decide (PySem.W.kitOne K (.ref (He.ga K "BadNumber")) (.ref (He.ga K "BadTune")) = some false)
def hx_i_BadNumber_BadNumber (K : PySem.W.Frag) : Bool := decide (PySem.W.kitOne K (.ref (He.ga K "BadNumber")) (.ref (He.ga K "BadNumber")) = some true)
def hx_i_BadNumber_BadEntry (K : PySem.W.Frag) : Bool := decide (PySem.W.kitOne K (.ref (He.ga K "BadNumber")) (.ref (He.ga K "BadEntry")) = some false)
def hx_i_BadNumber_BadWord (K : PySem.W.Frag) : Bool := decide (PySem.W.kitOne K (.ref (He.ga K "BadNumber")) (.ref (He.ga K "BadWord")) = some false)
def hx_i_BadNumber_ValueError (K : PySem.W.Frag) : Bool := decide (PySem.W.kitOne K (.ref (He.ga K "BadNumber")) (.type "ValueError") = some true)
def hx_x_BadEntry (K : PySem.W.Frag) : Bool := PySem.W.excIn K (He.ga K "BadEntry") He.veBase "ValueError.__new__"
def hx_k_BadEntry (K : PySem.W.Frag) : Bool := PySem.W.keepIn K (.ref (He.ga K "BadEntry"))
def hx_r_BadEntry (K : PySem.W.Frag) : Bool := decide (PySem.W.subIn K (.ref (He.ga K "BadEntry")) (.type "BaseException") = some true)
def hx_t_BadEntry (K : PySem.W.Frag) : Bool := decide (PySem.W.typeIn K (.ref (He.ga K "BadEntry")) = some (.type "type"))
def hx_e_BadEntry_hg (K : PySem.W.Frag) : Bool := decide (PySem.W.findIn K (.ref (He.ga K "BadEntry")) "__getattribute__" = some (some (.builtin "BaseException.__getattribute__")))
def hx_e_BadEntry_hk (K : PySem.W.Frag) : Bool := decide (PySem.W.findIn K (.ref (He.ga K "BadEntry")) "__getattr__" = some none)
def hx_e_BadEntry_hd (K : PySem.W.Frag) : Bool := PySem.W.hasDictIn K (He.ga K "BadEntry")
def hx_e_BadEntry_ha (K : PySem.W.Frag) : Bool := decide (PySem.W.findIn K (.ref (He.ga K "BadEntry")) "__class__" = some (some (.builtin "object.__class__")))
def hx_e_BadEntry_hm (K : PySem.W.Frag) : Bool := decide (PySem.W.mroIn K (He.ga K "BadEntry") (.type "object") = some true)
def hx_m_BadEntry (K : PySem.W.Frag) : Bool := decide (PySem.W.exmOne K (.ref (He.ga K "BadEntry")) (.ref (He.ga K "RoadError")) = some true)
def hx_i_BadEntry_RoadError (K : PySem.W.Frag) : Bool := decide (PySem.W.kitOne K (.ref (He.ga K "BadEntry")) (.ref (He.ga K "RoadError")) = some true)
def hx_i_BadEntry_BadTune (K : PySem.W.Frag) : Bool := decide (PySem.W.kitOne K (.ref (He.ga K "BadEntry")) (.ref (He.ga K "BadTune")) = some false)
def hx_i_BadEntry_BadNumber (K : PySem.W.Frag) : Bool := decide (PySem.W.kitOne K (.ref (He.ga K "BadEntry")) (.ref (He.ga K "BadNumber")) = some false)
def hx_i_BadEntry_BadEntry (K : PySem.W.Frag) : Bool := decide (PySem.W.kitOne K (.ref (He.ga K "BadEntry")) (.ref (He.ga K "BadEntry")) = some true)
def hx_i_BadEntry_BadWord (K : PySem.W.Frag) : Bool := decide (PySem.W.kitOne K (.ref (He.ga K "BadEntry")) (.ref (He.ga K "BadWord")) = some false)
def hx_i_BadEntry_ValueError (K : PySem.W.Frag) : Bool := decide (PySem.W.kitOne K (.ref (He.ga K "BadEntry")) (.type "ValueError") = some true)
def hx_x_BadWord (K : PySem.W.Frag) : Bool := PySem.W.excIn K (He.ga K "BadWord") He.veBase "ValueError.__new__"
def hx_k_BadWord (K : PySem.W.Frag) : Bool := PySem.W.keepIn K (.ref (He.ga K "BadWord"))
def hx_r_BadWord (K : PySem.W.Frag) : Bool := decide (PySem.W.subIn K (.ref (He.ga K "BadWord")) (.type "BaseException") = some true)
def hx_t_BadWord (K : PySem.W.Frag) : Bool := decide (PySem.W.typeIn K (.ref (He.ga K "BadWord")) = some (.type "type"))
def hx_e_BadWord_hg (K : PySem.W.Frag) : Bool := decide (PySem.W.findIn K (.ref (He.ga K "BadWord")) "__getattribute__" = some (some (.builtin "BaseException.__getattribute__")))
def hx_e_BadWord_hk (K : PySem.W.Frag) : Bool := decide (PySem.W.findIn K (.ref (He.ga K "BadWord")) "__getattr__" = some none)
def hx_e_BadWord_hd (K : PySem.W.Frag) : Bool := PySem.W.hasDictIn K (He.ga K "BadWord")
def hx_e_BadWord_ha (K : PySem.W.Frag) : Bool := decide (PySem.W.findIn K (.ref (He.ga K "BadWord")) "__class__" = some (some (.builtin "object.__class__")))
def hx_e_BadWord_hm (K : PySem.W.Frag) : Bool := decide (PySem.W.mroIn K (He.ga K "BadWord") (.type "object") = some true)
def hx_m_BadWord (K : PySem.W.Frag) : Bool := decide (PySem.W.exmOne K (.ref (He.ga K "BadWord")) (.ref (He.ga K "RoadError")) = some true)
def hx_i_BadWord_RoadError (K : PySem.W.Frag) : Bool := decide (PySem.W.kitOne K (.ref (He.ga K "BadWord")) (.ref (He.ga K "RoadError")) = some true)
def hx_i_BadWord_BadTune (K : PySem.W.Frag) : Bool := decide (PySem.W.kitOne K (.ref (He.ga K "BadWord")) (.ref (He.ga K "BadTune")) = some false)
def hx_i_BadWord_BadNumber (K : PySem.W.Frag) : Bool := decide (PySem.W.kitOne K (.ref (He.ga K "BadWord")) (.ref (He.ga K "BadNumber")) = some false)
def hx_i_BadWord_BadEntry (K : PySem.W.Frag) : Bool := decide (PySem.W.kitOne K (.ref (He.ga K "BadWord")) (.ref (He.ga K "BadEntry")) = some false)
def hx_i_BadWord_BadWord (K : PySem.W.Frag) : Bool := decide (PySem.W.kitOne K (.ref (He.ga K "BadWord")) (.ref (He.ga K "BadWord")) = some true)
def hx_i_BadWord_ValueError (K : PySem.W.Frag) : Bool := decide (PySem.W.kitOne K (.ref (He.ga K "BadWord")) (.type "ValueError") = some true)
def hx_e_hn (K : PySem.W.Frag) : Bool := decide (PySem.W.specialIn K (.builtin "object.__class__") "__get__" = some (some (.builtin "getset_descriptor.__get__")))
def hx_e_ht (K : PySem.W.Frag) : Bool := decide (PySem.W.takesIn K (.builtin "object.__class__") = some true)
def hx_tu_REPEATS (K : PySem.W.Frag) : Bool := He.tupB K "REPEATS" [.str "none", .str "all", .str "one"]
def hxs0 : List (PySem.W.Frag → Bool) := [hx_x_RoadError, hx_k_RoadError, hx_r_RoadError, hx_t_RoadError, hx_e_RoadError_hg, hx_e_RoadError_hk, hx_e_RoadError_hd, hx_e_RoadError_ha, hx_e_RoadError_hm, hx_m_RoadError, hx_i_RoadError_RoadError, hx_i_RoadError_BadTune, hx_i_RoadError_BadNumber, hx_i_RoadError_BadEntry, hx_i_RoadError_BadWord, hx_i_RoadError_ValueError, hx_x_BadTune, hx_k_BadTune, hx_r_BadTune, hx_t_BadTune, hx_e_BadTune_hg, hx_e_BadTune_hk, hx_e_BadTune_hd, hx_e_BadTune_ha, hx_e_BadTune_hm]
def hxs1 : List (PySem.W.Frag → Bool) := [hx_m_BadTune, hx_i_BadTune_RoadError, hx_i_BadTune_BadTune, hx_i_BadTune_BadNumber, hx_i_BadTune_BadEntry, hx_i_BadTune_BadWord, hx_i_BadTune_ValueError, hx_x_BadNumber, hx_k_BadNumber, hx_r_BadNumber, hx_t_BadNumber, hx_e_BadNumber_hg, hx_e_BadNumber_hk, hx_e_BadNumber_hd, hx_e_BadNumber_ha, hx_e_BadNumber_hm, hx_m_BadNumber, hx_i_BadNumber_RoadError, hx_i_BadNumber_BadTune, hx_i_BadNumber_BadNumber, hx_i_BadNumber_BadEntry, hx_i_BadNumber_BadWord, hx_i_BadNumber_ValueError, hx_x_BadEntry, hx_k_BadEntry]
def hxs2 : List (PySem.W.Frag → Bool) := [hx_r_BadEntry, hx_t_BadEntry, hx_e_BadEntry_hg, hx_e_BadEntry_hk, hx_e_BadEntry_hd, hx_e_BadEntry_ha, hx_e_BadEntry_hm, hx_m_BadEntry, hx_i_BadEntry_RoadError, hx_i_BadEntry_BadTune, hx_i_BadEntry_BadNumber, hx_i_BadEntry_BadEntry, hx_i_BadEntry_BadWord, hx_i_BadEntry_ValueError, hx_x_BadWord, hx_k_BadWord, hx_r_BadWord, hx_t_BadWord, hx_e_BadWord_hg, hx_e_BadWord_hk, hx_e_BadWord_hd, hx_e_BadWord_ha, hx_e_BadWord_hm, hx_m_BadWord, hx_i_BadWord_RoadError]
def hxs3 : List (PySem.W.Frag → Bool) := [hx_i_BadWord_BadTune, hx_i_BadWord_BadNumber, hx_i_BadWord_BadEntry, hx_i_BadWord_BadWord, hx_i_BadWord_ValueError, hx_e_hn, hx_e_ht, hx_tu_REPEATS]
def hxs : List (PySem.W.Frag → Bool) := hxs0 ++ (hxs1 ++ (hxs2 ++ (hxs3)))
def hex (K : PySem.W.Frag) : Bool := hxs.all fun f => f K
theorem hex_at {K : PySem.W.Frag} (h : hex K = true) (i : Nat) {f : PySem.W.Frag → Bool} (e : hxs[i]? = some f := by rfl) : f K = true := List.all_eq_true.mp h f (List.mem_of_getElem? e)
abbrev hR : PySem.W.OpenRow := PySem.W.OpenLaw.row PySem.Challenge.rw_tuneroad_k33_whole_sounds
abbrev hhk : PySem.W.Hook := hookM hfa hfn hex
def hob (s : PySem.W.SharedT) : AlM := obsM hfa hfn hex (HandSHeadRun.getT s)
theorem hob_eq (s : PySem.W.SharedT) : hob s = hhk.obs s.abs := obsM_eq (HandSHeadRun.getT_eq s)
def hnm0 : List PySem.Str := ["_wall", "RoadError", "BadTune", "BadNumber", "BadEntry", "BadWord", "WHEEL", "TIMES", "MORE", "MOST", "Dice", "mixed", "MOST_ENTRIES", "Queue", "REPEATS", "Order", "MOST_OVERLAP", "MOST_TICKS", "Player", "SMALL", "MOST_NAME", "MOST_TUNES", "MOST_LONG", "look_name", "Shelf", "_law_cell", "_law_mix", "_law_draw", "_law_pick", "_law_shelf"]
def hnm1 : List PySem.Str := ["_law_made", "_law_begins"]
def hnm : List PySem.Str := hnm0 ++ (hnm1)
theorem hrun2 (w : World) : ∀ os, (HandSHeadRun.endF (HandSHeadRun.stepQ (HandSHeadRun.denQ HandSHeadRun.tabQ) hR.prog w) 20000 hR.prog w os).map hob = some (hhk.val w) := by
  intro os
  kernel_rfl
theorem hrun (w : World) : HandSHeadRun.RunEq hR (PySem.W.view hR.prog [39]) hhk hob 20000 hnm w := by
  refine run_split (fun os => ?_) (hrun2 w)
  kernel_rfl
theorem txt_of {K : PySem.W.Frag} {h : Heap} {mg : Str → Option Value} (X : K.In h) (G : h.Ns mainGlobals mg) (c : SaysM hfa hfn hex K) : ∃ A : Ads, Txt K mg A := by
  have cd := c.d
  have cx := c.more
  obtain ⟨d_wall, F_wall⟩ := cd.def_ 0 (d := dd_wall) rfl
  obtain ⟨d_Dice_init__, F_Dice_init__⟩ := cd.def_ 1 (d := dd_Dice_init__) rfl
  obtain ⟨d_Dice_below, F_Dice_below⟩ := cd.def_ 2 (d := dd_Dice_below) rfl
  obtain ⟨d_Dice_twin, F_Dice_twin⟩ := cd.def_ 3 (d := dd_Dice_twin) rfl
  obtain ⟨d_mixed, F_mixed⟩ := cd.def_ 4 (d := dd_mixed) rfl
  obtain ⟨d_Queue_init__, F_Queue_init__⟩ := cd.def_ 5 (d := dd_Queue_init__) rfl
  obtain ⟨d_Queue_entries, F_Queue_entries⟩ := cd.def_ 6 (d := dd_Queue_entries) rfl
  obtain ⟨d_Queue_need, F_Queue_need⟩ := cd.def_ 7 (d := dd_Queue_need) rfl
  obtain ⟨d_Queue_tune, F_Queue_tune⟩ := cd.def_ 8 (d := dd_Queue_tune) rfl
  obtain ⟨d_Queue_put, F_Queue_put⟩ := cd.def_ 9 (d := dd_Queue_put) rfl
  obtain ⟨d_Queue_remove, F_Queue_remove⟩ := cd.def_ 10 (d := dd_Queue_remove) rfl
  obtain ⟨d_Queue_move, F_Queue_move⟩ := cd.def_ 11 (d := dd_Queue_move) rfl
  obtain ⟨d_Queue_place, F_Queue_place⟩ := cd.def_ 12 (d := dd_Queue_place) rfl
  obtain ⟨d_Queue_twin, F_Queue_twin⟩ := cd.def_ 13 (d := dd_Queue_twin) rfl
  obtain ⟨d_Order_init__, F_Order_init__⟩ := cd.def_ 14 (d := dd_Order_init__) rfl
  obtain ⟨d_Order_set_again, F_Order_set_again⟩ := cd.def_ 15 (d := dd_Order_set_again) rfl
  obtain ⟨d_Order_set_mixed, F_Order_set_mixed⟩ := cd.def_ 16 (d := dd_Order_set_mixed) rfl
  obtain ⟨d_Order_put, F_Order_put⟩ := cd.def_ 17 (d := dd_Order_put) rfl
  obtain ⟨d_Order_remove, F_Order_remove⟩ := cd.def_ 18 (d := dd_Order_remove) rfl
  obtain ⟨d_Order_next_plain, F_Order_next_plain⟩ := cd.def_ 19 (d := dd_Order_next_plain) rfl
  obtain ⟨d_Order_next_mixed, F_Order_next_mixed⟩ := cd.def_ 20 (d := dd_Order_next_mixed) rfl
  obtain ⟨d_Order_after, F_Order_after⟩ := cd.def_ 21 (d := dd_Order_after) rfl
  obtain ⟨d_Order_skip, F_Order_skip⟩ := cd.def_ 22 (d := dd_Order_skip) rfl
  obtain ⟨d_Order_first, F_Order_first⟩ := cd.def_ 23 (d := dd_Order_first) rfl
  obtain ⟨d_Order_began, F_Order_began⟩ := cd.def_ 24 (d := dd_Order_began) rfl
  obtain ⟨d_Order_twin, F_Order_twin⟩ := cd.def_ 25 (d := dd_Order_twin) rfl
  obtain ⟨d_Player_init__, F_Player_init__⟩ := cd.def_ 26 (d := dd_Player_init__) rfl
  obtain ⟨d_Player_long, F_Player_long⟩ := cd.def_ 27 (d := dd_Player_long) rfl
  obtain ⟨d_Player_add, F_Player_add⟩ := cd.def_ 28 (d := dd_Player_add) rfl
  obtain ⟨d_Player_remove, F_Player_remove⟩ := cd.def_ 29 (d := dd_Player_remove) rfl
  obtain ⟨d_Player_move, F_Player_move⟩ := cd.def_ 30 (d := dd_Player_move) rfl
  obtain ⟨d_Player_play_soon, F_Player_play_soon⟩ := cd.def_ 31 (d := dd_Player_play_soon) rfl
  obtain ⟨d_Player_entries, F_Player_entries⟩ := cd.def_ 32 (d := dd_Player_entries) rfl
  obtain ⟨d_Player_tune, F_Player_tune⟩ := cd.def_ 33 (d := dd_Player_tune) rfl
  obtain ⟨d_Player_set_again, F_Player_set_again⟩ := cd.def_ 34 (d := dd_Player_set_again) rfl
  obtain ⟨d_Player_set_mixed, F_Player_set_mixed⟩ := cd.def_ 35 (d := dd_Player_set_mixed) rfl
  obtain ⟨d_Player_begin, F_Player_begin⟩ := cd.def_ 36 (d := dd_Player_begin) rfl
  obtain ⟨d_Player_play, F_Player_play⟩ := cd.def_ 37 (d := dd_Player_play) rfl
  obtain ⟨d_Player_resume, F_Player_resume⟩ := cd.def_ 38 (d := dd_Player_resume) rfl
  obtain ⟨d_Player_pause, F_Player_pause⟩ := cd.def_ 39 (d := dd_Player_pause) rfl
  obtain ⟨d_Player_next_entry, F_Player_next_entry⟩ := cd.def_ 40 (d := dd_Player_next_entry) rfl
  obtain ⟨d_Player_skip, F_Player_skip⟩ := cd.def_ 41 (d := dd_Player_skip) rfl
  obtain ⟨d_Player_back, F_Player_back⟩ := cd.def_ 42 (d := dd_Player_back) rfl
  obtain ⟨d_Player_seek, F_Player_seek⟩ := cd.def_ 43 (d := dd_Player_seek) rfl
  obtain ⟨d_Player_stop_behind, F_Player_stop_behind⟩ := cd.def_ 44 (d := dd_Player_stop_behind) rfl
  obtain ⟨d_Player_sleep, F_Player_sleep⟩ := cd.def_ 45 (d := dd_Player_sleep) rfl
  obtain ⟨d_Player_join_long, F_Player_join_long⟩ := cd.def_ 46 (d := dd_Player_join_long) rfl
  obtain ⟨d_Player_step, F_Player_step⟩ := cd.def_ 47 (d := dd_Player_step) rfl
  obtain ⟨d_Player_turn_over, F_Player_turn_over⟩ := cd.def_ 48 (d := dd_Player_turn_over) rfl
  obtain ⟨d_Player_tick, F_Player_tick⟩ := cd.def_ 49 (d := dd_Player_tick) rfl
  obtain ⟨d_Player_state, F_Player_state⟩ := cd.def_ 50 (d := dd_Player_state) rfl
  obtain ⟨d_Player_sounds, F_Player_sounds⟩ := cd.def_ 51 (d := dd_Player_sounds) rfl
  obtain ⟨d_Player_log, F_Player_log⟩ := cd.def_ 52 (d := dd_Player_log) rfl
  obtain ⟨d_Player_ticks, F_Player_ticks⟩ := cd.def_ 53 (d := dd_Player_ticks) rfl
  obtain ⟨d_Player_ahead, F_Player_ahead⟩ := cd.def_ 54 (d := dd_Player_ahead) rfl
  obtain ⟨d_Player_twin, F_Player_twin⟩ := cd.def_ 55 (d := dd_Player_twin) rfl
  obtain ⟨d_look_name, F_look_name⟩ := cd.def_ 56 (d := dd_look_name) rfl
  obtain ⟨d_Shelf_init__, F_Shelf_init__⟩ := cd.def_ 57 (d := dd_Shelf_init__) rfl
  obtain ⟨d_Shelf_add, F_Shelf_add⟩ := cd.def_ 58 (d := dd_Shelf_add) rfl
  obtain ⟨d_Shelf_need, F_Shelf_need⟩ := cd.def_ 59 (d := dd_Shelf_need) rfl
  obtain ⟨d_Shelf_long, F_Shelf_long⟩ := cd.def_ 60 (d := dd_Shelf_long) rfl
  obtain ⟨d_Shelf_names, F_Shelf_names⟩ := cd.def_ 61 (d := dd_Shelf_names) rfl
  obtain ⟨d_law_cell, F_law_cell⟩ := cd.def_ 62 (d := dd_law_cell) rfl
  obtain ⟨d_law_mix, F_law_mix⟩ := cd.def_ 63 (d := dd_law_mix) rfl
  obtain ⟨d_law_draw, F_law_draw⟩ := cd.def_ 64 (d := dd_law_draw) rfl
  obtain ⟨d_law_pick, F_law_pick⟩ := cd.def_ 65 (d := dd_law_pick) rfl
  obtain ⟨d_law_shelf, F_law_shelf⟩ := cd.def_ 66 (d := dd_law_shelf) rfl
  obtain ⟨d_law_made, F_law_made⟩ := cd.def_ 67 (d := dd_law_made) rfl
  obtain ⟨d_law_begins, F_law_begins⟩ := cd.def_ 68 (d := dd_law_begins) rfl
  obtain ⟨d_law, F_law⟩ := cd.def_ 69 (d := dd_law) rfl
  refine ⟨{ c_RoadError := He.ga K "RoadError", c_BadTune := He.ga K "BadTune", c_BadNumber := He.ga K "BadNumber", c_BadEntry := He.ga K "BadEntry", c_BadWord := He.ga K "BadWord", c_Dice := He.ga K "Dice", c_Queue := He.ga K "Queue", c_Order := He.ga K "Order", c_Player := He.ga K "Player", c_Shelf := He.ga K "Shelf", f_wall := He.fAd K ("_wall", none), f_Dice_init__ := He.fAd K ("Dice", some "__init__"), f_Dice_below := He.fAd K ("Dice", some "below"), f_Dice_twin := He.fAd K ("Dice", some "twin"), f_mixed := He.fAd K ("mixed", none), f_Queue_init__ := He.fAd K ("Queue", some "__init__"), f_Queue_entries := He.fAd K ("Queue", some "entries"), f_Queue_need := He.fAd K ("Queue", some "need"), f_Queue_tune := He.fAd K ("Queue", some "tune"), f_Queue_put := He.fAd K ("Queue", some "put"), f_Queue_remove := He.fAd K ("Queue", some "remove"), f_Queue_move := He.fAd K ("Queue", some "move"), f_Queue_place := He.fAd K ("Queue", some "place"), f_Queue_twin := He.fAd K ("Queue", some "twin"), f_Order_init__ := He.fAd K ("Order", some "__init__"), f_Order_set_again := He.fAd K ("Order", some "set_again"), f_Order_set_mixed := He.fAd K ("Order", some "set_mixed"), f_Order_put := He.fAd K ("Order", some "put"), f_Order_remove := He.fAd K ("Order", some "remove"), f_Order_next_plain := He.fAd K ("Order", some "next_plain"), f_Order_next_mixed := He.fAd K ("Order", some "next_mixed"), f_Order_after := He.fAd K ("Order", some "after"), f_Order_skip := He.fAd K ("Order", some "skip"), f_Order_first := He.fAd K ("Order", some "first"), f_Order_began := He.fAd K ("Order", some "began"), f_Order_twin := He.fAd K ("Order", some "twin"), f_Player_init__ := He.fAd K ("Player", some "__init__"), f_Player_long := He.fAd K ("Player", some "long"), f_Player_add := He.fAd K ("Player", some "add"), f_Player_remove := He.fAd K ("Player", some "remove"), f_Player_move := He.fAd K ("Player", some "move"), f_Player_play_soon := He.fAd K ("Player", some "play_soon"), f_Player_entries := He.fAd K ("Player", some "entries"), f_Player_tune := He.fAd K ("Player", some "tune"), f_Player_set_again := He.fAd K ("Player", some "set_again"), f_Player_set_mixed := He.fAd K ("Player", some "set_mixed"), f_Player_begin := He.fAd K ("Player", some "begin"), f_Player_play := He.fAd K ("Player", some "play"), f_Player_resume := He.fAd K ("Player", some "resume"), f_Player_pause := He.fAd K ("Player", some "pause"), f_Player_next_entry := He.fAd K ("Player", some "next_entry"), f_Player_skip := He.fAd K ("Player", some "skip"), f_Player_back := He.fAd K ("Player", some "back"), f_Player_seek := He.fAd K ("Player", some "seek"), f_Player_stop_behind := He.fAd K ("Player", some "stop_behind"), f_Player_sleep := He.fAd K ("Player", some "sleep"), f_Player_join_long := He.fAd K ("Player", some "join_long"), f_Player_step := He.fAd K ("Player", some "step"), f_Player_turn_over := He.fAd K ("Player", some "turn_over"), f_Player_tick := He.fAd K ("Player", some "tick"), f_Player_state := He.fAd K ("Player", some "state"), f_Player_sounds := He.fAd K ("Player", some "sounds"), f_Player_log := He.fAd K ("Player", some "log"), f_Player_ticks := He.fAd K ("Player", some "ticks"), f_Player_ahead := He.fAd K ("Player", some "ahead"), f_Player_twin := He.fAd K ("Player", some "twin"), f_look_name := He.fAd K ("look_name", none), f_Shelf_init__ := He.fAd K ("Shelf", some "__init__"), f_Shelf_add := He.fAd K ("Shelf", some "add"), f_Shelf_need := He.fAd K ("Shelf", some "need"), f_Shelf_long := He.fAd K ("Shelf", some "long"), f_Shelf_names := He.fAd K ("Shelf", some "names"), f_law_cell := He.fAd K ("_law_cell", none), f_law_mix := He.fAd K ("_law_mix", none), f_law_draw := He.fAd K ("_law_draw", none), f_law_pick := He.fAd K ("_law_pick", none), f_law_shelf := He.fAd K ("_law_shelf", none), f_law_made := He.fAd K ("_law_made", none), f_law_begins := He.fAd K ("_law_begins", none), f_law := He.fAd K ("law", none), o_REPEATS := He.ga K "REPEATS", d_wall := d_wall, d_Dice_init__ := d_Dice_init__, d_Dice_below := d_Dice_below, d_Dice_twin := d_Dice_twin, d_mixed := d_mixed, d_Queue_init__ := d_Queue_init__, d_Queue_entries := d_Queue_entries, d_Queue_need := d_Queue_need, d_Queue_tune := d_Queue_tune, d_Queue_put := d_Queue_put, d_Queue_remove := d_Queue_remove, d_Queue_move := d_Queue_move, d_Queue_place := d_Queue_place, d_Queue_twin := d_Queue_twin, d_Order_init__ := d_Order_init__, d_Order_set_again := d_Order_set_again, d_Order_set_mixed := d_Order_set_mixed, d_Order_put := d_Order_put, d_Order_remove := d_Order_remove, d_Order_next_plain := d_Order_next_plain, d_Order_next_mixed := d_Order_next_mixed, d_Order_after := d_Order_after, d_Order_skip := d_Order_skip, d_Order_first := d_Order_first, d_Order_began := d_Order_began, d_Order_twin := d_Order_twin, d_Player_init__ := d_Player_init__, d_Player_long := d_Player_long, d_Player_add := d_Player_add, d_Player_remove := d_Player_remove, d_Player_move := d_Player_move, d_Player_play_soon := d_Player_play_soon, d_Player_entries := d_Player_entries, d_Player_tune := d_Player_tune, d_Player_set_again := d_Player_set_again, d_Player_set_mixed := d_Player_set_mixed, d_Player_begin := d_Player_begin, d_Player_play := d_Player_play, d_Player_resume := d_Player_resume, d_Player_pause := d_Player_pause, d_Player_next_entry := d_Player_next_entry, d_Player_skip := d_Player_skip, d_Player_back := d_Player_back, d_Player_seek := d_Player_seek, d_Player_stop_behind := d_Player_stop_behind, d_Player_sleep := d_Player_sleep, d_Player_join_long := d_Player_join_long, d_Player_step := d_Player_step, d_Player_turn_over := d_Player_turn_over, d_Player_tick := d_Player_tick, d_Player_state := d_Player_state, d_Player_sounds := d_Player_sounds, d_Player_log := d_Player_log, d_Player_ticks := d_Player_ticks, d_Player_ahead := d_Player_ahead, d_Player_twin := d_Player_twin, d_look_name := d_look_name, d_Shelf_init__ := d_Shelf_init__, d_Shelf_add := d_Shelf_add, d_Shelf_need := d_Shelf_need, d_Shelf_long := d_Shelf_long, d_Shelf_names := d_Shelf_names, d_law_cell := d_law_cell, d_law_mix := d_law_mix, d_law_draw := d_law_draw, d_law_pick := d_law_pick, d_law_shelf := d_law_shelf, d_law_made := d_law_made, d_law_begins := d_law_begins, d_law := d_law }, ?_⟩
  exact {
    z_all := He.free_ok X G (cd.fact 0 (f := .free "all") rfl),
    z_any := He.free_ok X G (cd.fact 1 (f := .free "any") rfl),
    z_dict := He.free_ok X G (cd.fact 2 (f := .free "dict") rfl),
    z_len := He.free_ok X G (cd.fact 3 (f := .free "len") rfl),
    z_list := He.free_ok X G (cd.fact 4 (f := .free "list") rfl),
    z_min := He.free_ok X G (cd.fact 5 (f := .free "min") rfl),
    z_range := He.free_ok X G (cd.fact 6 (f := .free "range") rfl),
    gi_WHEEL := He.int_ok X G (cd.fact 7 (f := .int "WHEEL" 6075) rfl),
    gi_TIMES := He.int_ok X G (cd.fact 8 (f := .int "TIMES" 106) rfl),
    gi_MORE := He.int_ok X G (cd.fact 9 (f := .int "MORE" 1283) rfl),
    gi_MOST := He.int_ok X G (cd.fact 10 (f := .int "MOST" 60) rfl),
    gi_MOST_ENTRIES := He.int_ok X G (cd.fact 11 (f := .int "MOST_ENTRIES" 12) rfl),
    gi_REPEATS := He.glo_ok X G (cd.fact 12 (f := .glo "REPEATS") rfl),
    tu_REPEATS := fun H => He.tupB_ok (hex_at cx 82 (f := hx_tu_REPEATS)) H,
    gi_MOST_OVERLAP := He.int_ok X G (cd.fact 13 (f := .int "MOST_OVERLAP" 9) rfl),
    gi_MOST_TICKS := He.int_ok X G (cd.fact 14 (f := .int "MOST_TICKS" 200) rfl),
    gi_SMALL := He.str_ok X G (cd.fact 15 (f := .str "SMALL" "abcdefghijklmnopqrstuvwxyz") rfl),
    gi_MOST_NAME := He.int_ok X G (cd.fact 16 (f := .int "MOST_NAME" 6) rfl),
    gi_MOST_TUNES := He.int_ok X G (cd.fact 17 (f := .int "MOST_TUNES" 6) rfl),
    gi_MOST_LONG := He.int_ok X G (cd.fact 18 (f := .int "MOST_LONG" 40) rfl),
    g_RoadError := He.glo_ok X G (cd.fact 19 (f := .glo "RoadError") rfl),
    g_BadTune := He.glo_ok X G (cd.fact 20 (f := .glo "BadTune") rfl),
    g_BadNumber := He.glo_ok X G (cd.fact 21 (f := .glo "BadNumber") rfl),
    g_BadEntry := He.glo_ok X G (cd.fact 22 (f := .glo "BadEntry") rfl),
    g_BadWord := He.glo_ok X G (cd.fact 23 (f := .glo "BadWord") rfl),
    g_Dice := He.glo_ok X G (cd.fact 24 (f := .glo "Dice") rfl),
    g_Queue := He.glo_ok X G (cd.fact 25 (f := .glo "Queue") rfl),
    g_Order := He.glo_ok X G (cd.fact 26 (f := .glo "Order") rfl),
    g_Player := He.glo_ok X G (cd.fact 27 (f := .glo "Player") rfl),
    g_Shelf := He.glo_ok X G (cd.fact 28 (f := .glo "Shelf") rfl),
    c_Dice := He.cls_ok (cd.fact 29 (f := .cls "Dice") rfl),
    M_Dice := He.mkr_ok (cd.fact 30 (f := .mkr "Dice") rfl),
    n_Dice_number := He.noat_ok (cd.fact 31 (f := .noat "Dice" "number") rfl),
    c_Queue := He.cls_ok (cd.fact 32 (f := .cls "Queue") rfl),
    M_Queue := He.mkr_ok (cd.fact 33 (f := .mkr "Queue") rfl),
    n_Queue_tunes := He.noat_ok (cd.fact 34 (f := .noat "Queue" "tunes") rfl),
    n_Queue_turn := He.noat_ok (cd.fact 35 (f := .noat "Queue" "turn") rfl),
    n_Queue_last := He.noat_ok (cd.fact 36 (f := .noat "Queue" "last") rfl),
    c_Order := He.cls_ok (cd.fact 37 (f := .cls "Order") rfl),
    M_Order := He.mkr_ok (cd.fact 38 (f := .mkr "Order") rfl),
    n_Order_queue := He.noat_ok (cd.fact 39 (f := .noat "Order" "queue") rfl),
    n_Order_dice := He.noat_ok (cd.fact 40 (f := .noat "Order" "dice") rfl),
    n_Order_is_mixed := He.noat_ok (cd.fact 41 (f := .noat "Order" "is_mixed") rfl),
    n_Order_again := He.noat_ok (cd.fact 42 (f := .noat "Order" "again") rfl),
    n_Order_deck := He.noat_ok (cd.fact 43 (f := .noat "Order" "deck") rfl),
    n_Order_is_gone := He.noat_ok (cd.fact 44 (f := .noat "Order" "is_gone") rfl),
    n_Order_behind := He.noat_ok (cd.fact 45 (f := .noat "Order" "behind") rfl),
    c_Player := He.cls_ok (cd.fact 46 (f := .cls "Player") rfl),
    M_Player := He.mkr_ok (cd.fact 47 (f := .mkr "Player") rfl),
    n_Player_shelf := He.noat_ok (cd.fact 48 (f := .noat "Player" "shelf") rfl),
    n_Player_overlap := He.noat_ok (cd.fact 49 (f := .noat "Player" "overlap") rfl),
    n_Player_order := He.noat_ok (cd.fact 50 (f := .noat "Player" "order") rfl),
    n_Player_time := He.noat_ok (cd.fact 51 (f := .noat "Player" "time") rfl),
    n_Player_now := He.noat_ok (cd.fact 52 (f := .noat "Player" "now") rfl),
    n_Player_spot := He.noat_ok (cd.fact 53 (f := .noat "Player" "spot") rfl),
    n_Player_old := He.noat_ok (cd.fact 54 (f := .noat "Player" "old") rfl),
    n_Player_soon := He.noat_ok (cd.fact 55 (f := .noat "Player" "soon") rfl),
    n_Player_past := He.noat_ok (cd.fact 56 (f := .noat "Player" "past") rfl),
    n_Player_rows := He.noat_ok (cd.fact 57 (f := .noat "Player" "rows") rfl),
    n_Player_is_playing := He.noat_ok (cd.fact 58 (f := .noat "Player" "is_playing") rfl),
    n_Player_stops := He.noat_ok (cd.fact 59 (f := .noat "Player" "stops") rfl),
    n_Player_sleep_left := He.noat_ok (cd.fact 60 (f := .noat "Player" "sleep_left") rfl),
    c_Shelf := He.cls_ok (cd.fact 61 (f := .cls "Shelf") rfl),
    M_Shelf := He.mkr_ok (cd.fact 62 (f := .mkr "Shelf") rfl),
    n_Shelf_longs := He.noat_ok (cd.fact 63 (f := .noat "Shelf" "longs") rfl),
    x_RoadError := (hex_at cx 0 (f := hx_x_RoadError)),
    k_RoadError := (hex_at cx 1 (f := hx_k_RoadError)),
    r_RoadError := (of_decide_eq_true (hex_at cx 2 (f := hx_r_RoadError))),
    t_RoadError := (of_decide_eq_true (hex_at cx 3 (f := hx_t_RoadError))),
    e_RoadError := ⟨(of_decide_eq_true (hex_at cx 4 (f := hx_e_RoadError_hg))), (of_decide_eq_true (hex_at cx 5 (f := hx_e_RoadError_hk))), (of_decide_eq_true (hex_at cx 2 (f := hx_r_RoadError))), (hex_at cx 6 (f := hx_e_RoadError_hd)), (of_decide_eq_true (hex_at cx 7 (f := hx_e_RoadError_ha))), (of_decide_eq_true (hex_at cx 80 (f := hx_e_hn))), (of_decide_eq_true (hex_at cx 81 (f := hx_e_ht))), (of_decide_eq_true (hex_at cx 8 (f := hx_e_RoadError_hm)))⟩,
    m_RoadError := (of_decide_eq_true (hex_at cx 9 (f := hx_m_RoadError))),
    i_RoadError_RoadError := (of_decide_eq_true (hex_at cx 10 (f := hx_i_RoadError_RoadError))),
    i_RoadError_BadTune := (of_decide_eq_true (hex_at cx 11 (f := hx_i_RoadError_BadTune))),
    i_RoadError_BadNumber := (of_decide_eq_true (hex_at cx 12 (f := hx_i_RoadError_BadNumber))),
    i_RoadError_BadEntry := (of_decide_eq_true (hex_at cx 13 (f := hx_i_RoadError_BadEntry))),
    i_RoadError_BadWord := (of_decide_eq_true (hex_at cx 14 (f := hx_i_RoadError_BadWord))),
    i_RoadError_ValueError := (of_decide_eq_true (hex_at cx 15 (f := hx_i_RoadError_ValueError))),
    x_BadTune := (hex_at cx 16 (f := hx_x_BadTune)),
    k_BadTune := (hex_at cx 17 (f := hx_k_BadTune)),
    r_BadTune := (of_decide_eq_true (hex_at cx 18 (f := hx_r_BadTune))),
    t_BadTune := (of_decide_eq_true (hex_at cx 19 (f := hx_t_BadTune))),
    e_BadTune := ⟨(of_decide_eq_true (hex_at cx 20 (f := hx_e_BadTune_hg))), (of_decide_eq_true (hex_at cx 21 (f := hx_e_BadTune_hk))), (of_decide_eq_true (hex_at cx 18 (f := hx_r_BadTune))), (hex_at cx 22 (f := hx_e_BadTune_hd)), (of_decide_eq_true (hex_at cx 23 (f := hx_e_BadTune_ha))), (of_decide_eq_true (hex_at cx 80 (f := hx_e_hn))), (of_decide_eq_true (hex_at cx 81 (f := hx_e_ht))), (of_decide_eq_true (hex_at cx 24 (f := hx_e_BadTune_hm)))⟩,
    m_BadTune := (of_decide_eq_true (hex_at cx 25 (f := hx_m_BadTune))),
    i_BadTune_RoadError := (of_decide_eq_true (hex_at cx 26 (f := hx_i_BadTune_RoadError))),
    i_BadTune_BadTune := (of_decide_eq_true (hex_at cx 27 (f := hx_i_BadTune_BadTune))),
    i_BadTune_BadNumber := (of_decide_eq_true (hex_at cx 28 (f := hx_i_BadTune_BadNumber))),
    i_BadTune_BadEntry := (of_decide_eq_true (hex_at cx 29 (f := hx_i_BadTune_BadEntry))),
    i_BadTune_BadWord := (of_decide_eq_true (hex_at cx 30 (f := hx_i_BadTune_BadWord))),
    i_BadTune_ValueError := (of_decide_eq_true (hex_at cx 31 (f := hx_i_BadTune_ValueError))),
    x_BadNumber := (hex_at cx 32 (f := hx_x_BadNumber)),
    k_BadNumber := (hex_at cx 33 (f := hx_k_BadNumber)),
    r_BadNumber := (of_decide_eq_true (hex_at cx 34 (f := hx_r_BadNumber))),
    t_BadNumber := (of_decide_eq_true (hex_at cx 35 (f := hx_t_BadNumber))),
    e_BadNumber := ⟨(of_decide_eq_true (hex_at cx 36 (f := hx_e_BadNumber_hg))), (of_decide_eq_true (hex_at cx 37 (f := hx_e_BadNumber_hk))), (of_decide_eq_true (hex_at cx 34 (f := hx_r_BadNumber))), (hex_at cx 38 (f := hx_e_BadNumber_hd)), (of_decide_eq_true (hex_at cx 39 (f := hx_e_BadNumber_ha))), (of_decide_eq_true (hex_at cx 80 (f := hx_e_hn))), (of_decide_eq_true (hex_at cx 81 (f := hx_e_ht))), (of_decide_eq_true (hex_at cx 40 (f := hx_e_BadNumber_hm)))⟩,
    m_BadNumber := (of_decide_eq_true (hex_at cx 41 (f := hx_m_BadNumber))),
    i_BadNumber_RoadError := (of_decide_eq_true (hex_at cx 42 (f := hx_i_BadNumber_RoadError))),
    i_BadNumber_BadTune := (of_decide_eq_true (hex_at cx 43 (f := hx_i_BadNumber_BadTune))),
    i_BadNumber_BadNumber := (of_decide_eq_true (hex_at cx 44 (f := hx_i_BadNumber_BadNumber))),
    i_BadNumber_BadEntry := (of_decide_eq_true (hex_at cx 45 (f := hx_i_BadNumber_BadEntry))),
    i_BadNumber_BadWord := (of_decide_eq_true (hex_at cx 46 (f := hx_i_BadNumber_BadWord))),
    i_BadNumber_ValueError := (of_decide_eq_true (hex_at cx 47 (f := hx_i_BadNumber_ValueError))),
    x_BadEntry := (hex_at cx 48 (f := hx_x_BadEntry)),
    k_BadEntry := (hex_at cx 49 (f := hx_k_BadEntry)),
    r_BadEntry := (of_decide_eq_true (hex_at cx 50 (f := hx_r_BadEntry))),
    t_BadEntry := (of_decide_eq_true (hex_at cx 51 (f := hx_t_BadEntry))),
    e_BadEntry := ⟨(of_decide_eq_true (hex_at cx 52 (f := hx_e_BadEntry_hg))), (of_decide_eq_true (hex_at cx 53 (f := hx_e_BadEntry_hk))), (of_decide_eq_true (hex_at cx 50 (f := hx_r_BadEntry))), (hex_at cx 54 (f := hx_e_BadEntry_hd)), (of_decide_eq_true (hex_at cx 55 (f := hx_e_BadEntry_ha))), (of_decide_eq_true (hex_at cx 80 (f := hx_e_hn))), (of_decide_eq_true (hex_at cx 81 (f := hx_e_ht))), (of_decide_eq_true (hex_at cx 56 (f := hx_e_BadEntry_hm)))⟩,
    m_BadEntry := (of_decide_eq_true (hex_at cx 57 (f := hx_m_BadEntry))),
    i_BadEntry_RoadError := (of_decide_eq_true (hex_at cx 58 (f := hx_i_BadEntry_RoadError))),
    i_BadEntry_BadTune := (of_decide_eq_true (hex_at cx 59 (f := hx_i_BadEntry_BadTune))),
    i_BadEntry_BadNumber := (of_decide_eq_true (hex_at cx 60 (f := hx_i_BadEntry_BadNumber))),
    i_BadEntry_BadEntry := (of_decide_eq_true (hex_at cx 61 (f := hx_i_BadEntry_BadEntry))),
    i_BadEntry_BadWord := (of_decide_eq_true (hex_at cx 62 (f := hx_i_BadEntry_BadWord))),
    i_BadEntry_ValueError := (of_decide_eq_true (hex_at cx 63 (f := hx_i_BadEntry_ValueError))),
    x_BadWord := (hex_at cx 64 (f := hx_x_BadWord)),
    k_BadWord := (hex_at cx 65 (f := hx_k_BadWord)),
    r_BadWord := (of_decide_eq_true (hex_at cx 66 (f := hx_r_BadWord))),
    t_BadWord := (of_decide_eq_true (hex_at cx 67 (f := hx_t_BadWord))),
    e_BadWord := ⟨(of_decide_eq_true (hex_at cx 68 (f := hx_e_BadWord_hg))), (of_decide_eq_true (hex_at cx 69 (f := hx_e_BadWord_hk))), (of_decide_eq_true (hex_at cx 66 (f := hx_r_BadWord))), (hex_at cx 70 (f := hx_e_BadWord_hd)), (of_decide_eq_true (hex_at cx 71 (f := hx_e_BadWord_ha))), (of_decide_eq_true (hex_at cx 80 (f := hx_e_hn))), (of_decide_eq_true (hex_at cx 81 (f := hx_e_ht))), (of_decide_eq_true (hex_at cx 72 (f := hx_e_BadWord_hm)))⟩,
    m_BadWord := (of_decide_eq_true (hex_at cx 73 (f := hx_m_BadWord))),
    i_BadWord_RoadError := (of_decide_eq_true (hex_at cx 74 (f := hx_i_BadWord_RoadError))),
    i_BadWord_BadTune := (of_decide_eq_true (hex_at cx 75 (f := hx_i_BadWord_BadTune))),
    i_BadWord_BadNumber := (of_decide_eq_true (hex_at cx 76 (f := hx_i_BadWord_BadNumber))),
    i_BadWord_BadEntry := (of_decide_eq_true (hex_at cx 77 (f := hx_i_BadWord_BadEntry))),
    i_BadWord_BadWord := (of_decide_eq_true (hex_at cx 78 (f := hx_i_BadWord_BadWord))),
    i_BadWord_ValueError := (of_decide_eq_true (hex_at cx 79 (f := hx_i_BadWord_ValueError))),
    F_wall := fun_of F_wall,
    b_wall := FunD.bindsN F_wall (fun _ _ _ _ _ _ us hl => match us, hl with | [_], _ => rfl),
    g_wall := He.glo_ok X G (cd.fact 64 (f := .glo "_wall") rfl),
    k_wall := F_wall.kp,
    F_Dice_init__ := fun_of F_Dice_init__,
    b_Dice_init__ := FunD.bindsN F_Dice_init__ (fun _ _ _ _ _ _ us hl => match us, hl with | [_, _], _ => rfl),
    m_Dice_init__ := He.meth_ok (cd.fact 65 (f := .meth "Dice" "__init__") rfl),
    F_Dice_below := fun_of F_Dice_below,
    b_Dice_below := FunD.bindsN F_Dice_below (fun _ _ _ _ _ _ us hl => match us, hl with | [_, _], _ => rfl),
    m_Dice_below := He.meth_ok (cd.fact 66 (f := .meth "Dice" "below") rfl),
    F_Dice_twin := fun_of F_Dice_twin,
    b_Dice_twin := FunD.bindsN F_Dice_twin (fun _ _ _ _ _ _ us hl => match us, hl with | [_], _ => rfl),
    m_Dice_twin := He.meth_ok (cd.fact 67 (f := .meth "Dice" "twin") rfl),
    F_mixed := fun_of F_mixed,
    b_mixed := FunD.bindsN F_mixed (fun _ _ _ _ _ _ us hl => match us, hl with | [_, _], _ => rfl),
    g_mixed := He.glo_ok X G (cd.fact 68 (f := .glo "mixed") rfl),
    k_mixed := F_mixed.kp,
    F_Queue_init__ := fun_of F_Queue_init__,
    b_Queue_init__ := FunD.bindsN F_Queue_init__ (fun _ _ _ _ _ _ us hl => match us, hl with | [_], _ => rfl),
    m_Queue_init__ := He.meth_ok (cd.fact 69 (f := .meth "Queue" "__init__") rfl),
    F_Queue_entries := fun_of F_Queue_entries,
    b_Queue_entries := FunD.bindsN F_Queue_entries (fun _ _ _ _ _ _ us hl => match us, hl with | [_], _ => rfl),
    m_Queue_entries := He.meth_ok (cd.fact 70 (f := .meth "Queue" "entries") rfl),
    F_Queue_need := fun_of F_Queue_need,
    b_Queue_need := FunD.bindsN F_Queue_need (fun _ _ _ _ _ _ us hl => match us, hl with | [_, _], _ => rfl),
    m_Queue_need := He.meth_ok (cd.fact 71 (f := .meth "Queue" "need") rfl),
    F_Queue_tune := fun_of F_Queue_tune,
    b_Queue_tune := FunD.bindsN F_Queue_tune (fun _ _ _ _ _ _ us hl => match us, hl with | [_, _], _ => rfl),
    m_Queue_tune := He.meth_ok (cd.fact 72 (f := .meth "Queue" "tune") rfl),
    F_Queue_put := fun_of F_Queue_put,
    b_Queue_put := FunD.bindsN F_Queue_put (fun _ _ _ _ _ _ us hl => match us, hl with | [_, _, _], _ => rfl),
    m_Queue_put := He.meth_ok (cd.fact 73 (f := .meth "Queue" "put") rfl),
    F_Queue_remove := fun_of F_Queue_remove,
    b_Queue_remove := FunD.bindsN F_Queue_remove (fun _ _ _ _ _ _ us hl => match us, hl with | [_, _], _ => rfl),
    m_Queue_remove := He.meth_ok (cd.fact 74 (f := .meth "Queue" "remove") rfl),
    F_Queue_move := fun_of F_Queue_move,
    b_Queue_move := FunD.bindsN F_Queue_move (fun _ _ _ _ _ _ us hl => match us, hl with | [_, _, _], _ => rfl),
    m_Queue_move := He.meth_ok (cd.fact 75 (f := .meth "Queue" "move") rfl),
    F_Queue_place := fun_of F_Queue_place,
    b_Queue_place := FunD.bindsN F_Queue_place (fun _ _ _ _ _ _ us hl => match us, hl with | [_, _], _ => rfl),
    m_Queue_place := He.meth_ok (cd.fact 76 (f := .meth "Queue" "place") rfl),
    F_Queue_twin := fun_of F_Queue_twin,
    b_Queue_twin := FunD.bindsN F_Queue_twin (fun _ _ _ _ _ _ us hl => match us, hl with | [_], _ => rfl),
    m_Queue_twin := He.meth_ok (cd.fact 77 (f := .meth "Queue" "twin") rfl),
    F_Order_init__ := fun_of F_Order_init__,
    b_Order_init__ := FunD.bindsN F_Order_init__ (fun _ _ _ _ _ _ us hl => match us, hl with | [_, _], _ => rfl),
    m_Order_init__ := He.meth_ok (cd.fact 78 (f := .meth "Order" "__init__") rfl),
    F_Order_set_again := fun_of F_Order_set_again,
    b_Order_set_again := FunD.bindsN F_Order_set_again (fun _ _ _ _ _ _ us hl => match us, hl with | [_, _], _ => rfl),
    m_Order_set_again := He.meth_ok (cd.fact 79 (f := .meth "Order" "set_again") rfl),
    F_Order_set_mixed := fun_of F_Order_set_mixed,
    b_Order_set_mixed := FunD.bindsN F_Order_set_mixed (fun _ _ _ _ _ _ us hl => match us, hl with | [_, _, _], _ => rfl),
    m_Order_set_mixed := He.meth_ok (cd.fact 80 (f := .meth "Order" "set_mixed") rfl),
    F_Order_put := fun_of F_Order_put,
    b_Order_put := FunD.bindsN F_Order_put (fun _ _ _ _ _ _ us hl => match us, hl with | [_, _, _], _ => rfl),
    m_Order_put := He.meth_ok (cd.fact 81 (f := .meth "Order" "put") rfl),
    F_Order_remove := fun_of F_Order_remove,
    b_Order_remove := FunD.bindsN F_Order_remove (fun _ _ _ _ _ _ us hl => match us, hl with | [_, _, _], _ => rfl),
    m_Order_remove := He.meth_ok (cd.fact 82 (f := .meth "Order" "remove") rfl),
    F_Order_next_plain := fun_of F_Order_next_plain,
    b_Order_next_plain := FunD.bindsN F_Order_next_plain (fun _ _ _ _ _ _ us hl => match us, hl with | [_, _], _ => rfl),
    m_Order_next_plain := He.meth_ok (cd.fact 83 (f := .meth "Order" "next_plain") rfl),
    F_Order_next_mixed := fun_of F_Order_next_mixed,
    b_Order_next_mixed := FunD.bindsN F_Order_next_mixed (fun _ _ _ _ _ _ us hl => match us, hl with | [_, _], _ => rfl),
    m_Order_next_mixed := He.meth_ok (cd.fact 84 (f := .meth "Order" "next_mixed") rfl),
    F_Order_after := fun_of F_Order_after,
    b_Order_after := FunD.bindsN F_Order_after (fun _ _ _ _ _ _ us hl => match us, hl with | [_, _], _ => rfl),
    m_Order_after := He.meth_ok (cd.fact 85 (f := .meth "Order" "after") rfl),
    F_Order_skip := fun_of F_Order_skip,
    b_Order_skip := FunD.bindsN F_Order_skip (fun _ _ _ _ _ _ us hl => match us, hl with | [_, _], _ => rfl),
    m_Order_skip := He.meth_ok (cd.fact 86 (f := .meth "Order" "skip") rfl),
    F_Order_first := fun_of F_Order_first,
    b_Order_first := FunD.bindsN F_Order_first (fun _ _ _ _ _ _ us hl => match us, hl with | [_], _ => rfl),
    m_Order_first := He.meth_ok (cd.fact 87 (f := .meth "Order" "first") rfl),
    F_Order_began := fun_of F_Order_began,
    b_Order_began := FunD.bindsN F_Order_began (fun _ _ _ _ _ _ us hl => match us, hl with | [_, _], _ => rfl),
    m_Order_began := He.meth_ok (cd.fact 88 (f := .meth "Order" "began") rfl),
    F_Order_twin := fun_of F_Order_twin,
    b_Order_twin := FunD.bindsN F_Order_twin (fun _ _ _ _ _ _ us hl => match us, hl with | [_], _ => rfl),
    m_Order_twin := He.meth_ok (cd.fact 89 (f := .meth "Order" "twin") rfl),
    F_Player_init__ := fun_of F_Player_init__,
    b_Player_init__ := FunD.bindsN F_Player_init__ (fun _ _ _ _ _ _ us hl => match us, hl with | [_, _, _, _], _ => rfl),
    m_Player_init__ := He.meth_ok (cd.fact 90 (f := .meth "Player" "__init__") rfl),
    F_Player_long := fun_of F_Player_long,
    b_Player_long := FunD.bindsN F_Player_long (fun _ _ _ _ _ _ us hl => match us, hl with | [_, _], _ => rfl),
    m_Player_long := He.meth_ok (cd.fact 91 (f := .meth "Player" "long") rfl),
    F_Player_add := fun_of F_Player_add,
    b_Player_add := FunD.bindsN F_Player_add (fun _ _ _ _ _ _ us hl => match us, hl with | [_, _, _], _ => rfl),
    m_Player_add := He.meth_ok (cd.fact 92 (f := .meth "Player" "add") rfl),
    F_Player_remove := fun_of F_Player_remove,
    b_Player_remove := FunD.bindsN F_Player_remove (fun _ _ _ _ _ _ us hl => match us, hl with | [_, _], _ => rfl),
    m_Player_remove := He.meth_ok (cd.fact 93 (f := .meth "Player" "remove") rfl),
    F_Player_move := fun_of F_Player_move,
    b_Player_move := FunD.bindsN F_Player_move (fun _ _ _ _ _ _ us hl => match us, hl with | [_, _, _], _ => rfl),
    m_Player_move := He.meth_ok (cd.fact 94 (f := .meth "Player" "move") rfl),
    F_Player_play_soon := fun_of F_Player_play_soon,
    b_Player_play_soon := FunD.bindsN F_Player_play_soon (fun _ _ _ _ _ _ us hl => match us, hl with | [_, _], _ => rfl),
    m_Player_play_soon := He.meth_ok (cd.fact 95 (f := .meth "Player" "play_soon") rfl),
    F_Player_entries := fun_of F_Player_entries,
    b_Player_entries := FunD.bindsN F_Player_entries (fun _ _ _ _ _ _ us hl => match us, hl with | [_], _ => rfl),
    m_Player_entries := He.meth_ok (cd.fact 96 (f := .meth "Player" "entries") rfl),
    F_Player_tune := fun_of F_Player_tune,
    b_Player_tune := FunD.bindsN F_Player_tune (fun _ _ _ _ _ _ us hl => match us, hl with | [_, _], _ => rfl),
    m_Player_tune := He.meth_ok (cd.fact 97 (f := .meth "Player" "tune") rfl),
    F_Player_set_again := fun_of F_Player_set_again,
    b_Player_set_again := FunD.bindsN F_Player_set_again (fun _ _ _ _ _ _ us hl => match us, hl with | [_, _], _ => rfl),
    m_Player_set_again := He.meth_ok (cd.fact 98 (f := .meth "Player" "set_again") rfl),
    F_Player_set_mixed := fun_of F_Player_set_mixed,
    b_Player_set_mixed := FunD.bindsN F_Player_set_mixed (fun _ _ _ _ _ _ us hl => match us, hl with | [_, _], _ => rfl),
    m_Player_set_mixed := He.meth_ok (cd.fact 99 (f := .meth "Player" "set_mixed") rfl),
    F_Player_begin := fun_of F_Player_begin,
    b_Player_begin := FunD.bindsN F_Player_begin (fun _ _ _ _ _ _ us hl => match us, hl with | [_, _, _], _ => rfl),
    m_Player_begin := He.meth_ok (cd.fact 100 (f := .meth "Player" "begin") rfl),
    F_Player_play := fun_of F_Player_play,
    b_Player_play := FunD.bindsN F_Player_play (fun _ _ _ _ _ _ us hl => match us, hl with | [_, _], _ => rfl),
    m_Player_play := He.meth_ok (cd.fact 101 (f := .meth "Player" "play") rfl),
    F_Player_resume := fun_of F_Player_resume,
    b_Player_resume := FunD.bindsN F_Player_resume (fun _ _ _ _ _ _ us hl => match us, hl with | [_], _ => rfl),
    m_Player_resume := He.meth_ok (cd.fact 102 (f := .meth "Player" "resume") rfl),
    F_Player_pause := fun_of F_Player_pause,
    b_Player_pause := FunD.bindsN F_Player_pause (fun _ _ _ _ _ _ us hl => match us, hl with | [_], _ => rfl),
    m_Player_pause := He.meth_ok (cd.fact 103 (f := .meth "Player" "pause") rfl),
    F_Player_next_entry := fun_of F_Player_next_entry,
    b_Player_next_entry := FunD.bindsN F_Player_next_entry (fun _ _ _ _ _ _ us hl => match us, hl with | [_, _], _ => rfl),
    m_Player_next_entry := He.meth_ok (cd.fact 104 (f := .meth "Player" "next_entry") rfl),
    F_Player_skip := fun_of F_Player_skip,
    b_Player_skip := FunD.bindsN F_Player_skip (fun _ _ _ _ _ _ us hl => match us, hl with | [_], _ => rfl),
    m_Player_skip := He.meth_ok (cd.fact 105 (f := .meth "Player" "skip") rfl),
    F_Player_back := fun_of F_Player_back,
    b_Player_back := FunD.bindsN F_Player_back (fun _ _ _ _ _ _ us hl => match us, hl with | [_], _ => rfl),
    m_Player_back := He.meth_ok (cd.fact 106 (f := .meth "Player" "back") rfl),
    F_Player_seek := fun_of F_Player_seek,
    b_Player_seek := FunD.bindsN F_Player_seek (fun _ _ _ _ _ _ us hl => match us, hl with | [_, _], _ => rfl),
    m_Player_seek := He.meth_ok (cd.fact 107 (f := .meth "Player" "seek") rfl),
    F_Player_stop_behind := fun_of F_Player_stop_behind,
    b_Player_stop_behind := FunD.bindsN F_Player_stop_behind (fun _ _ _ _ _ _ us hl => match us, hl with | [_, _], _ => rfl),
    m_Player_stop_behind := He.meth_ok (cd.fact 108 (f := .meth "Player" "stop_behind") rfl),
    F_Player_sleep := fun_of F_Player_sleep,
    b_Player_sleep := FunD.bindsN F_Player_sleep (fun _ _ _ _ _ _ us hl => match us, hl with | [_, _], _ => rfl),
    m_Player_sleep := He.meth_ok (cd.fact 109 (f := .meth "Player" "sleep") rfl),
    F_Player_join_long := fun_of F_Player_join_long,
    b_Player_join_long := FunD.bindsN F_Player_join_long (fun _ _ _ _ _ _ us hl => match us, hl with | [_, _], _ => rfl),
    m_Player_join_long := He.meth_ok (cd.fact 110 (f := .meth "Player" "join_long") rfl),
    F_Player_step := fun_of F_Player_step,
    b_Player_step := FunD.bindsN F_Player_step (fun _ _ _ _ _ _ us hl => match us, hl with | [_], _ => rfl),
    m_Player_step := He.meth_ok (cd.fact 111 (f := .meth "Player" "step") rfl),
    F_Player_turn_over := fun_of F_Player_turn_over,
    b_Player_turn_over := FunD.bindsN F_Player_turn_over (fun _ _ _ _ _ _ us hl => match us, hl with | [_], _ => rfl),
    m_Player_turn_over := He.meth_ok (cd.fact 112 (f := .meth "Player" "turn_over") rfl),
    F_Player_tick := fun_of F_Player_tick,
    b_Player_tick := FunD.bindsN F_Player_tick (fun _ _ _ _ _ _ us hl => match us, hl with | [_, _], _ => rfl),
    m_Player_tick := He.meth_ok (cd.fact 113 (f := .meth "Player" "tick") rfl),
    F_Player_state := fun_of F_Player_state,
    b_Player_state := FunD.bindsN F_Player_state (fun _ _ _ _ _ _ us hl => match us, hl with | [_], _ => rfl),
    m_Player_state := He.meth_ok (cd.fact 114 (f := .meth "Player" "state") rfl),
    F_Player_sounds := fun_of F_Player_sounds,
    b_Player_sounds := FunD.bindsN F_Player_sounds (fun _ _ _ _ _ _ us hl => match us, hl with | [_], _ => rfl),
    m_Player_sounds := He.meth_ok (cd.fact 115 (f := .meth "Player" "sounds") rfl),
    F_Player_log := fun_of F_Player_log,
    b_Player_log := FunD.bindsN F_Player_log (fun _ _ _ _ _ _ us hl => match us, hl with | [_], _ => rfl),
    m_Player_log := He.meth_ok (cd.fact 116 (f := .meth "Player" "log") rfl),
    F_Player_ticks := fun_of F_Player_ticks,
    b_Player_ticks := FunD.bindsN F_Player_ticks (fun _ _ _ _ _ _ us hl => match us, hl with | [_], _ => rfl),
    m_Player_ticks := He.meth_ok (cd.fact 117 (f := .meth "Player" "ticks") rfl),
    F_Player_ahead := fun_of F_Player_ahead,
    b_Player_ahead := FunD.bindsN F_Player_ahead (fun _ _ _ _ _ _ us hl => match us, hl with | [_, _], _ => rfl),
    m_Player_ahead := He.meth_ok (cd.fact 118 (f := .meth "Player" "ahead") rfl),
    F_Player_twin := fun_of F_Player_twin,
    b_Player_twin := FunD.bindsN F_Player_twin (fun _ _ _ _ _ _ us hl => match us, hl with | [_], _ => rfl),
    m_Player_twin := He.meth_ok (cd.fact 119 (f := .meth "Player" "twin") rfl),
    F_look_name := fun_of F_look_name,
    b_look_name := FunD.bindsN F_look_name (fun _ _ _ _ _ _ us hl => match us, hl with | [_], _ => rfl),
    g_look_name := He.glo_ok X G (cd.fact 120 (f := .glo "look_name") rfl),
    k_look_name := F_look_name.kp,
    F_Shelf_init__ := fun_of F_Shelf_init__,
    b_Shelf_init__ := FunD.bindsN F_Shelf_init__ (fun _ _ _ _ _ _ us hl => match us, hl with | [_], _ => rfl),
    m_Shelf_init__ := He.meth_ok (cd.fact 121 (f := .meth "Shelf" "__init__") rfl),
    F_Shelf_add := fun_of F_Shelf_add,
    b_Shelf_add := FunD.bindsN F_Shelf_add (fun _ _ _ _ _ _ us hl => match us, hl with | [_, _, _], _ => rfl),
    m_Shelf_add := He.meth_ok (cd.fact 122 (f := .meth "Shelf" "add") rfl),
    F_Shelf_need := fun_of F_Shelf_need,
    b_Shelf_need := FunD.bindsN F_Shelf_need (fun _ _ _ _ _ _ us hl => match us, hl with | [_, _], _ => rfl),
    m_Shelf_need := He.meth_ok (cd.fact 123 (f := .meth "Shelf" "need") rfl),
    F_Shelf_long := fun_of F_Shelf_long,
    b_Shelf_long := FunD.bindsN F_Shelf_long (fun _ _ _ _ _ _ us hl => match us, hl with | [_, _], _ => rfl),
    m_Shelf_long := He.meth_ok (cd.fact 124 (f := .meth "Shelf" "long") rfl),
    F_Shelf_names := fun_of F_Shelf_names,
    b_Shelf_names := FunD.bindsN F_Shelf_names (fun _ _ _ _ _ _ us hl => match us, hl with | [_], _ => rfl),
    m_Shelf_names := He.meth_ok (cd.fact 125 (f := .meth "Shelf" "names") rfl),
    F_law_cell := fun_of F_law_cell,
    b_law_cell := FunD.bindsN F_law_cell (fun _ _ _ _ _ _ us hl => match us, hl with | [_, _], _ => rfl),
    g_law_cell := He.glo_ok X G (cd.fact 126 (f := .glo "_law_cell") rfl),
    k_law_cell := F_law_cell.kp,
    F_law_mix := fun_of F_law_mix,
    b_law_mix := FunD.bindsN F_law_mix (fun _ _ _ _ _ _ us hl => match us, hl with | [_, _], _ => rfl),
    g_law_mix := He.glo_ok X G (cd.fact 127 (f := .glo "_law_mix") rfl),
    k_law_mix := F_law_mix.kp,
    F_law_draw := fun_of F_law_draw,
    b_law_draw := FunD.bindsN F_law_draw (fun _ _ _ _ _ _ us hl => match us, hl with | [_, _, _], _ => rfl),
    g_law_draw := He.glo_ok X G (cd.fact 128 (f := .glo "_law_draw") rfl),
    k_law_draw := F_law_draw.kp,
    F_law_pick := fun_of F_law_pick,
    b_law_pick := FunD.bindsN F_law_pick (fun _ _ _ _ _ _ us hl => match us, hl with | [_, _, _], _ => rfl),
    g_law_pick := He.glo_ok X G (cd.fact 129 (f := .glo "_law_pick") rfl),
    k_law_pick := F_law_pick.kp,
    F_law_shelf := fun_of F_law_shelf,
    b_law_shelf := FunD.bindsN F_law_shelf (fun _ _ _ _ _ _ us hl => match us, hl with | [_, _], _ => rfl),
    g_law_shelf := He.glo_ok X G (cd.fact 130 (f := .glo "_law_shelf") rfl),
    k_law_shelf := F_law_shelf.kp,
    F_law_made := fun_of F_law_made,
    b_law_made := FunD.bindsN F_law_made (fun _ _ _ _ _ _ us hl => match us, hl with | [_], _ => rfl),
    g_law_made := He.glo_ok X G (cd.fact 131 (f := .glo "_law_made") rfl),
    k_law_made := F_law_made.kp,
    F_law_begins := fun_of F_law_begins,
    b_law_begins := FunD.bindsN F_law_begins (fun _ _ _ _ _ _ us hl => match us, hl with | [_, _, _, _], _ => rfl),
    g_law_begins := He.glo_ok X G (cd.fact 132 (f := .glo "_law_begins") rfl),
    k_law_begins := F_law_begins.kp,
    F_law := fun_of F_law,
    b_law := FunD.bindsN F_law (fun _ _ _ _ _ _ us hl => match us, hl with | [_], _ => rfl),
    g_law := He.glo_ok X G (cd.fact 133 (f := .glo "law") rfl),
    k_law := F_law.kp }
end TR
open PySem PySem.W PySem.Calls PyProof.Rows in
set_option maxRecDepth 100000 in
set_option maxHeartbeats 0 in
theorem PySem.Challenge.cw_tuneroad_k33_whole_sounds_holds : PySem.Challenge.rw_tuneroad_k33_whole_sounds.Holds := by
  w_on; o_law
  refine HandSHeadRun.head_any (r := OpenLaw.row PySem.Challenge.rw_tuneroad_k33_whole_sounds) (q := view (OpenLaw.row PySem.Challenge.rw_tuneroad_k33_whole_sounds).prog [39]) (H := TR.hhk) (ob := TR.hob) (M := 20000) (loose := TR.hnm) (d := HandSHeadRun.topDef (OpenLaw.row PySem.Challenge.rw_tuneroad_k33_whole_sounds).prog 39) (kwd := []) TR.hob_eq
    (by kernel_rfl) (fun s => by kernel_rfl) TR.hrun (by kernel_rfl) (by kernel_rfl) (by kernel_rfl) (by rfl) (by first | assumption | decide +kernel) (by decide +kernel) ⟨rfl, rfl, rfl, rfl, rfl, by decide +kernel⟩ ?hw ?hc
  case hw => w_witness2
  case hc =>
    refine TR.law_end (l := PySem.Challenge.rw_tuneroad_k33_whole_sounds) (n := 63) (k := 11) (x := "script") rfl (by decide) (by kernel_rfl) ⟨rfl, by decide, by decide⟩ ?F
    intro w mg fa h Y G hmg0
    obtain ⟨K, KX, c⟩ := Y
    have hmg : mg ("law" : PySem.Str) = some (.ref fa) := by
      have e : (HandSHeadRun.topDef (OpenLaw.row PySem.Challenge.rw_tuneroad_k33_whole_sounds).prog 39).name = ("law" : PySem.Str) := by kernel_rfl
      rw [← e]
      exact hmg0
    obtain ⟨A, T⟩ := TR.txt_of KX G c
    have e := hmg.symm.trans T.g_law
    cases e
    exact ⟨K, A.d_law, TR.sp_law K, KX, fun s v => TR.binds1 T.F_law (fun _ _ _ _ _ _ us hl => match us, hl with | [_], _ => rfl) s v, fun H a ns hl hO hS => TR.law_pre hl hO hS, fun base _ _ => TR.ok_law T⟩

