import PyProof.Rows.All
import Wide.All
import OpenK.AllK
import Wide.FinOn
import HandS.ForMost
import HandS.ForExc
import HandS.More
import HandS.Flow
import HandS.Style
import HandS.SetFor
import HandS.ExcIs
import HandS.ExcValue
import HandS.CallSlots
import HandS.Defaults
import HandS.Conv
import HandS.Zip
import HandS.IsInst
import HandS.Head0
import HandS.Head1
import HandS.Head2
import HandS.HeadEnd
import HandS.HeadHook1
import HandS.HeadHook2
import HandS.HeadHook3
import HandS.HeadHook4
import PySem.Challenge.RW_tuneroad_k02_whole_dice
set_option Elab.async false
set_option linter.all false
set_option maxRecDepth 100000
set_option maxHeartbeats 4000000
/-! TR: the ledger W (what is tracked at which address, no address twice; the tuples of H0 stand), readings that stop the walk, steps over them. -/
namespace TR
open PySem L2
abbrev Ent := Addr × HO
def isTup : HO → Bool
  | .tup _ => true
  | _ => false
structure W (H0 H : Hp) (L : List Ent) : Prop where
  nd : (L.map (·.1)).Nodup
  is_ : ∀ x ∈ L, H x.1 = some x.2
  tp : ∀ a xs, H0 a = some (.tup xs) → H a = some (.tup xs)
section
variable {H0 H H1 H' : Hp} {L L' R : List Ent} {p q : Addr} {o o' : HO} {i j : Nat}
theorem W.get (w : W H0 H L) (i : Nat) (h : L[i]? = some (p, o)) : H p = some o := w.is_ (p, o) (List.mem_of_getElem? h)
theorem W.now (w : W H0 H L) : W H H L := ⟨w.nd, w.is_, fun _ _ e => e⟩
theorem W.tr (w : W H0 H L) (v : W H H' L') : W H0 H' L' := ⟨v.nd, v.is_, fun a xs e => v.tp a xs (w.tp a xs e)⟩
theorem nd_get {α : Type} {l : List α} (hN : l.Nodup) {i j : Nat} {x : α} (a : l[i]? = some x) (b : l[j]? = some x) : i = j := by
  obtain ⟨h1, e1⟩ := List.getElem?_eq_some_iff.mp a
  obtain ⟨h2, e2⟩ := List.getElem?_eq_some_iff.mp b
  exact (List.getElem_inj hN).mp (e1.trans e2.symm)
theorem map_set_fst : ∀ (L : List Ent) (i : Nat) (p : Addr) (o o' : HO), L[i]? = some (p, o) → (L.set i (p, o')).map (·.1) = L.map (·.1)
  | [], _, _, _, _, h => by simp at h
  | x :: L, 0, p, o, o', h => by
    have e : x = (p, o) := Option.some.inj h
    subst e; rfl
  | x :: L, i + 1, p, o, o', h => by
    show x.1 :: (L.set i (p, o')).map (·.1) = x.1 :: L.map (·.1)
    rw [map_set_fst L i p o o' h]
theorem W.set (w : W H0 H L) (i : Nat) (o' : HO) (h : L[i]? = some (p, o)) (t : isTup o = false) : W H0 (upd H p o') (L.set i (p, o')) := by
  have hp := w.get i h
  refine ⟨by rw [map_set_fst L i p o o' h]; exact w.nd, fun x hx => ?_, fun a xs e => ?_⟩
  · obtain ⟨j, hj⟩ := List.getElem?_of_mem hx
    by_cases hij : i = j
    · subst hij
      obtain ⟨hl, _⟩ := List.getElem?_eq_some_iff.mp h
      rw [List.getElem?_set_self hl] at hj
      cases hj
      exact upd_same
    · rw [List.getElem?_set_ne hij] at hj
      have ne : x.1 ≠ p := fun e => hij (nd_get w.nd (x := p) (by rw [List.getElem?_map, h]; rfl) (by rw [List.getElem?_map, hj]; simp [e]))
      rw [upd_ne ne]
      exact w.is_ x (List.mem_of_getElem? hj)
  · have q := w.tp a xs e
    have ne : a ≠ p := fun z => by
      rw [z, hp] at q
      cases q
      cases t
    rw [upd_ne ne]
    exact q
theorem W.skip (w : W H0 H L) (hp : H p = none) : W H0 (upd H p o) L :=
  ⟨w.nd, fun x hx => by rw [upd_ne (ne_of_none (w.is_ x hx) hp)]; exact w.is_ x hx, fun a xs e => by rw [upd_ne (ne_of_none (w.tp a xs e) hp)]; exact w.tp a xs e⟩
theorem W.new (w : W H0 H L) (o : HO) (hp : H p = none) : W H0 (upd H p o) ((p, o) :: L) := by
  have w1 := w.skip (o := o) hp
  refine ⟨List.nodup_cons.mpr ⟨fun m => ?_, w.nd⟩, fun x hx => ?_, w1.tp⟩
  · obtain ⟨x, hx, e⟩ := List.mem_map.mp m
    have z := w.is_ x hx
    rw [show x.1 = p from e, hp] at z
    cases z
  · rcases List.mem_cons.mp hx with rfl | hx
    · exact upd_same
    · exact w1.is_ x hx
theorem W.sub (w : W H0 H L) (h : ∀ x ∈ L', x ∈ L) (hn : (L'.map (·.1)).Nodup) : W H0 H L' := ⟨hn, fun x hx => w.is_ x (h x hx), w.tp⟩
theorem W.perm (w : W H0 H L) (h : L.Perm L') : W H0 H L' := w.sub (fun x hx => h.mem_iff.mpr hx) ((h.map _).nodup_iff.mp w.nd)
theorem W.drop1 {x : Ent} (w : W H0 H (x :: L)) : W H0 H L := w.sub (fun y hy => List.mem_cons_of_mem _ hy) (List.nodup_cons.mp w.nd).2
theorem W.dropL (w : W H0 H (L ++ R)) : W H0 H R := w.sub (fun y hy => List.mem_append_right _ hy) (by have := w.nd; rw [List.map_append] at this; exact (List.nodup_append.mp this).2.1)
/-- the segment [n, n + m) to the front -/
theorem W.rot (w : W H0 H L) (n m : Nat) : W H0 H ((L.drop n).take m ++ (L.take n ++ (L.drop n).drop m)) := by
  refine w.perm ?_
  have e : L = L.take n ++ ((L.drop n).take m ++ (L.drop n).drop m) := by rw [List.take_append_drop, List.take_append_drop]
  conv => lhs; rw [e]
  rw [← List.append_assoc, ← List.append_assoc]
  exact List.Perm.append_right _ List.perm_append_comm
/-- the first entry takes the place of the j-th one behind it -/
theorem W.repl {x : Ent} (w : W H0 H (x :: L)) (j : Nat) : W H0 H (L.set j x) := by
  have hx := (List.nodup_cons.mp w.nd)
  refine w.sub (fun y hy => ?_) ?_
  · rcases List.mem_or_eq_of_mem_set hy with h | h
    · exact List.mem_cons_of_mem _ h
    · rw [h]; exact List.mem_cons_self
  · rw [List.map_set]
    by_cases hj : j < (L.map (·.1)).length
    · rw [List.set_eq_take_append_cons_drop, if_pos hj]
      have e : L.map (·.1) = (L.map (·.1)).take j ++ (L.map (·.1)).drop j := (List.take_append_drop _ _).symm
      have n2 := hx.2
      rw [e] at n2
      obtain ⟨a1, a2, a3⟩ := List.nodup_append.mp n2
      have hm : ∀ z ∈ (L.map (·.1)).drop (j + 1), z ∈ (L.map (·.1)).drop j := fun z hz => by
        rw [← List.drop_drop] at hz
        exact List.mem_of_mem_drop hz
      refine List.nodup_append.mpr ⟨a1, List.nodup_cons.mpr ⟨fun z => hx.1 (List.mem_of_mem_drop z), ?_⟩, fun a ha b hb => ?_⟩
      · rw [← List.drop_drop]
        exact a2.sublist (List.drop_sublist _ _)
      · rcases List.mem_cons.mp hb with rfl | hb
        · exact fun z => hx.1 (by show x.1 ∈ _; rw [← z]; exact List.mem_of_mem_take ha)
        · exact a3 a ha b (hm b hb)
    · rw [List.set_eq_of_length_le (by omega)]
      exact hx.2
/-- the i-th entry to the front, and back -/
theorem perm_front {α : Type} : ∀ (L : List α) (i : Nat) (x : α), L[i]? = some x → L.Perm (x :: L.eraseIdx i)
  | [], _, _, h => by simp at h
  | y :: L, 0, x, h => by
    have e : y = x := Option.some.inj h
    subst e; exact List.Perm.refl _
  | y :: L, i + 1, x, h => by
    have ih := perm_front L i x h
    exact (ih.cons y).trans (List.Perm.swap x y _)
theorem perm_back {α : Type} : ∀ (L : List α) (i : Nat) (x x' : α), L[i]? = some x → (x' :: L.eraseIdx i).Perm (L.set i x')
  | [], _, _, _, h => by simp at h
  | y :: L, 0, x, x', h => List.Perm.refl _
  | y :: L, i + 1, x, x', h => by
    have ih := perm_back L i x x' h
    exact (List.Perm.swap y x' _).trans (ih.cons y)
theorem W.front {x : Ent} (w : W H0 H L) (i : Nat) (h : L[i]? = some x) : W H0 H (x :: L.eraseIdx i) := w.perm (perm_front L i x h)
theorem W.back {x x' : Ent} (w : W H0 H L) (i : Nat) (h : L[i]? = some x) (v : W H H' (x' :: L.eraseIdx i)) : W H0 H' (L.set i x') := (w.tr v).perm (perm_back L i x x' h)
theorem W.list {K : PySem.W.Frag} {xs : List V} (w : W H0 H L) (i : Nat) (h : L[i]? = some (p, .lst xs)) : SqL K H p xs := SqL.of (w.get i h)
end
theorem szL {n : Nat} (h : n ≤ 100000) : n < sizeLine := Nat.lt_of_le_of_lt h (by decide)
theorem szE {n : Nat} (h : n ≤ 100000) : n ≤ sizeLine := Nat.le_of_lt (szL h)

/-! ### readings that stop the walk -/
abbrev MRd := V → List V → Hp → VK → Prop
@[irreducible] def xApp : MRd := rAppend
@[irreducible] def xPop : MRd := rPop
@[irreducible] def xPopAt : MRd := rPopAt
@[irreducible] def xIns : MRd := fun x vs H Q => ∃ (l : Addr) (xs : List V) (i : Int) (y : V), x = .ref l ∧ vs = [.int i, y] ∧ H l = some (.lst xs) ∧ xs.length < sizeLine ∧ 0 ≤ i ∧ i < 2 ^ 63 ∧
    Q .non (upd H l (.lst (xs.take i.toNat ++ [y] ++ xs.drop i.toNat)))
@[irreducible] def xRem : MRd := rRemI
@[irreducible] def xExt : MRd := rExtend
@[irreducible] def xSetL : TSet := rSetL
/-- a new object -/
@[irreducible] def xNew (o : HO) (H : Hp) (Q : VK) : Prop := ∀ p, H p = none → Q (.ref p) (upd H p o)
@[irreducible] def xFldSt (K : PySem.W.Frag) (f : Str) (x y : V) (H : Hp) (Q : Hp → Prop) : Prop := ∃ a C dx fs, x = .ref a ∧ H a = some (.ins C dx fs) ∧ Cls K C ∧ NoAttr K C f ∧ fs.length < 1000 ∧ Q (upd H a (.ins C dx (putF f y fs)))
@[irreducible] def xDPut (x y v : V) (H : Hp) (Q : Hp → Prop) : Prop := ∃ a H', x = .ref a ∧ DPut H a y v H' ∧ Q H'
@[irreducible] def xMake (C : Addr) (sp : Sp) (E : XK) (vs : List V) (H : Hp) (Q : VK) : Prop := ∀ x dx, H x = none → H dx = none → dx ≠ x →
  sp (.ref x :: vs) (upd (upd H dx (.own x)) x (.ins C dx [])) (fun v H2 => v = .non ∧ Q (.ref x) H2) E
@[irreducible] def xCall (sp : Sp) (vs : List V) (H : Hp) (Q : VK) (E : XK) : Prop := sp vs H Q E
@[irreducible] def xFor (J : It) (g : TG) (tb : TS) (D : Ends) (σ : L2.St) (H : Hp) : Prop := ∃ W : Nat → Nat → L2.St → Hp → Prop, (∃ m, W 0 m σ H) ∧ ∀ i m σ H, W i m σ H →
  (J.stop i H ∧ D.nx σ H) ∨ (J.go i H ∧ ∃ N : L2.St → Hp → Prop, (∀ σ' H', N σ' H' → ∃ m', m' < m ∧ W (i + 1) m' σ' H') ∧ ∀ x H', J.yld i H x H' → g x σ H' fun σ2 H2 => tb { D with nx := N, ct := N, bk := D.nx } σ2 H2)
@[irreducible] def xWhile (c : TT) (tb : TS) (D : Ends) (σ : L2.St) (H : Hp) : Prop := tWhile c tb D σ H
@[irreducible] def xLc (J : It) (g : TG) (tt : TT) (te : TE) (vs : List Nat) (σ : L2.St) (H1 : Hp) (Q : VK) : Prop := ∀ D, H1 D = none → ∃ W : Nat → Nat → Hp → Prop, (∃ m, W 0 m (upd H1 D (.lst []))) ∧ ∀ i m H, W i m H →
  (J.stop i H ∧ Q (.ref D) H) ∨ (J.go i H ∧ ∃ Nx : Hp → Prop, (∀ H', Nx H' → ∃ m', m' < m ∧ W (i + 1) m' H') ∧ ∀ x H', J.yld i H x H' → g x (wipe σ vs) H' fun σ2 H2 => wipe σ2 vs = wipe σ vs ∧ tt σ2 H2 fun b H3 =>
    if b = true then te σ2 H3 fun y H4 => ∃ acc, H4 D = some (.lst acc) ∧ acc.length < sizeLine ∧ Nx (upd H4 D (.lst (acc ++ [y]))) else Nx H3)
/-- two ways; said behind it which one -/
@[irreducible] def xIf (b : Bool) (A B : Prop) : Prop := if b = true then A else B
theorem xIf_T {b : Bool} {A B : Prop} (hb : b = true) (h : A) : xIf b A B := by
  unfold xIf; rw [if_pos hb]; exact h
theorem xIf_F {b : Bool} {A B : Prop} (hb : b = false) (h : B) : xIf b A B := by
  unfold xIf; rw [hb, if_neg Bool.false_ne_true]; exact h
theorem xIf_2 {b : Bool} {A B : Prop} (h1 : b = true → A) (h2 : b = false → B) : xIf b A B := by
  cases b
  · exact xIf_F rfl (h2 rfl)
  · exact xIf_T rfl (h1 rfl)
theorem xIf_D {c : Prop} [Decidable c] {A B : Prop} (h1 : c → A) (h2 : ¬ c → B) : xIf (decide c) A B :=
  xIf_2 (fun h => h1 (of_decide_eq_true h)) (fun h => h2 (of_decide_eq_false h))
theorem xIf_N {c : Prop} [Decidable c] {A B : Prop} (h1 : ¬ c → A) (h2 : c → B) : xIf (!decide c) A B :=
  xIf_2 (fun h => h1 (by simpa using h)) (fun h => h2 (by simpa using h))
section
variable {X : Cx}
theorem my_append : MtM X "list.append" xApp := by unfold xApp; exact mt_append
theorem my_pop : MtM X "list.pop" xPop := by unfold xPop; exact mt_pop
theorem my_popAt : MtM X "list.pop" xPopAt := by unfold xPopAt; exact mt_popAt
theorem my_insert : MtR X "list.insert" xIns := by unfold xIns; exact mt_insert
theorem my_remove : MtM X "list.remove" xRem := by unfold xRem; exact mt_remove
theorem my_extend : MtM X "list.extend" xExt := by unfold xExt; exact mt_extend
theorem my_setL : PSet X xSetL := by unfold xSetL; exact set_list
theorem opr_le {f : Value → Value → Sem Value} {r r' : R2} (h : OpR X f r') (g : ∀ x y H Q, r x y H Q → r' x y H Q) : OpR X f r := fun pins s σ H x y v u Q I rx ry q => h pins s σ H x y v u Q I rx ry (g _ _ _ _ q)
theorem cr_le {f : Value} {r r' : List V → Hp → VK → Prop} (h : CallR X f r') (g : ∀ xs H Q, r xs H Q → r' xs H Q) : CallR X f r := fun pins s σ H xs us Q I rx q => h pins s σ H xs us Q I rx (g _ _ _ q)
theorem PE.le {e : Expr} {t t' : TE} (h : PE X e t') (g : ∀ σ H Q, t σ H Q → t' σ H Q) : PE X e t := ⟨fun pins s σ H Q I q => h.run pins s σ H Q I (g _ _ _ q)⟩
theorem PT.le {e : Expr} {t t' : TT} (h : PT X e t') (g : ∀ σ H Q, t σ H Q → t' σ H Q) : PT X e t := ⟨fun pins s σ H Q I q => h.run pins s σ H Q I (g _ _ _ q)⟩
theorem PS.le {e : Stmt} {t t' : TS} (h : PS X e t') (g : ∀ D σ H, t D σ H → t' D σ H) : PS X e t := ⟨fun pins s σ H D I q => h.run pins s σ H D I (g _ _ _ q)⟩
/-- lists, tuples displayed -/
def uLst (t : TA) : TE := fun σ H Q => t σ H fun xs H1 => xs.length ≤ sizeLine ∧ xNew (.lst xs) H1 Q
def uTup (t : TA) : TE := fun σ H Q => t σ H fun xs H1 => xs.length ≤ sizeLine ∧ xNew (.tup xs) H1 Q
theorem my_lst {es : List Expr} {t : TA} {pos : Pos} (h : PA X es t) : PE X (.List es pos) (uLst t) := by
  have e : uLst t = tLst t := by unfold uLst tLst xNew; rfl
  rw [e]; exact pe_lst h
theorem my_tup {es : List Expr} {t : TA} {pos : Pos} {x1} (h : PA X es t) : PE X (.Tuple es x1 pos) (uTup t) := by
  have e : uTup t = tTup t := by unfold uTup tTup xNew; rfl
  rw [e]; exact pe_tup h
def uDNew : TE := fun _ H Q => xNew (.dK []) H Q
theorem my_dnew {pos : Pos} : PE X (.Dict [] [] pos) uDNew := by
  have e : uDNew = tDNewK := by unfold uDNew tDNewK xNew; rfl
  rw [e]; exact pe_dnewK
def uCat : R2 := fun x y H Q => ∃ l b xs zs, x = .ref l ∧ y = .ref b ∧ H l = some (.lst xs) ∧ H b = some (.lst zs) ∧ xs.length + zs.length ≤ sizeLine ∧ xNew (.lst (xs ++ zs)) H Q
theorem my_cat : OpR X (binaryOp .Add) uCat := by
  have e : uCat = rCat := by unfold uCat rCat xNew; rfl
  rw [e]; exact op_cat
def uSlL (K : PySem.W.Frag) : V → Option Int → Option Int → Hp → VK → Prop := fun x lo hi H Q => ∃ a xs, x = .ref a ∧ SqL K H a xs ∧ xNew (.lst (cutV xs lo hi)) H Q
theorem my_sl : SlR X (uSlL X.K) := by
  have e : uSlL X.K = rSlL X.K := by unfold uSlL rSlL xNew; rfl
  rw [e]; exact sl_list
def uListOf (K : PySem.W.Frag) : List V → Hp → VK → Prop := fun xs H Q => ∃ p ys, xs = [.ref p] ∧ (SqL K H p ys ∨ SqT K H p ys) ∧ xNew (.lst ys) H Q
theorem my_listOf : CallR X (.type "list") (uListOf X.K) := by
  unfold uListOf xNew; exact call_list_of
def uFld (K : PySem.W.Frag) (ta tv : TE) (f : Str) : TS := fun D σ H => tv σ H fun y H1 => ta σ H1 fun x H2 => xFldSt K f x y H2 fun H3 => D.nx σ H3
theorem my_fld {o value : Expr} {ta tv : TE} {f : Str} {pos pos' : Pos} (ha : PE X o ta) (hv : PE X value tv) (hs : swapsWith value (some (.Attribute o f pos')) pos.line X.env = pure false := by rfl) : PS X (.Assign [.Attribute o f pos'] value pos) (uFld X.K ta tv f) := by
  have e : uFld X.K ta tv f = sFld X.K ta tv f := by unfold uFld sFld xFldSt; rfl
  rw [e]; exact ps_fld ha hv hs
def uDPut (td ty tv : TE) : TS := fun D σ H => tv σ H fun v H1 => td σ H1 fun x H2 => ty σ H2 fun y H3 => xDPut x y v H3 fun H4 => D.nx σ H4
theorem my_dput {o i value : Expr} {td ty tv : TE} {pos pos' : Pos} (hu : X.A.units + 1 < cLine) (ho : PE X o td) (hi : PE X i ty) (hv : PE X value tv) (hs : swapsWith value (some (.Subscript o i pos')) pos.line X.env = pure false := by rfl) :
    PS X (.Assign [.Subscript o i pos'] value pos) (uDPut td ty tv) := by
  have e : uDPut td ty tv = sDPut td ty tv := by unfold uDPut sDPut xDPut; rfl
  rw [e]; exact ps_dput hu ho hi hv hs
def uMake (C : Addr) (sp : Sp) (E : XK) (t : TA) : TE := fun σ H Q => t σ H fun vs H1 => xMake C sp E vs H1 Q
theorem uMake_eq (C : Addr) (sp : Sp) (E : XK) (t : TA) (σ : L2.St) (H : Hp) (Q : VK) : uMake C sp E t σ H Q = tMake C sp [] E t σ H Q := by
  unfold uMake tMake xMake; simp only [List.append_nil]
def uCall (sp : Sp) (E : XK) (t : TA) : TE := fun σ H Q => t σ H fun vs H1 => xCall sp vs H1 Q E
theorem uCall_eq (sp : Sp) (E : XK) (t : TA) (σ : L2.St) (H : Hp) (Q : VK) : uCall sp E t σ H Q = tCall sp [] E t σ H Q := by
  unfold uCall tCall xCall; simp only [List.append_nil]
def uMeth (C : Addr) (m : Str) (sp : Sp) (E : XK) (ta : TE) (t : TA) : TE := fun σ H Q => ta σ H fun x H1 => ∃ a dx fs, x = .ref a ∧ H1 a = some (.ins C dx fs) ∧ fs.lookup m = none ∧ t σ H1 fun vs H2 => xCall sp (x :: vs) H2 Q E
theorem uMeth_eq (C : Addr) (m : Str) (sp : Sp) (E : XK) (ta : TE) (t : TA) (σ : L2.St) (H : Hp) (Q : VK) : uMeth C m sp E ta t σ H Q = tMeth C m sp [] E ta t σ H Q := by
  unfold uMeth tMeth xCall; simp only [List.append_nil]
def uIfS (c : TT) (t u : TS) : TS := fun D σ H => c σ H fun b H1 => xIf b (t D σ H1) (u D σ H1)
theorem my_if {c : Expr} {a b : List Stmt} {tc : TT} {t u : TS} {pos : Pos} (hc : PT X c tc) (ha : PSs X a t) (hb : PSs X b u) : PS X (.If c a b pos) (uIfS tc t u) := by
  have e : uIfS tc t u = tIfS tc t u := by unfold uIfS tIfS xIf; rfl
  rw [e]; exact ps_if hc ha hb
def uIf (t : TT) (ta tb : TE) : TE := fun σ H Q => t σ H fun c H1 => xIf c (ta σ H1 Q) (tb σ H1 Q)
theorem my_ifExp {a b c : Expr} {tA : TT} {ta tb : TE} {pos : Pos} (hc : PT X c tA) (ha : PE X a ta) (hb : PE X b tb) : PE X (.IfExp c a b pos) (uIf tA ta tb) := by
  have e : uIf tA ta tb = tIf tA ta tb := by unfold uIf tIf xIf; rfl
  rw [e]; exact pe_ifExp hc ha hb
def uAnd (t u : TT) : TT := fun σ H Q => t σ H fun c H1 => xIf c (u σ H1 Q) (Q false H1)
def uOr (t u : TT) : TT := fun σ H Q => t σ H fun c H1 => xIf c (Q true H1) (u σ H1 Q)
theorem my_and {a b : Expr} {rest : List Expr} {tA tB' : TT} {pos : Pos} (ha : PT X a tA) (hb : PW X (.BoolOp .And (b :: rest) pos) tB') : PW X (.BoolOp .And (a :: b :: rest) pos) (uAnd tA tB') := by
  have e : uAnd tA tB' = tAnd tA tB' := by unfold uAnd tAnd xIf; rfl
  rw [e]; exact pw_and ha hb
theorem my_or {a b : Expr} {rest : List Expr} {tA tB' : TT} {pos : Pos} (ha : PT X a tA) (hb : PW X (.BoolOp .Or (b :: rest) pos) tB') : PW X (.BoolOp .Or (a :: b :: rest) pos) (uOr tA tB') := by
  have e : uOr tA tB' = tOr tA tB' := by unfold uOr tOr xIf; rfl
  rw [e]; exact pw_or ha hb
def uAndV (ta tb : TE) : TE := fun σ H Q => ta σ H fun x H1 => ∃ c, x = .bl c ∧ xIf c (tb σ H1 Q) (Q (.bl false) H1)
def uOrV (ta tb : TE) : TE := fun σ H Q => ta σ H fun x H1 => ∃ c, x = .bl c ∧ xIf c (Q (.bl true) H1) (tb σ H1 Q)
theorem my_andV {a b : Expr} {rest : List Expr} {ta tb : TE} {pos : Pos} (ha : PE X a ta) (hb : PE X (.BoolOp .And (b :: rest) pos) tb) : PE X (.BoolOp .And (a :: b :: rest) pos) (uAndV ta tb) := by
  have e : uAndV ta tb = tAndV ta tb := by unfold uAndV tAndV xIf; rfl
  rw [e]; exact pe_and ha hb
theorem my_orV {a b : Expr} {rest : List Expr} {ta tb : TE} {pos : Pos} (ha : PE X a ta) (hb : PE X (.BoolOp .Or (b :: rest) pos) tb) : PE X (.BoolOp .Or (a :: b :: rest) pos) (uOrV ta tb) := by
  have e : uOrV ta tb = tOrV ta tb := by unfold uOrV tOrV xIf; rfl
  rw [e]; exact pe_or ha hb
/-- a < b < c -/
def uChain (r r' : R2) (ta tb tc : TE) : TE := fun σ H Q => ta σ H fun x H1 => tb σ H1 fun y H2 => r x y H2 fun z H3 => ∃ k, z = .bl k ∧ xIf k (tc σ H3 fun u H4 => r' y u H4 Q) (Q (.bl false) H3)
def uFor (wi : TI) (g : TG) (tb : TS) : TS := fun D σ H => wi σ H fun J H1 => xFor J g tb D σ H1
theorem my_for {tg iter : Expr} {body : List Stmt} {wi : TI} {g : TG} {tb : TS} {pos : Pos} (hp : PassesOwn (model X.prog X.w) X.A X.env X.xe) (hc : X.calm = true) (hi : PI X tg iter wi) (hg : PG X tg g) (hb : PSs X body tb)
    (hs : ∀ x, foldedSetIterable iter X.env x = pure x := by intro _; rfl) : PS X (.For tg iter body [] pos) (uFor wi g tb) := by
  have e : uFor wi g tb = tFor wi g tb := by unfold uFor tFor xFor; rfl
  rw [e]; exact ps_for hp hc hi hg hb hs
def uWhile (c : TT) (tb : TS) : TS := fun D σ H => xWhile c tb D σ H
theorem my_while {c : Expr} {body : List Stmt} {tc : TT} {tb : TS} {pos : Pos} (hp : PassesOwn (model X.prog X.w) X.A X.env X.xe) (hc : PT X c tc) (hb : PSs X body tb) : PS X (.While c body [] pos) (uWhile tc tb) := by
  have e : uWhile tc tb = tWhile tc tb := by unfold uWhile xWhile; rfl
  rw [e]; exact ps_while hp hc hb
end
end TR
namespace TR
open PySem L2
section
variable {X : Cx} {CX : CXT} {k : Nat} {f C : Addr} {fd : FuncData} {ps : List Str} {sp : Sp} {E : XK} {x m : Str} {p pos apos : Pos} {e o : Expr} {es : List Expr} {ta : TE} {t : TA}
theorem my_call (F : FnOk X.prog X.w X.K X.mg X.base CX k f fd ps sp) (hr : Room k X.A) (hg : Gl X x) (hm : X.mg x = some (.ref f)) (hk : PySem.W.keepIn X.K (.ref f) = true) (hb : Binds X.K fd ps []) (hx : Passes CX X E)
    (ha : PA X (e :: es) t) (hdb : (x == ("__debug__" : Str)) = false := by decide) (he : starEach (e :: es) X.env = (false, eval e X.env) :: starEach es X.env := by rfl) (hpl : (backTo pos (starEach es X.env)).any (·.1) = false := by rfl) :
    PE X (.Call (.Name x p) (e :: es) [] pos) (uCall sp E t) := PE.le (pe_call F hr hg hm hk hb .nil hx ha hdb he hpl) fun σ H Q q => by rw [← uCall_eq]; exact q
theorem my_call0 (F : FnOk X.prog X.w X.K X.mg X.base CX k f fd ps sp) (hr : Room k X.A) (hg : Gl X x) (hm : X.mg x = some (.ref f)) (hk : PySem.W.keepIn X.K (.ref f) = true) (hb : Binds X.K fd ps []) (hx : Passes CX X E)
    (hdb : (x == ("__debug__" : Str)) = false := by decide) : PE X (.Call (.Name x p) [] [] pos) (uCall sp E tNil) := PE.le (pe_call0 F hr hg hm hk hb .nil hx hdb) fun σ H Q q => by rw [← uCall_eq]; exact q
theorem my_meth {pl : Sem Bool} (he : PE X o ta) (c : Cls X.K C) (hm : Meth X.K C m f) (F : FnOk X.prog X.w X.K X.mg X.base CX k f fd ps sp) (hr : Room k X.A) (hb : Binds X.K fd ps []) (hx : Passes CX X E) (ha : PA X (e :: es) t)
    (hst : starEach (e :: es) X.env = (false, eval e X.env) :: starEach es X.env := by rfl) (hpl : (backTo pos (starEach es X.env)).any (·.1) = false := by rfl)
    (ht : eval (.Call (.Attribute o m apos) (e :: es) [] pos) X.env = (do
      let ov ← eval o X.env
      standAt apos.atName
      let (f, first) ← holding [ov] (getMethod ov m pl)
      callWith pos f first (backTo pos (starEach (e :: es) X.env)) (backToKw pos (keywordEach [] X.env))) := by rfl) :
    PE X (.Call (.Attribute o m apos) (e :: es) [] pos) (uMeth C m sp E ta t) := PE.le (pe_meth he c hm F hr hb .nil hx ha hst hpl ht) fun σ H Q q => by rw [← uMeth_eq]; exact q
theorem my_meth0 {pl : Sem Bool} (he : PE X o ta) (c : Cls X.K C) (hm : Meth X.K C m f) (F : FnOk X.prog X.w X.K X.mg X.base CX k f fd ps sp) (hr : Room k X.A) (hb : Binds X.K fd ps []) (hx : Passes CX X E)
    (ht : eval (.Call (.Attribute o m apos) [] [] pos) X.env = (do
      let ov ← eval o X.env
      standAt apos.atName
      let (f, first) ← holding [ov] (getMethod ov m pl)
      callWith pos f first (backTo pos (starEach [] X.env)) (backToKw pos (keywordEach [] X.env))) := by rfl) :
    PE X (.Call (.Attribute o m apos) [] [] pos) (uMeth C m sp E ta tNil) := PE.le (pe_meth0 he c hm F hr hb .nil hx ht) fun σ H Q q => by rw [← uMeth_eq]; exact q
theorem my_make (M : Mk X.K C f) (F : FnOk X.prog X.w X.K X.mg X.base CX k f fd ps sp) (hr : Room (k + 1) X.A) (hg : Gl X x) (hm : X.mg x = some (.ref C)) (hb : Binds X.K fd ps []) (hx : Passes CX X E)
    (ha : PA X (e :: es) t) (hdb : (x == ("__debug__" : Str)) = false := by decide) (he : starEach (e :: es) X.env = (false, eval e X.env) :: starEach es X.env := by rfl) (hpl : (backTo pos (starEach es X.env)).any (·.1) = false := by rfl) :
    PE X (.Call (.Name x p) (e :: es) [] pos) (uMake C sp E t) := PE.le (pe_make M F hr hg hm hb .nil hx ha hdb he hpl) fun σ H Q q => by rw [← uMake_eq]; exact q
theorem my_make0 (M : Mk X.K C f) (F : FnOk X.prog X.w X.K X.mg X.base CX k f fd ps sp) (hr : Room (k + 1) X.A) (hg : Gl X x) (hm : X.mg x = some (.ref C)) (hb : Binds X.K fd ps []) (hx : Passes CX X E)
    (hdb : (x == ("__debug__" : Str)) = false := by decide) : PE X (.Call (.Name x p) [] [] pos) (uMake C sp E tNil) := PE.le (pe_make0 M F hr hg hm hb .nil hx hdb) fun σ H Q q => by rw [← uMake_eq]; exact q
end
section
variable {X : Cx} {a b c : Expr} {ta tb tc te : TE} {r r' : R2} {op op' : CmpOp} {pos : Pos}
theorem uChain_eq : uChain r r' ta tb tc = tChain r r' ta tb tc := by unfold uChain tChain xIf; rfl
theorem my_chain (ho : OpR X (compareOp op) r) (ho' : OpR X (compareOp op') r') (ha : PE X a ta) (hb : PE X b tb) (hc : PE X c tc)
    (hm : lastMarks [op, op'] [b, c] = false := by with_unfolding_all rfl) : PE X (.Compare a [op, op'] [b, c] pos) (uChain r r' ta tb tc) := by rw [uChain_eq]; exact pe_chain ho ho' ha hb hc hm
theorem my_chainT (ho : OpR X (compareOp op) r) (ho' : OpR X (compareOp op') r') (ha : PE X a ta) (hb : PE X b tb) (hc : PE X c tc)
    (hm : lastMarks [op, op'] [b, c] = false := by with_unfolding_all rfl) : PT X (.Compare a [op, op'] [b, c] pos) (tTest (uChain r r' ta tb tc)) := by rw [uChain_eq]; exact pt_chain ho ho' ha hb hc hm
/-- a part that has a value and leaves the heap as it is -/
def Still (t : TE) : Prop := ∀ σ H Q, t σ H Q → ∃ v, Q v H ∧ ∀ Q' : VK, Q' v H → t σ H Q'
theorem still_c {v : V} : Still (tC v) := fun _ _ _ q => ⟨v, q, fun _ q' => q'⟩
theorem still_v {i : Nat} : Still (tVar i) := fun _ _ _ ⟨v, e, q⟩ => ⟨v, q, fun _ q' => ⟨v, e, q'⟩⟩
theorem still_fld {K : PySem.W.Frag} {f : Str} (h : Still ta) : Still (tFld K ta f) := fun σ H Q q => by
  obtain ⟨v, ⟨a, C, dx, fs, u, e, e1, e2, e3, e4, q⟩, k⟩ := h σ H _ q
  exact ⟨u, q, fun Q' q' => k _ ⟨a, C, dx, fs, u, e, e1, e2, e3, e4, q'⟩⟩
def rLenQ (K : PySem.W.Frag) : List V → Hp → VK → Prop := fun xs H Q => ∃ p ys, xs = [.ref p] ∧ (SqL K H p ys ∨ SqT K H p ys) ∧ Q (.int ys.length) H
theorem my_lenQ : CallR X (.builtin "len") (rLenQ X.K) := call_len_seq
theorem still_len {K : PySem.W.Frag} (h : Still ta) : Still (tCB (rLenQ K) (tCons ta tNil)) := fun σ H Q q => by
  obtain ⟨v, ⟨p, ys, e, e1, q⟩, k⟩ := h σ H _ q
  exact ⟨_, q, fun Q' q' => k _ ⟨p, ys, e, e1, q'⟩⟩
def rLenSQ : List V → Hp → VK → Prop := fun xs H Q => ∃ z, xs = [.str z] ∧ z.length ≤ sizeLine ∧ Q (.int z.length) H
theorem my_lenSQ : CallR X (.builtin "len") rLenSQ := call_len_str
theorem still_lenS (h : Still ta) : Still (tCB rLenSQ (tCons ta tNil)) := fun σ H Q q => by
  obtain ⟨v, ⟨z, e, e1, q⟩, k⟩ := h σ H _ q
  exact ⟨_, q, fun Q' q' => k _ ⟨z, e, e1, q'⟩⟩
/-- a <= b <= c of ints, all three still -/
def uChI (f g : Int → Int → Bool) (ta tb tc : TE) : TE := fun σ H Q => ta σ H fun x _ => tb σ H fun y _ => tc σ H fun z _ => ∃ i j l, x = .int i ∧ y = .int j ∧ z = .int l ∧ Q (.bl (f i j && g j l)) H
theorem uChI_le {f g : Int → Int → Bool} (sa : Still ta) (sb : Still tb) (sc : Still tc) (σ : L2.St) (H : Hp) (Q : VK) (q : uChI f g ta tb tc σ H Q) :
    uChain (rI0 fun i j => .bl (f i j)) (rI0 fun i j => .bl (g i j)) ta tb tc σ H Q := by
  obtain ⟨x, q, ka⟩ := sa σ H _ q
  obtain ⟨y, q, kb⟩ := sb σ H _ q
  obtain ⟨z, ⟨i, j, l, rfl, rfl, rfl, q⟩, kc⟩ := sc σ H _ q
  refine ka _ (kb _ ⟨i, j, rfl, rfl, _, rfl, ?_⟩)
  refine xIf_2 (fun h => kc _ ⟨j, l, rfl, rfl, ?_⟩) (fun h => ?_)
  · rw [h, Bool.true_and] at q; exact q
  · rw [h, Bool.false_and] at q; exact q
theorem my_chI {f g : Int → Int → Bool} (ho : OpR X (compareOp op) (rI0 fun i j => .bl (f i j))) (ho' : OpR X (compareOp op') (rI0 fun i j => .bl (g i j))) (ha : PE X a ta) (hb : PE X b tb) (hc : PE X c tc) (sa : Still ta) (sb : Still tb) (sc : Still tc)
    (hm : lastMarks [op, op'] [b, c] = false := by with_unfolding_all rfl) : PE X (.Compare a [op, op'] [b, c] pos) (uChI f g ta tb tc) := PE.le (my_chain ho ho' ha hb hc hm) (uChI_le sa sb sc)
theorem my_chIT {f g : Int → Int → Bool} (ho : OpR X (compareOp op) (rI0 fun i j => .bl (f i j))) (ho' : OpR X (compareOp op') (rI0 fun i j => .bl (g i j))) (ha : PE X a ta) (hb : PE X b tb) (hc : PE X c tc) (sa : Still ta) (sb : Still tb) (sc : Still tc)
    (hm : lastMarks [op, op'] [b, c] = false := by with_unfolding_all rfl) : PT X (.Compare a [op, op'] [b, c] pos) (tTest (uChI f g ta tb tc)) :=
  PT.le (my_chainT ho ho' ha hb hc hm) fun σ H Q q => uChI_le sa sb sc σ H _ q
def uRevL (K : PySem.W.Frag) (te : TE) : TE := fun σ H Q => te σ H fun x H1 => ∃ a xs, x = .ref a ∧ SqL K H1 a xs ∧ xNew (.lst xs.reverse) H1 Q
theorem my_revL {e : Expr} {k : Nat} {p1 p2 p3 : Pos} (he : PE X e te) : PE X (.Subscript e (.Slice none none (some (.UnaryOp .USub (.Constant (.int 1) k p1) p2)) p3) pos) (uRevL X.K te) := by
  have e : uRevL X.K te = tRevL X.K te := by unfold uRevL tRevL xNew; rfl
  rw [e]; exact pe_revL he
def uLstRg (te : L2.St → Hp → (Int → Int → Hp → Prop) → Prop) : TE := fun σ H Q => te σ H fun a b H1 => RgOk a b ∧ xNew (.lst (rgV a b)) H1 Q
theorem my_listRg {e : Expr} {te : L2.St → Hp → (Int → Int → Hp → Prop) → Prop} {p : Pos} (hc : X.calm = true) (hg : Gl X "list") (hm : X.mg "list" = none) (he : PRg X e te) (na : starEach [e] X.env = (false, eval e X.env) :: starEach [] X.env := by rfl) : PE X (.Call (.Name "list" p) [e] [] pos) (uLstRg te) := by
  have e' : uLstRg te = tLstRg te := by unfold uLstRg tLstRg xNew; rfl
  rw [e']; exact pe_listRg hc hg hm he na
def uLc (wi : TI) (g : TG) (tt : TT) (te : TE) (vs : List Nat) : TE := fun σ H Q => wi σ H fun J H1 => xLc J g tt te vs σ H1 Q
theorem uLc_eq (wi : TI) (g : TG) (tt : TT) (te : TE) (vs : List Nat) : uLc wi g tt te vs = tLc wi g tt te vs := by unfold uLc tLc xLc; rfl
end
/-! ### what leaves a def -/
section
variable {P : Program} {w : World} {K : PySem.W.Frag} {mg : Str → Option Value} {base : Heap} {N : List Str} {qual : Str} {sc : Scope} {f : Addr} {cd : Value} {A : Around} {outer : List Env} {s : Shared} {H : Hp} {E : XK}
theorem passE : Passes (L2.CX P w) (cxOf (L2.CX P w) P w K mg base N qual sc f cd A outer s H E) E := passes_call (takes_of rfl rfl rfl rfl) fun _ _ _ _ h => h
theorem ownE : PassesOwn (model P w) (A.deeper (PyProof.Rows.envOfC qual sc s.heap.objs.size f cd)) (PyProof.Rows.envOfC qual sc s.heap.objs.size f cd) (cxOf (L2.CX P w) P w K mg base N qual sc f cd A outer s H E).xe := passes_of (X := cxOf (L2.CX P w) P w K mg base N qual sc f cd A outer s H E) rfl
theorem takesE : Takes (cxOf (L2.CX P w) P w K mg base N qual sc f cd A outer s H E) (fun cls d _ H => E cls d H) := takes_of rfl rfl rfl rfl
end
/-- a def of the text -/
theorem fun_of {K : PySem.W.Frag} {x qual : Str} {st : Stmt} {f : Addr} {fd : FuncData} (F : FunD K x qual (defArgs st) (defBody st) (defScope st) [] [] f fd) : Fun K x qual st f fd := by
  obtain ⟨⟨oc, od, dV, kV, doc, pm, an, cdv, ct, osl, e, lk, cd, dd, kk⟩, kp⟩ := F
  refine ⟨⟨oc, od, kV, doc, pm, an, cdv, ct, osl, ?_, lk, cd⟩, kp⟩
  rcases dd with ⟨_, rfl⟩ | ⟨h, _⟩
  · exact e
  · exact absurd rfl h
theorem ix_of {n : Nat} {z : Int} {j : Nat} (e : z = (j : Int)) (h : j < n) : ixN n z = some j := by
  unfold ixN
  rw [e, if_pos (by omega), if_pos (by omega)]
  simp
/-! ### steps -/
section
variable {H0 H : Hp} {L : List Ent} {l : Addr} {xs zs : List V} {y : V} {Q : VK} {QH : Hp → Prop} {o : HO}
theorem st_new (w : W H0 H L) (k : ∀ p H', W H0 H' ((p, o) :: L) → Q (.ref p) H') : xNew o H Q := by
  unfold xNew; exact fun p hp => k p _ (w.new o hp)
theorem st_tup (w : W H0 H L) (k : ∀ p H', H' p = some (.tup xs) → W H0 H' L → Q (.ref p) H') : xNew (.tup xs) H Q := by
  unfold xNew; exact fun p hp => k p _ upd_same (w.skip hp)
theorem st_app (w : W H0 H L) (i : Nat) (h : L[i]? = some (l, .lst xs)) (hz : xs.length < sizeLine) (k : ∀ H', W H0 H' (L.set i (l, .lst (xs ++ [y]))) → Q .non H') : xApp (.ref l) [y] H Q := by
  unfold xApp; exact ⟨l, xs, y, rfl, rfl, w.get i h, hz, k _ (w.set i _ h rfl)⟩
theorem st_pop (w : W H0 H L) (i : Nat) (h : L[i]? = some (l, .lst xs)) (hy : xs[xs.length - 1]? = some y) (k : ∀ H', W H0 H' (L.set i (l, .lst xs.dropLast)) → Q y H') : xPop (.ref l) [] H Q := by
  unfold xPop; exact ⟨l, xs, y, rfl, rfl, w.get i h, hy, k _ (w.set i _ h rfl)⟩
theorem st_pop0 (w : W H0 H L) (i : Nat) (h : L[i]? = some (l, .lst (y :: xs))) (k : ∀ H', W H0 H' (L.set i (l, .lst xs)) → Q y H') : xPopAt (.ref l) [.int 0] H Q := by
  unfold xPopAt
  refine ⟨l, y :: xs, 0, 0, y, rfl, rfl, w.get i h, by decide, by decide, ?_, rfl, k _ (w.set i _ h rfl)⟩
  show seqIndex? 0 (xs.length + 1) = some 0
  unfold seqIndex?
  simp
theorem st_ins (w : W H0 H L) (i : Nat) {n : Int} (h : L[i]? = some (l, .lst xs)) (hz : xs.length < sizeLine) (h0 : 0 ≤ n) (h1 : n < 2 ^ 63) (k : ∀ H', W H0 H' (L.set i (l, .lst (xs.take n.toNat ++ [y] ++ xs.drop n.toNat))) → Q .non H') : xIns (.ref l) [.int n, y] H Q := by
  unfold xIns; exact ⟨l, xs, n, y, rfl, rfl, w.get i h, hz, h0, h1, k _ (w.set i _ h rfl)⟩
theorem find_first {ns : List Int} {n : Int} (hm : n ∈ ns) : ∃ j, ns[j]? = some n ∧ (∀ m, m < j → ns[m]? ≠ some n) ∧ ns.eraseIdx j = ns.erase n := by
  induction ns with
  | nil => cases hm
  | cons a r ih =>
    by_cases e : a = n
    · subst e
      exact ⟨0, rfl, fun m hm => absurd hm (Nat.not_lt_zero m), by simp⟩
    · obtain ⟨j, h1, h2, h3⟩ := ih ((List.mem_cons.mp hm).resolve_left fun z => e z.symm)
      refine ⟨j + 1, h1, fun m hm => ?_, ?_⟩
      · cases m with
        | zero => exact fun z => e (Option.some.inj z)
        | succ m => exact h2 m (Nat.lt_of_succ_lt_succ hm)
      · rw [List.eraseIdx_cons_succ, h3, List.erase_cons_tail (by simpa using e)]
theorem st_rem (w : W H0 H L) (i : Nat) {ns : List Int} {n : Int} (h : L[i]? = some (l, .lst (ns.map V.int))) (hm : n ∈ ns) (k : ∀ H', W H0 H' (L.set i (l, .lst ((ns.erase n).map V.int))) → Q .non H') : xRem (.ref l) [.int n] H Q := by
  obtain ⟨j, h1, h2, h3⟩ := find_first hm
  unfold xRem
  refine ⟨l, ns, n, j, rfl, rfl, w.get i h, h1, h2, ?_⟩
  rw [h3]
  exact k _ (w.set i _ h rfl)
theorem st_setL (w : W H0 H L) (i : Nat) {n : Int} {j : Nat} (h : L[i]? = some (l, .lst xs)) (hj : ixN xs.length n = some j) (k : ∀ H', W H0 H' (L.set i (l, .lst (xs.set j y))) → QH H') : xSetL (.ref l) (.int n) y H QH := by
  unfold xSetL; exact ⟨l, xs, n, j, rfl, rfl, w.get i h, hj, k _ (w.set i _ h rfl)⟩
theorem st_fld {K : PySem.W.Frag} {C dx : Addr} {f : Str} {fs : List (Str × V)} (w : W H0 H L) (i : Nat) (h : L[i]? = some (l, .ins C dx fs)) (c : Cls K C) (n : NoAttr K C f) (hz : fs.length < 1000)
    (k : ∀ H', W H0 H' (L.set i (l, .ins C dx (putF f y fs))) → QH H') : xFldSt K f (.ref l) y H QH := by
  unfold xFldSt; exact ⟨l, C, dx, fs, rfl, w.get i h, c, n, hz, k _ (w.set i _ h rfl)⟩
theorem st_dput {key : Key} {kvs : List (Key × V)} {kv : V} (w : W H0 H L) (i : Nat) (h : L[i]? = some (l, .dK kvs)) (hk : kv = kV key) (hz : kvs.length < sizeLine) (k : ∀ H', W H0 H' (L.set i (l, .dK (putK kvs key y))) → QH H') : xDPut (.ref l) kv y H QH := by
  subst hk
  unfold xDPut; exact ⟨l, _, rfl, DPut.k (w.get i h) hz, k _ (w.set i _ h rfl)⟩
theorem st_make {C : Addr} {sp : Sp} {E : XK} {vs : List V} (w : W H0 H L) (k : ∀ x dx H', W H0 H' ((x, .ins C dx []) :: L) → sp (.ref x :: vs) H' (fun v H2 => v = .non ∧ Q (.ref x) H2) E) : xMake C sp E vs H Q := by
  unfold xMake; exact fun x dx hx hdx ne => k x dx _ ((w.skip hdx).new _ (by rw [upd_ne (Ne.symm ne)]; exact hx))
theorem st_call {sp : Sp} {E : XK} {vs : List V} (h : sp vs H Q E) : xCall sp vs H Q E := by unfold xCall; exact h
theorem st_forR {lo : Int} {n : Nat} {g : TG} {tb : TS} {D : Ends} {σ : L2.St} (Pv : Nat → L2.St → Hp → Prop) (h0 : Pv 0 σ H)
    (hs : ∀ i σ H, i < n → Pv i σ H → g (.int (lo + i)) σ H fun σ2 H2 => tb { D with nx := Pv (i + 1), ct := Pv (i + 1), bk := D.nx } σ2 H2) (hd : ∀ σ H, Pv n σ H → D.nx σ H) : xFor (Itr lo n) g tb D σ H := by
  unfold xFor; exact for_range Pv h0 hs hd
theorem st_forRC {lo c : Int} {n : Nat} {g : TG} {tb : TS} {D : Ends} {σ : L2.St} (Pv : Nat → L2.St → Hp → Prop) (h0 : Pv 0 σ H)
    (hs : ∀ i σ H, i < n → Pv i σ H → g (.int (lo + (i : Nat) * c)) σ H fun σ2 H2 => tb { D with nx := Pv (i + 1), ct := Pv (i + 1), bk := D.nx } σ2 H2) (hd : ∀ σ H, Pv n σ H → D.nx σ H) : xFor (Itc lo c n) g tb D σ H := by
  unfold xFor; exact for_rangeC Pv h0 hs hd
theorem st_forL {K : PySem.W.Frag} {a : Addr} {g : TG} {tb : TS} {D : Ends} {σ : L2.St} (Pv : Nat → L2.St → Hp → Prop) (h0 : Pv 0 σ H) (hl : ∀ i σ H, i ≤ xs.length → Pv i σ H → SqL K H a xs)
    (hs : ∀ i x σ H, xs[i]? = some x → Pv i σ H → g x σ H fun σ2 H2 => tb { D with nx := Pv (i + 1), ct := Pv (i + 1), bk := D.nx } σ2 H2) (hd : ∀ σ H, Pv xs.length σ H → D.nx σ H) : xFor (Itl K a) g tb D σ H := by
  unfold xFor; exact for_list Pv h0 hl hs hd
theorem st_forT {K : PySem.W.Frag} {a : Addr} {g : TG} {tb : TS} {D : Ends} {σ : L2.St} (Pv : Nat → L2.St → Hp → Prop) (h0 : Pv 0 σ H) (hl : ∀ i σ H, i ≤ xs.length → Pv i σ H → SqT K H a xs)
    (hs : ∀ i x σ H, xs[i]? = some x → Pv i σ H → g x σ H fun σ2 H2 => tb { D with nx := Pv (i + 1), ct := Pv (i + 1), bk := D.nx } σ2 H2) (hd : ∀ σ H, Pv xs.length σ H → D.nx σ H) : xFor (Itt K a) g tb D σ H := by
  unfold xFor; exact for_tup Pv h0 hl hs hd
/-- while: W, by a number that falls -/
theorem st_while {c : TT} {tb : TS} {D : Ends} {σ : L2.St} (Wv : Nat → L2.St → Hp → Prop) (m0 : Nat) (h0 : Wv m0 σ H)
    (hs : ∀ m σ H, Wv m σ H → c σ H fun b H1 => xIf b (tb { D with nx := fun σ' H' => ∃ m', m' < m ∧ Wv m' σ' H', ct := fun σ' H' => ∃ m', m' < m ∧ Wv m' σ' H', bk := D.nx } σ H1) (D.nx σ H1))
    (mono : ∀ σ H Q Q', (∀ b H1, Q b H1 → Q' b H1) → c σ H Q → c σ H Q') : xWhile c tb D σ H := by
  unfold xWhile
  refine ⟨Wv, ⟨m0, h0⟩, fun m σ H hw => mono σ H _ _ (fun b H1 q => ?_) (hs m σ H hw)⟩
  unfold xIf at q
  cases b with
  | true => exact ⟨_, fun _ _ z => z, q⟩
  | false => exact q
end
end TR
namespace TR
open PySem L2
section
variable {X : Cx} {x : Str} {pos : Pos}
theorem my_globI {i : Int} (h : ∃ t, X.mg x = some (.int i t)) (hg : Gl X x) (hd : (x == ("__debug__" : Str)) = false := by decide) : PE X (.Name x pos) (tC (.int i)) := by
  obtain ⟨t, h⟩ := h
  exact pe_glob hg h ⟨t, rfl⟩ hd
theorem my_globS {z : Str} (h : ∃ t, X.mg x = some (.str z t)) (hg : Gl X x) (hd : (x == ("__debug__" : Str)) = false := by decide) : PE X (.Name x pos) (tC (.str z)) := by
  obtain ⟨t, h⟩ := h
  exact pe_glob hg h ⟨t, rfl⟩ hd
theorem my_globR {a : Addr} (h : X.mg x = some (.ref a)) (hg : Gl X x) (hd : (x == ("__debug__" : Str)) = false := by decide) : PE X (.Name x pos) (tC (.ref a)) := pe_glob hg h rfl hd
end
/-- where the script stands: an entry of the ledger, or the written part -/
def Scr (K : PySem.W.Frag) (a : Addr) (ns : List Int) (R : List Ent) : Prop := ∀ H0 H, W H0 H R → SqL K H a (ns.map V.int)
theorem Scr.cons {K : PySem.W.Frag} {a : Addr} {ns : List Int} {R : List Ent} {x : Ent} (s : Scr K a ns R) : Scr K a ns (x :: R) := fun _ _ w => s _ _ w.drop1
theorem Scr.app {K : PySem.W.Frag} {a : Addr} {ns : List Int} {R L : List Ent} (s : Scr K a ns R) : Scr K a ns (L ++ R) := fun _ _ w => s _ _ w.dropL
@[irreducible] def sp_law (K : PySem.W.Frag) : Sp := fun vs H Q _ => ∃ (a : Addr) (ns : List Int) (R : List Ent), vs = [.ref a] ∧ Scr K a ns R ∧ W H H R ∧ ns.length ≤ 63 ∧ ∀ H', Q (.bl true) H'
theorem law_pre {K : PySem.W.Frag} {H : Hp} {a : Addr} {ns : List Int} (hl : ns.length ≤ 63) (hO : Only H) (hS : SqL K H a (ns.map V.int)) : sp_law K [.ref a] H (fun v _ => v = .bl true) fun _ _ _ => False := by
  unfold sp_law
  rcases hS with (h | ⟨o, h⟩) | h
  · exact ⟨a, ns, [(a, .lst (ns.map V.int))], rfl, fun H0 H' w => SqL.of (w.get 0 rfl), ⟨by simp, fun x hx => by rw [List.mem_singleton.mp hx]; exact h, fun _ _ e => e⟩, hl, fun _ => rfl⟩
  · exact ⟨a, ns, [(a, .frz o (.lst (ns.map V.int)))], rfl, fun H0 H' w => .inl (.inr ⟨o, w.get 0 rfl⟩), ⟨by simp, fun x hx => by rw [List.mem_singleton.mp hx]; exact h, fun _ _ e => e⟩, hl, fun _ => rfl⟩
  · exact ⟨a, ns, [], rfl, fun H0 H' w => .inr h, ⟨by simp, fun x hx => (nomatch hx), fun _ _ e => e⟩, hl, fun _ => rfl⟩
theorem binds1 {K : PySem.W.Frag} {x qual : Str} {st : Stmt} {f : Addr} {fd : FuncData} {p : Str} (F : Fun K x qual st f fd)
    (h : ∀ (kV doc pm : Value) (an : Option Addr) (cdv ct : Value) (us : List Value), us.length = [p].length → bindArgs (PySem.W.fnOf x qual (defArgs st) (defBody st) (defScope st) .none kV doc pm an cdv ct) ⟨us, []⟩ = pure ([p].zip us)) (s : Shared) (v : Value) : BindsTo s fd ⟨[v], []⟩ [(p, v)] := by
  obtain ⟨oc, od, kV, doc, pm, an, cdv, ct, osl, rfl, lk, hcd⟩ := F.ex
  exact .of_eq (h kV doc pm an cdv ct [v] rfl)
open PySem.Spec PyProof.Rows in
theorem law_end {l : PySem.W.OpenLaw} {n k : Nat} {q : Program} {loose : List Str} {XP : (Str → Option Value) → Heap → Prop} {YP : World → Heap → Prop} {d : DefRec} {x : Str}
    (hn : l.most = some n) (hn2 : n ≤ sizeLine) (hdf : d.params.defaults = []) (hr : Room k callerA)
    (F : ∀ (w : World) (mg : Str → Option Value) (fa : Addr) (h : Heap), YP w h → h.Ns mainGlobals mg → mg d.name = some (.ref fa) →
      ∃ (K : PySem.W.Frag) (fd : FuncData) (sp : Sp), K.In h ∧ (∀ (s : Shared) (u : Value), BindsTo s fd ⟨[u], []⟩ [(x, u)]) ∧
        (∀ (H : Hp) (a : Addr) (ns : List Int), ns.length ≤ n → Only H → SqL K H a (ns.map V.int) → sp [.ref a] H (fun v _ => v = .bl true) fun _ _ _ => False) ∧
        ∀ base : Heap, K.In base → base.Ns mainGlobals mg → FnOk l.prog w K mg base (L2.CX l.prog w) k fa fd [x] sp) :
    PySem.W.WalkO q loose XP YP l.row.toRowW d [] (fun f vs => PySem.call f vs) := by
  refine Att.attach_call hn hdf fun w s₀ s₁ mg mb fa o pm cd doc a vs ns G Y ho hd hcd hmg hobj hints hlen hg => ?_
  obtain ⟨K, fd, sp, KX, hb, hsp, hF⟩ := F w mg fa _ Y G.T.g hmg
  refine law_call KX G.T.g G.T.b G.T.builtins G.T.nolimit hg hobj hints (Nat.le_trans hlen hn2) hr hF hb (fun H hO hS => hsp H a ns hlen hO hS) fun H e s' h => ?_
  obtain ⟨_, _, _, _, _, _, _, _, _, _, _, _, z⟩ := h
  exact z.elim
end TR
namespace TR
open PySem PySem.Spec PyProof.Rows L2
/-! ### an exception that was caught and is held by a name behind the suite -/
def ExH (cls : Value) (d : Option Addr) (a : Addr) : HO :=
  .ext fun h => ∃ (oe : Obj) (vs : Array Value), h.get? a = some oe ∧ Zc cls d oe ∧ oe.data = .fields vs
section
variable {X : Cx} {pins : List (Addr × Obj)} {σ : L2.St} {H : Hp} {s : Shared}
/-- an untracked exception of ours comes to be tracked -/
theorem inv_track {a : Addr} {oe : Obj} {vs : Array Value} {cls : Value} {d : Option Addr} (I : Inv X pins σ H s)
    (ha : s.heap.get? a = some oe) (z : Zc cls d oe) (hv : oe.data = .fields vs) (na : H a = none)
    (nL : X.env.locals ≠ a) (n0 : ∀ o, X.s_0.heap.get? a = some o → a ∈ X.ex) (np : ∀ p ∈ X.pn ++ pins, p.1 ≠ a) :
    Inv X pins σ (upd H a (ExH cls d a)) s := by
  have keepN : ∀ b, H b = none → b ≠ a → upd H a (ExH cls d a) b = none := fun b hb ne => by
    rw [upd_ne ne]
    exact hb
  have keepS : ∀ b o, H b = some o → upd H a (ExH cls d a) b = some o := fun b o hb => by
    rw [upd_ne (ne_of_none hb na)]
    exact hb
  have obj : ObjOk X.prog X.w (upd H a (ExH cls d a)) s.heap a (ExH cls d a) :=
    ⟨⟨oe, vs, ha, z, hv⟩, ⟨oe, ha⟩, fun _ _ ⟨o, v, q, r⟩ k => ⟨o, v, k o q, r⟩⟩
  constructor
  · exact I.ok
  · exact I.os
  · exact I.bare
  · constructor
    · exact I.base.keep
    · exact I.base.slot
    · intro b o e n hx
      refine keepN b (I.base.free b o e n hx) fun q => ?_
      subst q
      exact hx (n0 o e)
    · exact I.base.there
    · exact fun b xs e => keepS b _ (I.base.tups b xs e)
    · exact fun b o u e => keepS b _ (I.base.frzs b o u e)
    · intro b ps e
      obtain ⟨m, q⟩ := I.base.tbls b ps e
      exact ⟨m, keepS b _ q⟩
  · exact I.loc
  · exact I.cell
  · exact keepN _ I.free nL
  · intro x c e
    refine keepN c (I.freeC x c e) fun q => ?_
    obtain ⟨v, o, ho, hd⟩ := I.cell x c e
    rw [q, ha] at ho
    cases ho
    rw [hv] at hd
    cases hd
  · intro p hp
    obtain ⟨h1, h2, h3⟩ := I.pin p hp
    exact ⟨h1, keepN p.1 h2 (np p hp), h3⟩
  · exact HOk.laidN I.hok (fun _ _ q => q) na obj
  · exact I.len
end
/-- what is wished of an exception of the body: it is of the clause's class; behind the suite it is held in slot j -/
def wHeld (K : PySem.W.Frag) (c : Value) (i j : Nat) (D : Ends) : WX := fun cls d σ H =>
  PySem.W.exmOne K cls c = some true ∧ ∀ a, H a = none → D.nx (((σ.set i (some (.ref a))).set j (some (.ref a))).set i none) (upd H a (ExH cls d a))
section
variable {X : Cx} {x n m : Str} {c : Value} {i j : Nat} {body : List Stmt} {np pos pos' hp ep ap : Pos} {tb : WX → TS}
/-- try: body / except x as n: m = n -/
theorem my_tryHeld (hs : X.stack = X.env :: X.outer) (hf : X.env.frame = some X.env.locals) (hN : X.N.Nodup)
    (hi : X.N[i]? = some n) (hln : X.env.kindOf n = some .local) (hj : X.N[j]? = some m) (hlm : X.env.kindOf m = some .local) (hij : i ≠ j)
    (hc : Names X x c) (hdb : (n == ("__debug__" : Str)) = false) (hcd : (n == ("__classdict__" : Str)) = false)
    (hsw : ∀ (a : Addr) (pn : List (Addr × Obj)), swapsWith (.Name n ep) (some (.Name m hp)) ap.line (X.suite a pn).env = pure false)
    (hb : ∀ (W : WX) (pn : List (Addr × Obj)) (xe : Value → Shared → Prop), Takes (X.tr pn xe) W →
      PassesOwn (model X.prog X.w) X.A X.env xe → PSs (X.tr pn xe) body (tb W)) :
    PS X (.Try body [.ExceptHandler (some (.Name x np)) (some n) [.Assign [.Name m hp] (.Name n ep) ap] pos'] [] [] pos)
      (fun D σ H => tb (wHeld X.K c i j D) D σ H) := by
  constructor
  intro pins s σ H D I h
  have ok := I.ok
  have frm : X.A.frames = some (X.env :: X.outer) := by
    rw [ok.frames, hs]
  apply wpAny_Try_except
  have key : ∀ xe : Value → Shared → Prop, Takes (X.tr (X.pn ++ pins) xe) (wHeld X.K c i j D) → PassesOwn (model X.prog X.w) X.A X.env xe →
      wpAny (model X.prog X.w) X.A (execs body X.env) (fun f s₁ => match f with
        | .next => wpAny (model X.prog X.w) X.A (execs [] X.env) (SP X pins D) X.xe s₁
        | f => SP X pins D f s₁) xe s := by
    intro xe tk po
    apply wpAny_mono ((hb _ _ xe tk po).run [] s σ H D (I.toTry _) h)
    · intro f s1 sp
      cases f with
      | next =>
        obtain ⟨σ1, H1, J1, q1⟩ := sp
        exact wpAny_execs_nil ⟨σ1, H1, J1.ofTry ok, q1⟩
      | brk =>
        obtain ⟨σ1, H1, J1, q1⟩ := sp
        exact ⟨σ1, H1, J1.ofTry ok, q1⟩
      | cont =>
        obtain ⟨σ1, H1, J1, q1⟩ := sp
        exact ⟨σ1, H1, J1.ofTry ok, q1⟩
      | ret u =>
        obtain ⟨v, σ1, H1, J1, r1, q1⟩ := sp
        exact ⟨v, σ1, H1, J1.ofTry ok, r1, q1⟩
    · exact fun _ _ z => z
  refine key _ (fun u s' xx => ?_) PassesOwn.looking
  · obtain ⟨a, B, sI, pins1, σ1, H1, cls, d, rfl, J1, nb, up, sky, na, os, ag, hm, wish⟩ := xx
    have J : Inv X pins σ1 H1 sI := J1.ofTry ok
    rw [hs] at sky nb
    refine Sky.land Zc.steady frm hf sky fun h3 fl up3 => ?_
    have newB : B.get? a = none := fl.2.1
    obtain ⟨o3, v3, g3, z3, d3⟩ := fl.there
    have nfr : a ∉ frs (X.env :: X.outer) := by
      intro q
      obtain ⟨_, o, e, no⟩ := fl.2.2.1.mem q
      rw [g3] at e
      cases e
      exact no _ d3
    have nL : a ≠ X.env.locals := by
      intro q
      refine nfr (List.mem_filterMap.mpr ⟨X.env, List.mem_cons_self, ?_⟩)
      rw [hf, q]
    have nF : a ∉ X.fs := by
      intro q
      obtain ⟨e, he, z⟩ := List.mem_filterMap.mp q
      exact nfr (List.mem_filterMap.mpr ⟨e, List.mem_cons_of_mem _ he, z⟩)
    have notI : ∀ o, sI.heap.get? a ≠ some o := by
      intro o e
      have := nb a o e nfr
      rw [newB] at this
      cases this
    have J3 : Inv X pins σ1 H1 { s' with heap := h3 } := by
      rw [← hs] at nb
      exact J.landed nb fl.1 (up.trans up3) os ag
    have S3 := J3.suite g3 d3 na nL nF
    apply wpAny_handleBy_cons (codeAny_handlers_test ?_) (by intro q; cases q)
    have LT : PySem.W.Looks (model X.prog X.w) h3 (typeOf (.ref a)) cls := by
      intro A Q E s k q
      apply wpAny_typeOf_ref (k _ _ g3)
      rw [z3.1]
      exact q
    have LM := PySem.W.exm_one (M := model X.prog X.w) J3.kIn LT hm
    have look : ∀ {Q : Value → Shared → Prop} {E : Value → Shared → Prop}, Q c { s' with heap := h3 } →
        wpAny (model X.prog X.w) (X.A.mark (some (.ref a))) (eval (.Name x np) X.env) Q E { s' with heap := h3 } := by
      intro Q E q
      obtain ⟨hg, hd1, h1 | ⟨h1, h2, h4⟩⟩ := hc
      · exact ld_glob S3 hg h1 q hd1
      · exact ld_blt S3 hg h1 h2 q h4 hd1
    apply look
    apply LM.here
    apply codeAny_handlers_suite_as
    apply HandSPX.lands_againZ fl
    intro h4 fl4 up4
    have J4 : Inv X pins σ1 H1 { s' with heap := h4 } := by
      rw [← hs] at nb
      exact J.landed nb fl4.1 ((up.trans up3).trans up4) os ag
    obtain ⟨o4, v4, g4, z4, d4⟩ := fl4.there
    have S4 := J4.suite g4 d4 na nL nF
    refine store_ok (X := X.suite a _) (v := .ref a) S4 hN hi (.inl hln) rfl (fun s5 S5 => ?_) (.inr hln)
    -- the suite: m = n
    have su : PSs (X.suite a ((a, o4) :: (X.pn ++ pins))) [.Assign [.Name m hp] (.Name n ep) ap] (tAsg (tVar i) (gName j)) :=
      pss_one (ps_set hN hj (.inl hlm) (pe_var hi (.inl hln) hdb hcd) (hsw a _) (.inr hlm))
    have slot : ((σ1.set i (some (V.ref a))) : L2.St)[i]? = some (some (V.ref a)) := by
      have : i < σ1.length := by
        rw [J.len]
        exact (List.getElem?_eq_some_iff.mp hi).1
      rw [List.getElem?_set_self this]
    have red : tAsg (tVar i) (gName j) { nx := fun σ6 H6 => σ6 = (σ1.set i (some (.ref a))).set j (some (.ref a)) ∧ H6 = H1, rt := fun _ _ => False } (σ1.set i (some (.ref a))) H1 :=
      ⟨_, slot, rfl, rfl⟩
    apply wpAny_mono (su.run [] s5 _ H1 _ S5 red)
    · intro f s6 sp
      cases f with
      | next =>
        obtain ⟨σ6, H6, S6, rfl, rfl⟩ := sp
        refine gone_ok (X := X.suite a _) S6 hN hi hln fun s7 S7 => ?_
        obtain ⟨g7, _, _, _, _⟩ := S7.pin (a, o4) (List.mem_append_left _ List.mem_cons_self)
        have J7 : Inv X pins _ H6 s7 := S7.unsuite ok
        refine ⟨_, _, inv_track J7 g7 z4 d4 na (Ne.symm nL) ?_ ?_, wish a na⟩
        · intro o e
          apply Classical.byContradiction
          intro nx
          obtain ⟨o', q⟩ := J.base.there a o e nx
          exact notI o' q
        · intro p hp q
          obtain ⟨e, _⟩ := J.pin p hp
          rw [q] at e
          exact notI _ e
      | brk =>
        obtain ⟨_, _, _, z⟩ := sp
        exact z.elim
      | cont =>
        obtain ⟨_, _, _, z⟩ := sp
        exact z.elim
      | ret u =>
        obtain ⟨_, _, _, _, _, z⟩ := sp
        exact z.elim
    · exact fun _ _ z => z.elim
end
section
variable {X : Cx}
/-- isinstance(e, c), e a held exception -/
def rIsH (K : PySem.W.Frag) : List V → Hp → VK → Prop := fun xs H Q =>
  ∃ (a D : Addr) (c : V) (cv : Value) (b : Bool), xs = [.ref a, c] ∧ H a = some (ExH (.ref D) none a) ∧ ExcC K D ∧ (∀ u, RelV c u → u = cv) ∧ PySem.W.kitOne K (.ref D) cv = some b ∧ Q (.bl b) H
theorem my_isi : CallR X (.builtin "isinstance") (rIsH X.K) := by
  intro pins s σ H xs us Q I r h
  obtain ⟨a, D, c, cv, b, rfl, ha, C, hcv, e, q⟩ := h
  obtain ⟨u, v, rfl, ru, rv⟩ := r.two
  cases ru
  cases hcv _ rv
  obtain ⟨⟨oe, vs, g, hz, hv⟩, _, _⟩ := I.hok a _ ha
  have J : PySem.W.InstAt s.heap a oe D none := by
    obtain ⟨oc, od, dt, sl⟩ := oe
    obtain ⟨h1, h2⟩ := hz
    simp only at h1 h2 hv
    subst h1 h2 hv
    exact ⟨g, rfl, rfl, trivial⟩
  have kit := PySem.W.handS_kitx_exc (x := a) (ox := oe) C.hg C.hk C.hs C.hd C.ha C.hn C.ht C.hm
  apply PySem.W.kia_one kit I.kIn J e (fun z => nomatch z)
  intro tk
  exact ⟨.bl b, H, I.kept (t' := tk) fun _ _ z => z, rfl, q⟩
/-- xs.count(y), flat things -/
def rCntV (K : PySem.W.Frag) : V → List V → Hp → VK → Prop := fun x xs H Q =>
  ∃ (p : Addr) (ys : List V) (y : V), x = .ref p ∧ xs = [y] ∧ SqL K H p ys ∧ flatV y = true ∧ ys.all flatV = true ∧ Q (.int (ys.countP fun z => eqV z y : Nat)) H
theorem cnt_eqU {y : V} : ∀ {xs : List V} {us : List Value}, Vals xs us → xs.all flatV = true → us.countP (eqU y) = xs.countP fun z => eqV z y
  | _, _, .nil, _ => rfl
  | x :: xs, u :: us, .cons r t, f => by
    obtain ⟨f1, f2⟩ := Bool.and_eq_true_iff.mp (show (flatV x && xs.all flatV) = true from f)
    rw [List.countP_cons, List.countP_cons, cnt_eqU t f2, eqU_of r f1]
theorem my_count : MtR X "list.count" (rCntV X.K) := by
  intro pins s σ H x xs v us Q I rx rxs h
  obtain ⟨p, ys, y, rfl, rfl, hs, fy, fys, q⟩ := h
  cases rx
  obtain ⟨u, rfl, ry⟩ := rxs.one
  obtain ⟨its, rv, ⟨ob, n, ho, hc, hdn, hd⟩, hlen⟩ := I.list hs
  obtain ⟨cls, dd, data, sl⟩ := ob
  simp only at hc hd
  subst hc hd
  refine call_meets PySem.F.slot_list_count ⟨_, ho, rfl⟩ PySem.F.entry_list_count (PySem.F.args_list_count_2 _ _) (SeqAt.list_countAt p its.toArray n dd sl u (eqU y)) ⟨ho, ?_, ?_⟩
  · intro z hz
    exact mem_eqAt ry fy rv fys z (by simpa using hz)
  · have e : its.toArray.toList.countP (eqU y) = ys.countP fun z => eqV z y := by
      simpa using cnt_eqU (y := y) rv fys
    refine ⟨.int _, H, I.tok _, ⟨s.toks, ?_⟩, q⟩
    show Value.int (its.toArray.toList.countP (eqU y) : Nat) s.toks = _
    rw [e]
end
end TR
namespace TR
open PySem PySem.Spec PyProof.Rows L2
/-! ### calls in a try's body: what is raised is wished for at the slots -/
section
variable {X : Cx} {CX : CXT} {k : Nat} {f C : Addr} {fd : FuncData} {ps : List Str} {sp : Sp} {W : WX} {x m : Str} {p pos apos : Pos} {e o : Expr} {es : List Expr} {ta : TE} {t : TA}
def uCallS (sp : Sp) (W : WX) (t : TA) : TE := fun σ H Q => t σ H fun vs H1 => xCall sp vs H1 Q (WE W σ)
def uMethS (C : Addr) (m : Str) (sp : Sp) (W : WX) (ta : TE) (t : TA) : TE := fun σ H Q => ta σ H fun x H1 => ∃ a dx fs, x = .ref a ∧ H1 a = some (.ins C dx fs) ∧ fs.lookup m = none ∧ t σ H1 fun vs H2 => xCall sp (x :: vs) H2 Q (WE W σ)
def uMakeS (C : Addr) (sp : Sp) (W : WX) (t : TA) : TE := fun σ H Q => t σ H fun vs H1 => xMake C sp (WE W σ) vs H1 Q
theorem my_callS (F : FnOk X.prog X.w X.K X.mg X.base (L2.CX X.prog X.w) k f fd ps sp) (hr : Room k X.A) (hg : Gl X x) (hm : X.mg x = some (.ref f))
    (hk : PySem.W.keepIn X.K (.ref f) = true) (hb : Binds X.K fd ps []) (tk : Takes X W) (ha : PA X (e :: es) t)
    (hdb : (x == ("__debug__" : Str)) = false := by decide) (he : starEach (e :: es) X.env = (false, eval e X.env) :: starEach es X.env := by rfl)
    (hpl : (backTo pos (starEach es X.env)).any (·.1) = false := by rfl) : PE X (.Call (.Name x p) (e :: es) [] pos) (uCallS sp W t) := by
  refine PE.le (pe_callS (E := WE W) F hr hg hm hk hb (fun σ => passAt tk σ) ha hdb he hpl) ?_
  intro σ H Q q
  unfold uCallS xCall at q
  exact q
theorem my_methS {pl : Sem Bool} (he : PE X o ta) (c : Cls X.K C) (hm : Meth X.K C m f) (F : FnOk X.prog X.w X.K X.mg X.base (L2.CX X.prog X.w) k f fd ps sp)
    (hr : Room k X.A) (hb : Binds X.K fd ps []) (tk : Takes X W) (ha : PA X (e :: es) t)
    (hst : starEach (e :: es) X.env = (false, eval e X.env) :: starEach es X.env := by rfl) (hpl : (backTo pos (starEach es X.env)).any (·.1) = false := by rfl)
    (ht : eval (.Call (.Attribute o m apos) (e :: es) [] pos) X.env = (do
      let ov ← eval o X.env
      standAt apos.atName
      let (f, first) ← holding [ov] (getMethod ov m pl)
      callWith pos f first (backTo pos (starEach (e :: es) X.env)) (backToKw pos (keywordEach [] X.env))) := by rfl) :
    PE X (.Call (.Attribute o m apos) (e :: es) [] pos) (uMethS C m sp W ta t) := by
  constructor
  intro pins s σ H Q I h
  apply PySem.W.methodCall_KW (pl := pl) _ ht
  apply thn (he.run pins s σ H _ I h)
  rintro u s1 ⟨y, H1, I1, ry, a, dx, fs, rfl, ea, lk, q⟩
  cases ry
  apply getmeth_ok I1 ea c hm lk
  apply PySem.W.callWith_K (first := [.ref a]) (h₀ := X.base) I.ok.mod.kin hm.kp _ hst hpl
  apply thn (ha.run pos pins s1 σ H1 _ I1 q)
  rintro us s2 ⟨vs, H2, I2, r, q2⟩
  refine ⟨I2.kIn, ?_⟩
  unfold xCall at q2
  exact run_fnS (E := WE W) (us := .ref a :: us) (vs := .ref a :: vs) F hr hb (passAt tk σ) I2 (.cons rfl r) q2
theorem my_meth0S {pl : Sem Bool} (he : PE X o ta) (c : Cls X.K C) (hm : Meth X.K C m f) (F : FnOk X.prog X.w X.K X.mg X.base (L2.CX X.prog X.w) k f fd ps sp)
    (hr : Room k X.A) (hb : Binds X.K fd ps []) (tk : Takes X W)
    (ht : eval (.Call (.Attribute o m apos) [] [] pos) X.env = (do
      let ov ← eval o X.env
      standAt apos.atName
      let (f, first) ← holding [ov] (getMethod ov m pl)
      callWith pos f first (backTo pos (starEach [] X.env)) (backToKw pos (keywordEach [] X.env))) := by rfl) :
    PE X (.Call (.Attribute o m apos) [] [] pos) (uMethS C m sp W ta tNil) := by
  constructor
  intro pins s σ H Q I h
  apply PySem.W.methodCall_KW (pl := pl) _ ht
  apply thn (he.run pins s σ H _ I h)
  rintro u s1 ⟨y, H1, I1, ry, a, dx, fs, rfl, ea, lk, q⟩
  cases ry
  apply getmeth_ok I1 ea c hm lk
  have q2 : xCall sp [.ref a] H1 Q (WE W σ) := q
  unfold xCall at q2
  exact PySem.W.callWith_K0 (first := [.ref a]) I1.kIn hm.kp (run_fnS (E := WE W) (us := [.ref a]) (vs := [.ref a]) F hr hb (passAt tk σ) I1 (.cons rfl .nil) q2)
theorem my_makeS (M : Mk X.K C f) (F : FnOk X.prog X.w X.K X.mg X.base (L2.CX X.prog X.w) k f fd ps sp) (hr : Room (k + 1) X.A) (hg : Gl X x) (hm : X.mg x = some (.ref C))
    (hb : Binds X.K fd ps []) (tk : Takes X W) (ha : PA X (e :: es) t)
    (hdb : (x == ("__debug__" : Str)) = false := by decide) (he : starEach (e :: es) X.env = (false, eval e X.env) :: starEach es X.env := by rfl)
    (hpl : (backTo pos (starEach es X.env)).any (·.1) = false := by rfl) : PE X (.Call (.Name x p) (e :: es) [] pos) (uMakeS C sp W t) := by
  constructor
  intro pins s σ H Q I h
  apply wpAny_Call_Name_kw
  apply ld_glob I hg hm _ hdb
  apply PySem.W.callWith_K (h₀ := X.base) I.ok.mod.kin M.kp _ he hpl
  apply thn (ha.run pos pins s σ H _ I h)
  rintro us s1 ⟨vs, H1, I1, r, q⟩
  refine ⟨I1.kIn, ?_⟩
  unfold xMake at q
  have fr := I1.hok.fresh (Nat.le_refl s1.heap.objs.size)
  have fr1 := I1.hok.fresh (Nat.le_succ s1.heap.objs.size)
  have J := Inv.made (C := C) I1
  have q1 := q (s1.heap.objs.size + 1) s1.heap.objs.size fr1 fr (Nat.ne_of_lt (Nat.lt_succ_self _))
  have rs : Vals (V.ref (s1.heap.objs.size + 1) :: vs) (Value.ref (s1.heap.objs.size + 1) :: us) := .cons rfl r
  have ln : (Value.ref (s1.heap.objs.size + 1) :: us).length = ps.length := rs.length.symm.trans (F.len _ _ _ _ q1)
  have bd := hb _ (Value.ref (s1.heap.objs.size + 1) :: us) J.kIn (by rw [List.append_nil]; exact ln)
  rw [List.append_nil] at bd
  have go := F.run _ X.stack _ _ ⟨Value.ref (s1.heap.objs.size + 1) :: us, []⟩ _ _ _ _ (hr.make C us []) (J.env0.make C us []) bd rs q1
  apply wpAny_call
  apply make_map (f := f) I1.kIn M.makes M.init (beq_iff_eq.mp M.fn)
  apply codeAny_mono go
  intro rt s' hq
  cases rt with
  | error e => exact passAt tk σ pins _ _ e s' J hq
  | ok fl =>
    cases fl with
    | ret u =>
      obtain ⟨v, H2, I2, rv, rfl, q2⟩ := J.after hq
      exact ⟨rv, ⟨V.ref (s1.heap.objs.size + 1), H2, I2, rfl, q2⟩⟩
    | next => exact hq.elim
    | brk => exact hq.elim
    | cont => exact hq.elim
end
/-! ### index -/
@[irreducible] def xIndex (K : PySem.W.Frag) : MRd := rIndex K
theorem my_index {X : Cx} : MtR X "list.index" (xIndex X.K) := by unfold xIndex; exact mt_index
theorem st_idx {K : PySem.W.Frag} {H : Hp} {a : Addr} {ys : List V} {y : V} {Q : VK} (j : Nat) (z : V) (hs : SqL K H a ys) (fy : flatV y = true) (fs : ys.all flatV = true) (hz : ys[j]? = some z) (he : eqV z y = true)
    (hno : ∀ m u, m < j → ys[m]? = some u → eqV u y = false) (k : Q (.int j) H) : xIndex K (.ref a) [y] H Q := by
  unfold xIndex; exact ⟨a, ys, y, j, z, rfl, rfl, hs, fy, fs, hz, he, hno, k⟩
theorem flat_ints (ns : List Int) : (ns.map V.int).all flatV = true := by
  rw [List.all_map]; exact List.all_eq_true.mpr fun _ _ => rfl
theorem st_idxI {K : PySem.W.Frag} {H : Hp} {a : Addr} {ns : List Int} {n : Int} {Q : VK} (hs : SqL K H a (ns.map V.int)) (hm : n ∈ ns) (k : Q (.int (ns.idxOf n)) H) : xIndex K (.ref a) [.int n] H Q := by
  have hl := List.idxOf_lt_length_iff.mpr hm
  refine st_idx (ns.idxOf n) (.int n) hs rfl (flat_ints ns) ?_ (by show (n == n) = true; exact beq_self_eq_true n) ?_ k
  · rw [List.getElem?_map, List.getElem?_eq_getElem hl, List.getElem_idxOf hl]; rfl
  · intro m u hm' hu
    rw [List.getElem?_map] at hu
    cases e : ns[m]? with
    | none => rw [e] at hu; cases hu
    | some x =>
      rw [e] at hu
      cases hu
      show (x == n) = false
      obtain ⟨hml, ex⟩ := List.getElem?_eq_some_iff.mp e
      rw [← ex]
      exact List.not_of_lt_findIdx hm'
theorem inV_ints (ns : List Int) (n : Int) : inV (.int n) (ns.map V.int) = decide (n ∈ ns) := by
  unfold inV
  rw [List.any_map]
  by_cases h : n ∈ ns
  · rw [decide_eq_true h]
    exact List.any_eq_true.mpr ⟨n, h, by show (n == n) = true; exact beq_self_eq_true n⟩
  · rw [decide_eq_false h]
    refine Bool.eq_false_iff.mpr fun z => h ?_
    obtain ⟨x, hx, e⟩ := List.any_eq_true.mp z
    have e2 : (x == n) = true := e
    rw [← eq_of_beq e2]
    exact hx
theorem inV_non (ns : List Int) : inV .non (ns.map V.int) = false := by
  unfold inV
  rw [List.any_map]
  exact Bool.eq_false_iff.mpr fun z => by
    obtain ⟨x, _, e⟩ := List.any_eq_true.mp z
    cases e
end TR
namespace TR
open PySem L2
/-! ### data at any depth -/
structure Sh (k : Nat) (d : PyData) : Prop where
  lay : d.canLay0 = true
  dep : d.depth ≤ k
theorem Sh.shaped {k : Nat} {d : PyData} (h : Sh k d) (hk : k ≤ 64) : SeqAt.shaped d = true := by
  unfold SeqAt.shaped
  rw [h.lay, decide_eq_true (Nat.le_trans h.dep hk)]
  rfl
theorem Sh.mono {j k : Nat} {d : PyData} (h : Sh j d) (hk : j ≤ k) : Sh k d := ⟨h.lay, Nat.le_trans h.dep hk⟩
theorem sh_non {k : Nat} : Sh k .none := ⟨by simp only [PyData.canLay0], by simp only [PyData.depth]; exact Nat.zero_le _⟩
theorem sh_bl {k : Nat} (b : Bool) : Sh k (.bool b) := ⟨by simp only [PyData.canLay0], by simp only [PyData.depth]; exact Nat.zero_le _⟩
theorem sh_int {k : Nat} (i : Int) : Sh k (.int i) := ⟨by simp only [PyData.canLay0], by simp only [PyData.depth]; exact Nat.zero_le _⟩
theorem sh_str {k : Nat} {x : Str} (h : PyData.strOk x = true) : Sh k (.str x) := ⟨by simp only [PyData.canLay0]; exact h, by simp only [PyData.depth]; exact Nat.zero_le _⟩
theorem sh_all {k : Nat} : ∀ {ds : List PyData}, (∀ d ∈ ds, Sh k d) → PyData.canLayAll0 ds = true ∧ PyData.depthAll ds ≤ k
  | [], _ => ⟨by simp only [PyData.canLayAll0], by simp only [PyData.depthAll]; exact Nat.zero_le _⟩
  | d :: ds, h => by
    have h1 := h d List.mem_cons_self
    have h2 := sh_all fun e he => h e (List.mem_cons_of_mem _ he)
    refine ⟨?_, ?_⟩
    · simp only [PyData.canLayAll0]
      rw [h1.lay, h2.1]
      rfl
    · simp only [PyData.depthAll]
      exact Nat.max_le.mpr ⟨h1.dep, h2.2⟩
theorem sh_list {k : Nat} {ds : List PyData} (h : ∀ d ∈ ds, Sh k d) : Sh (k + 1) (.list ds) := by
  obtain ⟨h1, h2⟩ := sh_all h
  exact ⟨by simp only [PyData.canLay0]; exact h1, by simp only [PyData.depth]; omega⟩
theorem sh_tup {k : Nat} {ds : List PyData} (h : ∀ d ∈ ds, Sh k d) : Sh (k + 1) (.tuple ds) := by
  obtain ⟨h1, h2⟩ := sh_all h
  exact ⟨by simp only [PyData.canLay0]; exact h1, by simp only [PyData.depth]; omega⟩
theorem sh_nil {k : Nat} : ∀ d ∈ ([] : List PyData), Sh k d := fun _ h => nomatch h
theorem sh_cons {k : Nat} {d : PyData} {ds : List PyData} (h : Sh k d) (h2 : ∀ d ∈ ds, Sh k d) : ∀ e ∈ d :: ds, Sh k e := fun e he => by
  rcases List.mem_cons.mp he with rfl | he
  · exact h
  · exact h2 e he
theorem sh_ints {k : Nat} (ns : List Int) : ∀ d ∈ ns.map PyData.int, Sh k d := fun d hd => by
  obtain ⟨i, _, rfl⟩ := List.mem_map.mp hd
  exact sh_int i
theorem dpAll_ints {K : PySem.W.Frag} {H : Hp} : ∀ ns : List Int, DpAll K H (ns.map V.int) (ns.map PyData.int)
  | [] => .nil
  | n :: ns => .cons (.int n) (dpAll_ints ns)
theorem dp_ints {K : PySem.W.Frag} {H : Hp} {a : Addr} {ns : List Int} (h : SqL K H a (ns.map V.int)) : Dp K H (.ref a) (.list (ns.map PyData.int)) := .lst h (dpAll_ints ns)
@[irreducible] def xEqD (K : PySem.W.Frag) : R2 := rEqD K
@[irreducible] def xNeD (K : PySem.W.Frag) : R2 := rNeD K
section
variable {X : Cx}
theorem my_eqD (hu : X.A.units + 64 < cLine) : OpR X (compareOp .Eq) (xEqD X.K) := by unfold xEqD; exact op_eqD hu
theorem my_neD (hu : X.A.units + 64 < cLine) : OpR X (compareOp .NotEq) (xNeD X.K) := by unfold xNeD; exact op_neD hu
end
section
variable {K : PySem.W.Frag} {H : Hp} {x y : V} {d e : PyData} {Q : VK} {k : Nat}
theorem st_eqD (hx : Dp K H x d) (hy : Dp K H y e) (s : Sh 64 d) (s2 : Sh 64 e) (h : Q (.bl (PyData.eqv d e)) H) : xEqD K x y H Q := by
  unfold xEqD; exact ⟨d, e, hx, hy, s.shaped (Nat.le_refl _), s2.shaped (Nat.le_refl _), h⟩
theorem st_neD (hx : Dp K H x d) (hy : Dp K H y e) (s : Sh 64 d) (s2 : Sh 64 e) (h : Q (.bl (!PyData.eqv d e)) H) : xNeD K x y H Q := by
  unfold xNeD; exact ⟨d, e, hx, hy, s.shaped (Nat.le_refl _), s2.shaped (Nat.le_refl _), h⟩
theorem st_eqS (hx : Dp K H x d) (hy : Dp K H y d) (s : Sh 64 d) (h : Q (.bl true) H) : xEqD K x y H Q := st_eqD hx hy s s (by rw [SeqAt.eqv_refl d s.lay]; exact h)
theorem st_neS (hx : Dp K H x d) (hy : Dp K H y d) (s : Sh 64 d) (h : Q (.bl false) H) : xNeD K x y H Q := st_neD hx hy s s (by rw [SeqAt.eqv_refl d s.lay]; exact h)
end
theorem sorted_same {a b : List Int} (hp : a.Perm b) (ha : a.Pairwise (· ≤ ·)) (hb : b.Pairwise (· ≤ ·)) : a = b :=
  hp.eq_of_pairwise (fun _ _ _ _ h1 h2 => Int.le_antisymm h1 h2) ha hb
/-- the ints a .. b - 1 -/
def rgI (a b : Int) : List Int := (List.range (b - a).toNat).map fun (i : Nat) => a + (i : Int)
theorem rgV_eq (a b : Int) : rgV a b = (rgI a b).map V.int := by unfold rgV rgI; rw [List.map_map]; rfl
theorem rgI_len (a b : Int) : (rgI a b).length = (b - a).toNat := by unfold rgI; rw [List.length_map, List.length_range]
theorem rgI_sorted (a b : Int) : (rgI a b).Pairwise (· ≤ ·) := by
  unfold rgI
  rw [List.pairwise_map]
  exact List.pairwise_lt_range.imp fun h => by omega
/-! ### sorted, repeated lists, comprehensions -/
@[irreducible] def xSorted (K : PySem.W.Frag) : List V → Hp → VK → Prop := rSorted K
@[irreducible] def xRep : R2 := rRep
section
variable {X : Cx}
theorem my_sorted : CallR X (.builtin "sorted") (xSorted X.K) := by unfold xSorted; exact cr_sorted
theorem my_rep : OpR X (binaryOp .Mult) xRep := by unfold xRep; exact op_rep
theorem my_lc {elt tg iter : Expr} {ifs : List Expr} {scope : Scope} {own : List (Str × Nat)} {pos : Pos} {wi : TI} {g : TG} {tt : TT} {te : TE} (hc : X.calm = true) (hN : X.N.Nodup) (hi : PI X tg iter wi) (ok : BlkOk X.N X.env.scope scope own)
    (hg : ∀ (s : Shared) (H : Hp) (C : Addr) (cl : List (Str × Addr)) (fp : List Addr), PG (X.blk s H scope (compEnvC scope cl C X.env) fp) tg g)
    (ht : ∀ (s : Shared) (H : Hp) (C : Addr) (cl : List (Str × Addr)) (fp : List Addr), PTs (X.blk s H scope (compEnvC scope cl C X.env) fp) ifs tt)
    (he : ∀ (s : Shared) (H : Hp) (C : Addr) (cl : List (Str × Addr)) (fp : List Addr), PE (X.blk s H scope (compEnvC scope cl C X.env) fp) elt te) (hs : ∀ x, foldedSetIterable iter X.env x = pure x := by intro _; rfl) :
    PE X (.ListComp elt [⟨tg, iter, ifs, 0⟩] scope pos) (uLc wi g tt te (own.map (·.2))) := by rw [uLc_eq]; exact pe_lc hc hN hi ok hg ht he hs
theorem my_setLc {i : Nat} {y : Str} {py : Pos} {elt tg iter : Expr} {ifs : List Expr} {scope : Scope} {own : List (Str × Nat)} {pos spos : Pos} {wi : TI} {g : TG} {tt : TT} {te : TE} (hc : X.calm = true) (hN : X.N.Nodup) (hy : X.N[i]? = some y) (hyl : X.env.scope.names.lookup y = some .local)
    (hsw : swapsWith (.ListComp elt [⟨tg, iter, ifs, 0⟩] scope pos) (some (.Name y py)) spos.line X.env = pure true) (hi : PI X tg iter wi) (ok : BlkOk X.N X.env.scope scope own)
    (hg : ∀ (s : Shared) (H : Hp) (C : Addr) (cl : List (Str × Addr)) (fp : List Addr), PG (X.blk s H scope (compEnvC scope cl C X.env) fp) tg g)
    (ht : ∀ (s : Shared) (H : Hp) (C : Addr) (cl : List (Str × Addr)) (fp : List Addr), PTs (X.blk s H scope (compEnvC scope cl C X.env) fp) ifs tt)
    (he : ∀ (s : Shared) (H : Hp) (C : Addr) (cl : List (Str × Addr)) (fp : List Addr), PE (X.blk s H scope (compEnvC scope cl C X.env) fp) elt te) (hs : ∀ x, foldedSetIterable iter X.env x = pure x := by intro _; rfl) :
    PS X (.Assign [.Name y py] (.ListComp elt [⟨tg, iter, ifs, 0⟩] scope pos) spos) (tAsg (uLc wi g tt te (own.map (·.2))) (gName i)) := by rw [uLc_eq]; exact ps_setLc hc hN hy hyl hsw hi ok hg ht he hs
end
section
variable {K : PySem.W.Frag} {H0 H : Hp} {L : List Ent} {a : Addr} {xs : List V} {g : TG} {tt : TT} {te : TE} {vs : List Nat} {σ : L2.St} {Q : VK}
theorem st_sorted {ns : List Int} (w : W H0 H L) (hs : SqL K H a (ns.map V.int)) (hl : ns.length < 64) (k : ∀ (ns' : List Int) p H', ns'.Perm ns → ns'.Pairwise (· ≤ ·) → W H0 H' ((p, .lst (ns'.map V.int)) :: L) → Q (.ref p) H') : xSorted K [.ref a] H Q := by
  unfold xSorted; exact ⟨a, ns, rfl, hs, hl, fun ns' p h1 h2 hp => k ns' p _ h1 h2 (w.new _ hp)⟩
theorem st_rep {n : Int} (w : W H0 H L) (i : Nat) (h : L[i]? = some (a, .lst xs)) (h0 : 0 ≤ n) (h1 : n ≤ 1000) (hz : xs.length * n.toNat ≤ 10000) (k : ∀ p H', W H0 H' ((p, .lst (List.replicate n.toNat xs).flatten) :: L) → Q (.ref p) H') : xRep (.ref a) (.int n) H Q := by
  unfold xRep; exact ⟨a, n, xs, rfl, rfl, w.get i h, by omega, by omega, szE (by omega), fun p hp => k p _ (w.new _ hp)⟩
/-- a comprehension's turn has an item -/
@[irreducible] def xAcc (D : Addr) (P : Hp → Prop) (y : V) (H : Hp) : Prop := ∃ acc, H D = some (.lst acc) ∧ acc.length < sizeLine ∧ P (upd H D (.lst (acc ++ [y])))
theorem st_acc {D : Addr} {acc : List V} {y : V} {P : Hp → Prop} (w : W H0 H L) (i : Nat) (h : L[i]? = some (D, .lst acc)) (hz : acc.length < sizeLine) (k : ∀ H', W H0 H' (L.set i (D, .lst (acc ++ [y]))) → P H') : xAcc D P y H := by
  unfold xAcc; exact ⟨acc, w.get i h, hz, k _ (w.set i _ h rfl)⟩
/-- one turn -/
abbrev LcTurn (g : TG) (tt : TT) (te : TE) (vs : List Nat) (σ : L2.St) (D : Addr) (P : Hp → Prop) (x : V) (H : Hp) : Prop :=
  g x (wipe σ vs) H fun σ2 H2 => wipe σ2 vs = wipe σ vs ∧ tt σ2 H2 fun b H3 => xIf b (te σ2 H3 fun y H4 => xAcc D P y H4) (P H3)
theorem st_lcL (Pv : Addr → Nat → Hp → Prop) (w : W H0 H L) (h0 : ∀ D H', W H0 H' ((D, .lst []) :: L) → Pv D 0 H') (hl : ∀ D i H, i ≤ xs.length → Pv D i H → SqL K H a xs)
    (hs : ∀ D i x H, xs[i]? = some x → Pv D i H → LcTurn g tt te vs σ D (Pv D (i + 1)) x H) (hd : ∀ D H, Pv D xs.length H → Q (.ref D) H) : xLc (Itl K a) g tt te vs σ H Q := by
  unfold LcTurn xIf xAcc at hs
  unfold xLc; exact fun D hD => lc_list (Pv D) (h0 D _ (w.new _ hD)) (hl D) (hs D) (hd D)
theorem st_lcR {lo : Int} {n : Nat} (Pv : Addr → Nat → Hp → Prop) (w : W H0 H L) (h0 : ∀ D H', W H0 H' ((D, .lst []) :: L) → Pv D 0 H')
    (hs : ∀ D i H, i < n → Pv D i H → LcTurn g tt te vs σ D (Pv D (i + 1)) (.int (lo + (i : Int))) H) (hd : ∀ D H, Pv D n H → Q (.ref D) H) : xLc (Itr lo n) g tt te vs σ H Q := by
  unfold LcTurn xIf xAcc at hs
  unfold xLc; exact fun D hD => lc_range (Pv D) (h0 D _ (w.new _ hD)) (hs D) (hd D)
theorem st_lcT (Pv : Addr → Nat → Hp → Prop) (w : W H0 H L) (h0 : ∀ D H', W H0 H' ((D, .lst []) :: L) → Pv D 0 H') (hl : ∀ D i H, i ≤ xs.length → Pv D i H → SqT K H a xs)
    (hs : ∀ D i x H, xs[i]? = some x → Pv D i H → LcTurn g tt te vs σ D (Pv D (i + 1)) x H) (hd : ∀ D H, Pv D xs.length H → Q (.ref D) H) : xLc (Itt K a) g tt te vs σ H Q := by
  unfold LcTurn xIf xAcc at hs
  unfold xLc; exact fun D hD => lc_tup (Pv D) (h0 D _ (w.new _ hD)) (hl D) (hs D) (hd D)
end
end TR
namespace TR
open PySem PySem.Spec PyProof.Rows L2
/-! ### the head's facts: what the module's names reach, level by level -/
def grow1 (g : Addr → Option Obj) (as : List Addr) : List Addr := as.flatMap fun a => match g a with
  | some o => He.refsD o
  | none => []
/-- forced, so that it is reckoned once -/
def frL {α : Type} (l : List Addr) (k : List Addr → α) : α := match l with
  | [] => k []
  | a :: r => HandSHeadRun.frNat a fun a => frL r fun r => k (a :: r)
theorem frL_eq {α : Type} : ∀ (l : List Addr) (k : List Addr → α), frL l k = k l
  | [], _ => rfl
  | a :: r, k => by
    show HandSHeadRun.frNat a (fun a => frL r fun r => k (a :: r)) = k (a :: r)
    rw [HandSHeadRun.frNat_eq, frL_eq r]
def asM (g : Addr → Option Obj) : List Addr := frL (grow1 g [mainGlobals]) fun l1 => frL (grow1 g l1).eraseDups fun l2 => frL (grow1 g l2).eraseDups fun l3 => frL (grow1 g l3).eraseDups fun l4 => mainGlobals :: (l1 ++ (l2 ++ (l3 ++ l4)))
abbrev AlM : Type := He.AlD × Bool
def obsK (fa : List He.Fa) (fn : List He.DefD) (ex : PySem.W.Frag → Bool) (K : PySem.W.Frag) : AlM := (He.obsD fa fn K, ex K)
def obsM (fa : List He.Fa) (fn : List He.DefD) (ex : PySem.W.Frag → Bool) (g : Addr → Option Obj) : AlM := frL (asM g) fun as => obsK fa fn ex (He.frG g as)
structure SaysM (fa : List He.Fa) (fn : List He.DefD) (ex : PySem.W.Frag → Bool) (K : PySem.W.Frag) : Prop where
  d : He.SaysD fa fn K
  more : ex K = true
theorem saysM_of {fa : List He.Fa} {fn : List He.DefD} {ex : PySem.W.Frag → Bool} {h : Heap} (e : obsM fa fn ex h.get? = (He.valD fn, true)) : ∃ K : PySem.W.Frag, K.In h ∧ SaysM fa fn ex K := by
  unfold obsM at e
  rw [frL_eq] at e
  exact ⟨_, He.frG_in, congrArg (fun z : AlM => z.1) e, congrArg (fun z : AlM => z.2) e⟩
def hookM (fa : List He.Fa) (fn : List He.DefD) (ex : PySem.W.Frag → Bool) : PySem.W.Hook where
  α := AlM
  obs := fun s => obsM fa fn ex s.heap.get?
  val := fun _ => (He.valD fn, true)
  says := fun _ h => ∃ K : PySem.W.Frag, K.In h ∧ SaysM fa fn ex K
  of := fun _ _ e => saysM_of e
  keeps := fun _ _ _ ⟨K, hK, c⟩ k => ⟨K, PySem.W.Frag.In.keeps hK k, c⟩
theorem obsM_eq {fa : List He.Fa} {fn : List He.DefD} {ex : PySem.W.Frag → Bool} {g : Addr → Option Obj} {s : Shared} (h : ∀ a, g a = s.heap.get? a) : obsM fa fn ex g = (hookM fa fn ex).obs s := by
  have e : g = s.heap.get? := funext h
  rw [e] <;> rfl
/-- two looks at one run -/
theorem map2 {α β γ : Type} {o : Option α} {f : α → β} {g : α → γ} {b : β} {c : γ} (h1 : o.map f = some b) (h2 : o.map g = some c) : o.map (fun s => (f s, g s)) = some (b, c) := by
  cases o with
  | none => cases h1
  | some s =>
    cases h1
    cases h2
    rfl
theorem run_split {r : PySem.W.OpenRow} {q : Program} {H : PySem.W.Hook} {ob : PySem.W.SharedT → H.α} {M : Nat} {loose : List PySem.Str} {w : World}
    (h1 : ∀ os : OsState, (HandSHeadRun.endF (HandSHeadRun.stepQ (HandSHeadRun.denQ HandSHeadRun.tabQ) r.prog w) M r.prog w os).map (fun s => (HandSHeadRun.looksF r.prog (PySem.W.boot_heap w.params) s.abs, HandSHeadRun.seenQ q loose (PySem.importedModules r.prog.main.body) (fun s => PySem.W.xlAt q [] s && PySem.W.recOk r.toRowW.records s) s.abs)) = some (true, PySem.W.openGood q loose))
    (h2 : ∀ os : OsState, (HandSHeadRun.endF (HandSHeadRun.stepQ (HandSHeadRun.denQ HandSHeadRun.tabQ) r.prog w) M r.prog w os).map ob = some (H.val w)) : HandSHeadRun.RunEq r q H ob M loose w := by
  intro os
  have e := map2 (h1 os) (h2 os)
  cases o : HandSHeadRun.endF (HandSHeadRun.stepQ (HandSHeadRun.denQ HandSHeadRun.tabQ) r.prog w) M r.prog w os with
  | none => rw [o] at e; cases e
  | some s =>
    rw [o] at e
    have e1 := Option.some.inj e
    obtain ⟨e2, e3⟩ := Prod.mk.inj e1
    obtain ⟨e4, e5⟩ := Prod.mk.inj e2
    exact congrArg some (Prod.ext e4 (Prod.ext e5 e3))
end TR
namespace TR
open PySem L2
def top (i : Nat) : Stmt := PySem.Challenge.pw_tuneroad_k02_whole_dice.main.body.getD i (.Pass ⟨0, 0, 0, 0⟩)
abbrev s_wall : Stmt := top 0
abbrev N_wall : List Str := ["k"]
abbrev P_wall : List Str := ["k"]
theorem sc_wall : FnScope N_wall P_wall (defScope s_wall) := ⟨rfl, rfl, rfl, by decide +kernel, rfl, by decide +kernel, by decide +kernel⟩
abbrev s_Dice_init__ : Stmt := inClass (top 12) 0
abbrev N_Dice_init__ : List Str := ["self", "seed"]
abbrev P_Dice_init__ : List Str := ["self", "seed"]
theorem sc_Dice_init__ : FnScope N_Dice_init__ P_Dice_init__ (defScope s_Dice_init__) := ⟨rfl, rfl, rfl, by decide +kernel, rfl, by decide +kernel, by decide +kernel⟩
abbrev s_Dice_below : Stmt := inClass (top 12) 1
abbrev N_Dice_below : List Str := ["self", "many"]
abbrev P_Dice_below : List Str := ["self", "many"]
theorem sc_Dice_below : FnScope N_Dice_below P_Dice_below (defScope s_Dice_below) := ⟨rfl, rfl, rfl, by decide +kernel, rfl, by decide +kernel, by decide +kernel⟩
abbrev s_Dice_twin : Stmt := inClass (top 12) 2
abbrev N_Dice_twin : List Str := ["self"]
abbrev P_Dice_twin : List Str := ["self"]
theorem sc_Dice_twin : FnScope N_Dice_twin P_Dice_twin (defScope s_Dice_twin) := ⟨rfl, rfl, rfl, by decide +kernel, rfl, by decide +kernel, by decide +kernel⟩
abbrev s_mixed : Stmt := top 13
abbrev N_mixed : List Str := ["dice", "some", "found", "k", "other"]
abbrev P_mixed : List Str := ["dice", "some"]
theorem sc_mixed : FnScope N_mixed P_mixed (defScope s_mixed) := ⟨rfl, rfl, rfl, by decide +kernel, rfl, by decide +kernel, by decide +kernel⟩
abbrev s_law_cell : Stmt := top 15
abbrev N_law_cell : List Str := ["script", "k"]
abbrev P_law_cell : List Str := ["script", "k"]
theorem sc_law_cell : FnScope N_law_cell P_law_cell (defScope s_law_cell) := ⟨rfl, rfl, rfl, by decide +kernel, rfl, by decide +kernel, by decide +kernel⟩
abbrev s_law_mix : Stmt := top 16
abbrev N_law_mix : List Str := ["script", "k", "number"]
abbrev P_law_mix : List Str := ["script", "k"]
theorem sc_law_mix : FnScope N_law_mix P_law_mix (defScope s_law_mix) := ⟨rfl, rfl, rfl, by decide +kernel, rfl, by decide +kernel, by decide +kernel⟩
abbrev s_law_draw : Stmt := top 17
abbrev N_law_draw : List Str := ["script", "town", "many"]
abbrev P_law_draw : List Str := ["script", "town", "many"]
theorem sc_law_draw : FnScope N_law_draw P_law_draw (defScope s_law_draw) := ⟨rfl, rfl, rfl, by decide +kernel, rfl, by decide +kernel, by decide +kernel⟩
abbrev s_law_pick : Stmt := top 18
abbrev N_law_pick : List Str := ["script", "town", "some"]
abbrev P_law_pick : List Str := ["script", "town", "some"]
theorem sc_law_pick : FnScope N_law_pick P_law_pick (defScope s_law_pick) := ⟨rfl, rfl, rfl, by decide +kernel, rfl, by decide +kernel, by decide +kernel⟩
abbrev s_law_refusal : Stmt := top 19
abbrev N_law_refusal : List Str := ["held", "kinds"]
abbrev P_law_refusal : List Str := ["held"]
theorem sc_law_refusal : FnScope N_law_refusal P_law_refusal (defScope s_law_refusal) := ⟨rfl, rfl, rfl, by decide +kernel, rfl, by decide +kernel, by decide +kernel⟩
abbrev s_law_below : Stmt := top 20
abbrev N_law_below : List Str := ["dice", "many"]
abbrev P_law_below : List Str := ["dice", "many"]
theorem sc_law_below : FnScope N_law_below P_law_below (defScope s_law_below) := ⟨rfl, rfl, rfl, by decide +kernel, rfl, by decide +kernel, by decide +kernel⟩
abbrev s_law_mixed : Stmt := top 21
abbrev N_law_mixed : List Str := ["dice", "some", "found", "k", "other", "one"]
abbrev P_law_mixed : List Str := ["dice", "some"]
theorem sc_law_mixed : FnScope N_law_mixed P_law_mixed (defScope s_law_mixed) := ⟨rfl, rfl, rfl, by decide +kernel, rfl, by decide +kernel, by decide +kernel⟩
abbrev s_law_told : Stmt := top 22
abbrev N_law_told : List Str := ["dice", "many", "held", "found", "e"]
abbrev P_law_told : List Str := ["dice", "many"]
theorem sc_law_told : FnScope N_law_told P_law_told (defScope s_law_told) := ⟨rfl, rfl, rfl, by decide +kernel, rfl, by decide +kernel, by decide +kernel⟩
abbrev s_law : Stmt := top 23
abbrev N_law : List Str := ["script", "town", "seed", "dice", "own", "k", "many", "some", "given", "found", "bad"]
abbrev P_law : List Str := ["script"]
theorem sc_law : FnScope N_law P_law (defScope s_law) := ⟨rfl, rfl, rfl, by decide +kernel, rfl, by decide +kernel, by decide +kernel⟩
end TR
namespace TR
open PySem L2
structure Ads where
  c_RoadError : Addr
  c_BadTune : Addr
  c_BadNumber : Addr
  c_BadEntry : Addr
  c_BadWord : Addr
  c_Dice : Addr
  f_wall : Addr
  f_Dice_init__ : Addr
  f_Dice_below : Addr
  f_Dice_twin : Addr
  f_mixed : Addr
  f_law_cell : Addr
  f_law_mix : Addr
  f_law_draw : Addr
  f_law_pick : Addr
  f_law_refusal : Addr
  f_law_below : Addr
  f_law_mixed : Addr
  f_law_told : Addr
  f_law : Addr
  d_wall : FuncData
  d_Dice_init__ : FuncData
  d_Dice_below : FuncData
  d_Dice_twin : FuncData
  d_mixed : FuncData
  d_law_cell : FuncData
  d_law_mix : FuncData
  d_law_draw : FuncData
  d_law_pick : FuncData
  d_law_refusal : FuncData
  d_law_below : FuncData
  d_law_mixed : FuncData
  d_law_told : FuncData
  d_law : FuncData
structure Txt (K : PySem.W.Frag) (mg : Str → Option Value) (A : Ads) : Prop where
  z_ValueError : mg "ValueError" = none
  z_isinstance : mg "isinstance" = none
  z_len : mg "len" = none
  z_list : mg "list" = none
  z_range : mg "range" = none
  z_sorted : mg "sorted" = none
  gi_WHEEL : ∃ t, mg "WHEEL" = some (.int 6075 t)
  gi_TIMES : ∃ t, mg "TIMES" = some (.int 106 t)
  gi_MORE : ∃ t, mg "MORE" = some (.int 1283 t)
  gi_MOST : ∃ t, mg "MOST" = some (.int 60 t)
  g_RoadError : mg "RoadError" = some (.ref A.c_RoadError)
  g_BadTune : mg "BadTune" = some (.ref A.c_BadTune)
  g_BadNumber : mg "BadNumber" = some (.ref A.c_BadNumber)
  g_BadEntry : mg "BadEntry" = some (.ref A.c_BadEntry)
  g_BadWord : mg "BadWord" = some (.ref A.c_BadWord)
  g_Dice : mg "Dice" = some (.ref A.c_Dice)
  c_Dice : Cls K A.c_Dice
  M_Dice : Mk K A.c_Dice A.f_Dice_init__
  n_Dice_number : NoAttr K A.c_Dice "number"
  x_RoadError : PySem.W.excIn K A.c_RoadError He.veBase "ValueError.__new__" = true
  k_RoadError : PySem.W.keepIn K (.ref A.c_RoadError) = true
  r_RoadError : PySem.W.subIn K (.ref A.c_RoadError) (.type "BaseException") = some true
  t_RoadError : PySem.W.typeIn K (.ref A.c_RoadError) = some (.type "type")
  e_RoadError : ExcC K A.c_RoadError
  m_RoadError : PySem.W.exmOne K (.ref A.c_RoadError) (.ref A.c_RoadError) = some true
  i_RoadError_RoadError : PySem.W.kitOne K (.ref A.c_RoadError) (.ref A.c_RoadError) = some true
  i_RoadError_BadTune : PySem.W.kitOne K (.ref A.c_RoadError) (.ref A.c_BadTune) = some false
  i_RoadError_BadNumber : PySem.W.kitOne K (.ref A.c_RoadError) (.ref A.c_BadNumber) = some false
  i_RoadError_BadEntry : PySem.W.kitOne K (.ref A.c_RoadError) (.ref A.c_BadEntry) = some false
  i_RoadError_BadWord : PySem.W.kitOne K (.ref A.c_RoadError) (.ref A.c_BadWord) = some false
  i_RoadError_ValueError : PySem.W.kitOne K (.ref A.c_RoadError) (.type "ValueError") = some true
  x_BadTune : PySem.W.excIn K A.c_BadTune He.veBase "ValueError.__new__" = true
  k_BadTune : PySem.W.keepIn K (.ref A.c_BadTune) = true
  r_BadTune : PySem.W.subIn K (.ref A.c_BadTune) (.type "BaseException") = some true
  t_BadTune : PySem.W.typeIn K (.ref A.c_BadTune) = some (.type "type")
  e_BadTune : ExcC K A.c_BadTune
  m_BadTune : PySem.W.exmOne K (.ref A.c_BadTune) (.ref A.c_RoadError) = some true
  i_BadTune_RoadError : PySem.W.kitOne K (.ref A.c_BadTune) (.ref A.c_RoadError) = some true
  i_BadTune_BadTune : PySem.W.kitOne K (.ref A.c_BadTune) (.ref A.c_BadTune) = some true
  i_BadTune_BadNumber : PySem.W.kitOne K (.ref A.c_BadTune) (.ref A.c_BadNumber) = some false
  i_BadTune_BadEntry : PySem.W.kitOne K (.ref A.c_BadTune) (.ref A.c_BadEntry) = some false
  i_BadTune_BadWord : PySem.W.kitOne K (.ref A.c_BadTune) (.ref A.c_BadWord) = some false
  i_BadTune_ValueError : PySem.W.kitOne K (.ref A.c_BadTune) (.type "ValueError") = some true
  x_BadNumber : PySem.W.excIn K A.c_BadNumber He.veBase "ValueError.__new__" = true
  k_BadNumber : PySem.W.keepIn K (.ref A.c_BadNumber) = true
  r_BadNumber : PySem.W.subIn K (.ref A.c_BadNumber) (.type "BaseException") = some true
  t_BadNumber : PySem.W.typeIn K (.ref A.c_BadNumber) = some (.type "type")
  e_BadNumber : ExcC K A.c_BadNumber
  m_BadNumber : PySem.W.exmOne K (.ref A.c_BadNumber) (.ref A.c_RoadError) = some true
  i_BadNumber_RoadError : PySem.W.kitOne K (.ref A.c_BadNumber) (.ref A.c_RoadError) = some true
  i_BadNumber_BadTune : PySem.W.kitOne K (.ref A.c_BadNumber) (.ref A.c_BadTune) = some false
  i_BadNumber_BadNumber : PySem.W.kitOne K (.ref A.c_BadNumber) (.ref A.c_BadNumber) = some true
  i_BadNumber_BadEntry : PySem.W.kitOne K (.ref A.c_BadNumber) (.ref A.c_BadEntry) = some false
  i_BadNumber_BadWord : PySem.W.kitOne K (.ref A.c_BadNumber) (.ref A.c_BadWord) = some false
  i_BadNumber_ValueError : PySem.W.kitOne K (.ref A.c_BadNumber) (.type "ValueError") = some true
  x_BadEntry : PySem.W.excIn K A.c_BadEntry He.veBase "ValueError.__new__" = true
  k_BadEntry : PySem.W.keepIn K (.ref A.c_BadEntry) = true
  r_BadEntry : PySem.W.subIn K (.ref A.c_BadEntry) (.type "BaseException") = some true
  t_BadEntry : PySem.W.typeIn K (.ref A.c_BadEntry) = some (.type "type")
  e_BadEntry : ExcC K A.c_BadEntry
  m_BadEntry : PySem.W.exmOne K (.ref A.c_BadEntry) (.ref A.c_RoadError) = some true
  i_BadEntry_RoadError : PySem.W.kitOne K (.ref A.c_BadEntry) (.ref A.c_RoadError) = some true
  i_BadEntry_BadTune : PySem.W.kitOne K (.ref A.c_BadEntry) (.ref A.c_BadTune) = some false
  i_BadEntry_BadNumber : PySem.W.kitOne K (.ref A.c_BadEntry) (.ref A.c_BadNumber) = some false
  i_BadEntry_BadEntry : PySem.W.kitOne K (.ref A.c_BadEntry) (.ref A.c_BadEntry) = some true
  i_BadEntry_BadWord : PySem.W.kitOne K (.ref A.c_BadEntry) (.ref A.c_BadWord) = some false
  i_BadEntry_ValueError : PySem.W.kitOne K (.ref A.c_BadEntry) (.type "ValueError") = some true
  x_BadWord : PySem.W.excIn K A.c_BadWord He.veBase "ValueError.__new__" = true
  k_BadWord : PySem.W.keepIn K (.ref A.c_BadWord) = true
  r_BadWord : PySem.W.subIn K (.ref A.c_BadWord) (.type "BaseException") = some true
  t_BadWord : PySem.W.typeIn K (.ref A.c_BadWord) = some (.type "type")
  e_BadWord : ExcC K A.c_BadWord
  m_BadWord : PySem.W.exmOne K (.ref A.c_BadWord) (.ref A.c_RoadError) = some true
  i_BadWord_RoadError : PySem.W.kitOne K (.ref A.c_BadWord) (.ref A.c_RoadError) = some true
  i_BadWord_BadTune : PySem.W.kitOne K (.ref A.c_BadWord) (.ref A.c_BadTune) = some false
  i_BadWord_BadNumber : PySem.W.kitOne K (.ref A.c_BadWord) (.ref A.c_BadNumber) = some false
  i_BadWord_BadEntry : PySem.W.kitOne K (.ref A.c_BadWord) (.ref A.c_BadEntry) = some false
  i_BadWord_BadWord : PySem.W.kitOne K (.ref A.c_BadWord) (.ref A.c_BadWord) = some true
  i_BadWord_ValueError : PySem.W.kitOne K (.ref A.c_BadWord) (.type "ValueError") = some true
  F_wall : Fun K "_wall" "_wall" s_wall A.f_wall A.d_wall
  b_wall : Binds K A.d_wall P_wall []
  g_wall : mg "_wall" = some (.ref A.f_wall)
  k_wall : PySem.W.keepIn K (.ref A.f_wall) = true
  F_Dice_init__ : Fun K "__init__" "Dice.__init__" s_Dice_init__ A.f_Dice_init__ A.d_Dice_init__
  b_Dice_init__ : Binds K A.d_Dice_init__ P_Dice_init__ []
  m_Dice_init__ : Meth K A.c_Dice "__init__" A.f_Dice_init__
  F_Dice_below : Fun K "below" "Dice.below" s_Dice_below A.f_Dice_below A.d_Dice_below
  b_Dice_below : Binds K A.d_Dice_below P_Dice_below []
  m_Dice_below : Meth K A.c_Dice "below" A.f_Dice_below
  F_Dice_twin : Fun K "twin" "Dice.twin" s_Dice_twin A.f_Dice_twin A.d_Dice_twin
  b_Dice_twin : Binds K A.d_Dice_twin P_Dice_twin []
  m_Dice_twin : Meth K A.c_Dice "twin" A.f_Dice_twin
  F_mixed : Fun K "mixed" "mixed" s_mixed A.f_mixed A.d_mixed
  b_mixed : Binds K A.d_mixed P_mixed []
  g_mixed : mg "mixed" = some (.ref A.f_mixed)
  k_mixed : PySem.W.keepIn K (.ref A.f_mixed) = true
  F_law_cell : Fun K "_law_cell" "_law_cell" s_law_cell A.f_law_cell A.d_law_cell
  b_law_cell : Binds K A.d_law_cell P_law_cell []
  g_law_cell : mg "_law_cell" = some (.ref A.f_law_cell)
  k_law_cell : PySem.W.keepIn K (.ref A.f_law_cell) = true
  F_law_mix : Fun K "_law_mix" "_law_mix" s_law_mix A.f_law_mix A.d_law_mix
  b_law_mix : Binds K A.d_law_mix P_law_mix []
  g_law_mix : mg "_law_mix" = some (.ref A.f_law_mix)
  k_law_mix : PySem.W.keepIn K (.ref A.f_law_mix) = true
  F_law_draw : Fun K "_law_draw" "_law_draw" s_law_draw A.f_law_draw A.d_law_draw
  b_law_draw : Binds K A.d_law_draw P_law_draw []
  g_law_draw : mg "_law_draw" = some (.ref A.f_law_draw)
  k_law_draw : PySem.W.keepIn K (.ref A.f_law_draw) = true
  F_law_pick : Fun K "_law_pick" "_law_pick" s_law_pick A.f_law_pick A.d_law_pick
  b_law_pick : Binds K A.d_law_pick P_law_pick []
  g_law_pick : mg "_law_pick" = some (.ref A.f_law_pick)
  k_law_pick : PySem.W.keepIn K (.ref A.f_law_pick) = true
  F_law_refusal : Fun K "_law_refusal" "_law_refusal" s_law_refusal A.f_law_refusal A.d_law_refusal
  b_law_refusal : Binds K A.d_law_refusal P_law_refusal []
  g_law_refusal : mg "_law_refusal" = some (.ref A.f_law_refusal)
  k_law_refusal : PySem.W.keepIn K (.ref A.f_law_refusal) = true
  F_law_below : Fun K "_law_below" "_law_below" s_law_below A.f_law_below A.d_law_below
  b_law_below : Binds K A.d_law_below P_law_below []
  g_law_below : mg "_law_below" = some (.ref A.f_law_below)
  k_law_below : PySem.W.keepIn K (.ref A.f_law_below) = true
  F_law_mixed : Fun K "_law_mixed" "_law_mixed" s_law_mixed A.f_law_mixed A.d_law_mixed
  b_law_mixed : Binds K A.d_law_mixed P_law_mixed []
  g_law_mixed : mg "_law_mixed" = some (.ref A.f_law_mixed)
  k_law_mixed : PySem.W.keepIn K (.ref A.f_law_mixed) = true
  F_law_told : Fun K "_law_told" "_law_told" s_law_told A.f_law_told A.d_law_told
  b_law_told : Binds K A.d_law_told P_law_told []
  g_law_told : mg "_law_told" = some (.ref A.f_law_told)
  k_law_told : PySem.W.keepIn K (.ref A.f_law_told) = true
  F_law : Fun K "law" "law" s_law A.f_law A.d_law
  b_law : Binds K A.d_law P_law []
  g_law : mg "law" = some (.ref A.f_law)
  k_law : PySem.W.keepIn K (.ref A.f_law) = true
end TR
namespace TR
open PySem L2
def fl_Dice (a0 : V) : List (Str × V) := [("number", a0)]
theorem fl_Dice_number (a0 : V) : (fl_Dice a0).lookup ("number" : Str) = some a0 := by kernel_rfl
theorem st_Dice_number (a0 b : V) : putF "number" b (fl_Dice a0) = fl_Dice b := by kernel_rfl
theorem no_Dice_init__ (a0 : V) : (fl_Dice a0).lookup ("__init__" : Str) = none := by kernel_rfl
theorem no_Dice_below (a0 : V) : (fl_Dice a0).lookup ("below" : Str) = none := by kernel_rfl
theorem no_Dice_twin (a0 : V) : (fl_Dice a0).lookup ("twin" : Str) = none := by kernel_rfl
theorem sf_Dice_number {K : PySem.W.Frag} {mg : Str → Option Value} {A : Ads} {H0 H : Hp} {L : List Ent} {l dx : Addr} {a0 y : V} {QH : Hp → Prop} (T : Txt K mg A) (w : W H0 H L) (i : Nat) (h : L[i]? = some (l, .ins A.c_Dice dx (fl_Dice a0))) (k : ∀ H', W H0 H' (L.set i (l, .ins A.c_Dice dx (fl_Dice y))) → QH H') : xFldSt K "number" (.ref l) y H QH := st_fld w i h T.c_Dice T.n_Dice_number (by show 1 < 1000; decide) (by rw [st_Dice_number]; exact k)
theorem ln_Dice (a0 : V) : (fl_Dice a0).length < 1000 := by show 1 < 1000; decide
end TR

local macro_rules | `(tactic| walk_at "cls") => `(tactic| first
  | exact TR.Txt.c_Dice ‹TR.Txt _ _ _›)
local macro_rules | `(tactic| walk_at "noat") => `(tactic| first
  | exact TR.Txt.n_Dice_number ‹TR.Txt _ _ _›)
local macro_rules | `(tactic| walk_at "excc") => `(tactic| first
  | exact TR.Txt.e_RoadError ‹TR.Txt _ _ _›
  | exact TR.Txt.e_BadTune ‹TR.Txt _ _ _›
  | exact TR.Txt.e_BadNumber ‹TR.Txt _ _ _›
  | exact TR.Txt.e_BadEntry ‹TR.Txt _ _ _›
  | exact TR.Txt.e_BadWord ‹TR.Txt _ _ _›)
local macro_rules | `(tactic| walk_at "kit") => `(tactic| first
  | exact TR.Txt.i_RoadError_RoadError ‹TR.Txt _ _ _›
  | exact TR.Txt.i_RoadError_BadTune ‹TR.Txt _ _ _›
  | exact TR.Txt.i_RoadError_BadNumber ‹TR.Txt _ _ _›
  | exact TR.Txt.i_RoadError_BadEntry ‹TR.Txt _ _ _›
  | exact TR.Txt.i_RoadError_BadWord ‹TR.Txt _ _ _›
  | exact TR.Txt.i_RoadError_ValueError ‹TR.Txt _ _ _›
  | exact TR.Txt.i_BadTune_RoadError ‹TR.Txt _ _ _›
  | exact TR.Txt.i_BadTune_BadTune ‹TR.Txt _ _ _›
  | exact TR.Txt.i_BadTune_BadNumber ‹TR.Txt _ _ _›
  | exact TR.Txt.i_BadTune_BadEntry ‹TR.Txt _ _ _›
  | exact TR.Txt.i_BadTune_BadWord ‹TR.Txt _ _ _›
  | exact TR.Txt.i_BadTune_ValueError ‹TR.Txt _ _ _›
  | exact TR.Txt.i_BadNumber_RoadError ‹TR.Txt _ _ _›
  | exact TR.Txt.i_BadNumber_BadTune ‹TR.Txt _ _ _›
  | exact TR.Txt.i_BadNumber_BadNumber ‹TR.Txt _ _ _›
  | exact TR.Txt.i_BadNumber_BadEntry ‹TR.Txt _ _ _›
  | exact TR.Txt.i_BadNumber_BadWord ‹TR.Txt _ _ _›
  | exact TR.Txt.i_BadNumber_ValueError ‹TR.Txt _ _ _›
  | exact TR.Txt.i_BadEntry_RoadError ‹TR.Txt _ _ _›
  | exact TR.Txt.i_BadEntry_BadTune ‹TR.Txt _ _ _›
  | exact TR.Txt.i_BadEntry_BadNumber ‹TR.Txt _ _ _›
  | exact TR.Txt.i_BadEntry_BadEntry ‹TR.Txt _ _ _›
  | exact TR.Txt.i_BadEntry_BadWord ‹TR.Txt _ _ _›
  | exact TR.Txt.i_BadEntry_ValueError ‹TR.Txt _ _ _›
  | exact TR.Txt.i_BadWord_RoadError ‹TR.Txt _ _ _›
  | exact TR.Txt.i_BadWord_BadTune ‹TR.Txt _ _ _›
  | exact TR.Txt.i_BadWord_BadNumber ‹TR.Txt _ _ _›
  | exact TR.Txt.i_BadWord_BadEntry ‹TR.Txt _ _ _›
  | exact TR.Txt.i_BadWord_BadWord ‹TR.Txt _ _ _›
  | exact TR.Txt.i_BadWord_ValueError ‹TR.Txt _ _ _›)
local macro_rules | `(tactic| walk_at "kt") => `(tactic| first
  | fail)
local macro_rules | `(tactic| walk_at "hg") => `(tactic| first
  | exact TR.W.get ‹TR.W _ _ _› 0 rfl | exact TR.W.get ‹TR.W _ _ _› 1 rfl | exact TR.W.get ‹TR.W _ _ _› 2 rfl | exact TR.W.get ‹TR.W _ _ _› 3 rfl
  | exact TR.W.get ‹TR.W _ _ _› 4 rfl | exact TR.W.get ‹TR.W _ _ _› 5 rfl | exact TR.W.get ‹TR.W _ _ _› 6 rfl | exact TR.W.get ‹TR.W _ _ _› 7 rfl
  | exact TR.W.get ‹TR.W _ _ _› 8 rfl | exact TR.W.get ‹TR.W _ _ _› 9 rfl | exact TR.W.get ‹TR.W _ _ _› 10 rfl | exact TR.W.get ‹TR.W _ _ _› 11 rfl
  | exact TR.W.get ‹TR.W _ _ _› 12 rfl | exact TR.W.get ‹TR.W _ _ _› 13 rfl | exact TR.W.get ‹TR.W _ _ _› 14 rfl | exact TR.W.get ‹TR.W _ _ _› 15 rfl
  | exact TR.W.get ‹TR.W _ _ _› 16 rfl | exact TR.W.get ‹TR.W _ _ _› 17 rfl | exact TR.W.get ‹TR.W _ _ _› 18 rfl | exact TR.W.get ‹TR.W _ _ _› 19 rfl)
local macro_rules | `(tactic| walk_at "sz") => `(tactic| (simp only [List.length_map, List.length_append, List.length_cons, List.length_nil, List.length_set, List.length_take, List.length_drop, List.length_replicate, List.length_reverse]; first | exact TR.szL (by omega) | exact TR.szE (by omega)))
local macro_rules | `(tactic| walk_at "sd") => `(tactic| first
  | ((with_reducible show (_ : Option L2.HO) = _); first | assumption | walk_at "hg")
  | ((with_reducible show PySem.W.kitOne _ _ _ = _); walk_at "kit")
  | ((with_reducible show _ = _); first | rfl | assumption | decide)
  | ((with_reducible show L2.Cls _ _); walk_at "cls")
  | ((with_reducible show L2.NoAttr _ _ _); walk_at "noat")
  | ((with_reducible show L2.ExcC _ _); walk_at "excc")
  | ((with_reducible show L2.SqL _ _ _ _); first | assumption | exact L2.SqL.of (by walk_at "hg"))
  | ((with_reducible show L2.SqT _ _ _ _); first | assumption | exact L2.SqT.of (by first | assumption | walk_at "hg") | walk_at "kt")
  | ((with_reducible show L2.SqL _ _ _ _ ∨ L2.SqT _ _ _ _); first | exact Or.inl (L2.SqL.of (by walk_at "hg")) | exact Or.inr (L2.SqT.of (by first | assumption | walk_at "hg")) | exact Or.inr (by walk_at "kt") | exact Or.inl (by assumption))
  | ((with_reducible show L2.RgC _ _ _ _); exact L2.RgC.neg (by omega) (by omega) (by omega) (by omega))
  | ((with_reducible show L2.RgOk _ _); exact L2.RgOk.of_le (by omega) (by omega) (by omega) (by omega))
  | ((with_reducible show L2.tyV _ _ _ _); exact Or.inl ⟨rfl, _, L2.SqL.of (by walk_at "hg")⟩)
  | ((with_reducible show L2.TruV _ _ _ _); first | exact Or.inl ⟨_, L2.SqL.of (by walk_at "hg"), rfl⟩ | rfl)
  | ((with_reducible show L2.DGet _ _ _ _); walk_at "dg")
  | assumption
  | exact fun _ z => z
  | exact (show (0 : Int) < _ by first | decide | omega)
  | exact ⟨by decide, by decide⟩
  | exact Or.inl ⟨by first | decide | omega, by first | decide | omega⟩
  | exact Or.inr ⟨by first | decide | omega, by first | decide | omega⟩
  | walk_at "sz"
  | decide
  | omega)
local macro_rules | `(tactic| walk_at "rd") => `(tactic| repeat (first | apply Exists.intro | (refine And.intro ?_ ?_; · walk_at "sd")))
local macro_rules | `(tactic| walk_at "scr") => `(tactic| first | assumption | (apply TR.Scr.cons; walk_at "scr") | (apply TR.Scr.app; walk_at "scr"))

namespace TR
open PySem L2
/-! ### the law's draws -/
def cellP (ns : List Int) (k : Int) : Int := if ns = [] then 0 else ns.getD (k % (ns.length : Int)).toNat 0
def mixP (ns : List Int) (k : Int) : Int :=
  let n1 := (cellP ns k + 104729 * (k + 1)) % 4294967291
  let n2 := n1 ^ 5 % 4294967279
  (n2 / 64 * 69621 + n2) % 4294967231
def drawP (ns : List Int) (n : Nat) (m : Int) : Int := mixP ns ((n : Int) + 1) / 8 % m
theorem drawP_nn (ns : List Int) (n : Nat) {m : Int} (h : 0 < m) : 0 ≤ drawP ns n m := Int.emod_nonneg _ (by omega)
theorem drawP_lt (ns : List Int) (n : Nat) {m : Int} (h : 0 < m) : drawP ns n m < m := Int.emod_lt_of_pos _ h
def zeros (n : Nat) : List V := List.replicate n (V.int 0)
theorem zeros_succ (n : Nat) : zeros n ++ [V.int 0] = zeros (n + 1) := by unfold zeros; rw [List.replicate_succ']
theorem zeros_len (n : Nat) : (zeros n).length = n := by unfold zeros; exact List.length_replicate
@[irreducible] def sp_cell (K : PySem.W.Frag) : Sp := fun vs H Q _ => ∃ (a : Addr) (ns : List Int) (k : Int), vs = [.ref a, .int k] ∧ SqL K H a (ns.map V.int) ∧ Q (.int (cellP ns k)) H
@[irreducible] def sp_mix (K : PySem.W.Frag) : Sp := fun vs H Q _ => ∃ (a : Addr) (ns : List Int) (k : Int), vs = [.ref a, .int k] ∧ SqL K H a (ns.map V.int) ∧ 0 ≤ k ∧ k < 1000000 ∧ Q (.int (mixP ns k)) H
/-- town holds n noughts; R the rest, the script among it -/
@[irreducible] def sp_draw (K : PySem.W.Frag) : Sp := fun vs H Q _ => ∃ (a t : Addr) (ns : List Int) (n : Nat) (m : Int) (R : List Ent), vs = [.ref a, .ref t, .int m] ∧ Scr K a ns R ∧ W H H ((t, .lst (zeros n)) :: R) ∧ n ≤ 10000 ∧ 0 < m ∧
  ∀ H', W H H' ((t, .lst (zeros (n + 1))) :: R) → Q (.int (drawP ns n m)) H'
@[irreducible] def sp_pick (K : PySem.W.Frag) : Sp := fun vs H Q _ => ∃ (a t b : Addr) (ns : List Int) (n : Nat) (xs : List V) (R : List Ent), vs = [.ref a, .ref t, .ref b] ∧ Scr K a ns R ∧ W H H ((t, .lst (zeros n)) :: R) ∧ (∀ H0 H', W H0 H' R → SqL K H' b xs) ∧ n ≤ 10000 ∧ xs ≠ [] ∧
  ∀ H' v, W H H' ((t, .lst (zeros (n + 1))) :: R) → xs[(drawP ns n xs.length).toNat]? = some v → Q v H'
theorem toNat_mod_lt {k : Int} {n : Nat} (h : 0 < n) : (k % (n : Int)).toNat < n := by
  have h1 : 0 ≤ k % (n : Int) := Int.emod_nonneg _ (by omega)
  have h2 : k % (n : Int) < n := Int.emod_lt_of_pos _ (by omega)
  omega
section
variable {P : Program} {w : World} {K : PySem.W.Frag} {mg : Str → Option Value} {base : Heap} {A : Ads}
theorem ok_law_cell (T : Txt K mg A) : FnOk P w K mg base (L2.CX P w) 1 A.f_law_cell A.d_law_cell P_law_cell (sp_cell K) := by
  refine T.F_law_cell.okX sc_law_cell (fun vs H Q E h => ?_) (fun cdv Ar outer s H vs Q E hr h => ?_)
  · unfold sp_cell at h; obtain ⟨a, ns, k, rfl, _⟩ := h; rfl
  · unfold sp_cell at h; obtain ⟨a, ns, k, rfl, hs, q⟩ := h
    refine ⟨_, (pss_cons (my_if (pt_truth (pv 0) (by intro _; rfl))
        (pss_one (ps_ret (pe_ix ix_list (pv 0) (pe_op op_mod (pv 1) (pe_callB my_lenQ (by rfl) T.z_len PySem.boot_len (pa_cons (pv 0) pa_nil))) (fun _ _ => rfl))))
        pss_nil)
      (pss_one (ps_ret pe_int))), ?_⟩
    refine ⟨_, rfl, _, .inl ⟨_, hs, rfl⟩, ?_⟩
    refine xIf_2 (fun h => ?_) (fun h => ?_)
    · have hn : ns ≠ [] := fun z => by subst z; cases h
      have hl : 0 < ns.length := List.length_pos_iff.mpr hn
      have e : (ns.map V.int)[(k % (ns.length : Int)).toNat]? = some (V.int (cellP ns k)) := by
        rw [List.getElem?_map, List.getElem?_eq_getElem (toNat_mod_lt hl)]
        unfold cellP
        rw [if_neg hn, List.getD_eq_getElem?_getD, List.getElem?_eq_getElem (toNat_mod_lt hl)]
        rfl
      refine ⟨_, rfl, _, rfl, _, rfl, _, _, rfl, .inl hs, _, _, rfl, rfl, ?_, _, _, _, _, rfl, rfl, hs, ?_, q⟩
      · rw [List.length_map]; omega
      · rw [List.length_map]
        exact at_of (Int.toNat_of_nonneg (Int.emod_nonneg _ (by omega))).symm e
    · have hn : ns = [] := by
        cases ns with
        | nil => rfl
        | cons a r => cases h
      unfold cellP at q
      rw [if_pos hn] at q
      exact q
theorem n1_bd (a : Int) : 0 ≤ a % 4294967291 ∧ a % 4294967291 < 4294967291 := ⟨Int.emod_nonneg _ (by decide), Int.emod_lt_of_pos _ (by decide)⟩
theorem n2_bd (a : Int) : 0 ≤ a % 4294967279 ∧ a % 4294967279 < 4294967279 := ⟨Int.emod_nonneg _ (by decide), Int.emod_lt_of_pos _ (by decide)⟩
theorem ok_law_mix (T : Txt K mg A) : FnOk P w K mg base (L2.CX P w) 2 A.f_law_mix A.d_law_mix P_law_mix (sp_mix K) := by
  refine T.F_law_mix.okX sc_law_mix (fun vs H Q E h => ?_) (fun cdv Ar outer s H vs Q E hr h => ?_)
  · unfold sp_mix at h; obtain ⟨a, ns, k, rfl, _⟩ := h; rfl
  · unfold sp_mix at h; obtain ⟨a, ns, k, rfl, hs, h0, h1, q⟩ := h
    refine ⟨_, (pss_cons (ps_set (i := 2) sc_law_mix.nd rfl (by first | exact Or.inl rfl | exact Or.inr rfl) (pe_op op_mod (pe_op op_add (my_call (ok_law_cell T) (hr.mono (by decide)) (by rfl) T.g_law_cell T.k_law_cell T.b_law_cell passE (pa_cons (pv 0) (pa_cons (pv 1) pa_nil))) (pe_op op_mul pe_int (pe_op op_add (pv 1) pe_int))) pe_int))
      (pss_cons (ps_set (i := 2) sc_law_mix.nd rfl (by first | exact Or.inl rfl | exact Or.inr rfl) (pe_op op_mod (pe_op op_pow (pv 2) pe_int) pe_int))
      (pss_one (ps_ret (pe_op op_mod (pe_op op_add (pe_op op_mul (pe_op op_fdiv (pv 2) pe_int) pe_int) (pv 2)) pe_int))))), ?_⟩
    refine ⟨_, rfl, _, rfl, st_call ?_⟩
    unfold sp_cell
    refine ⟨_, _, _, rfl, hs, ?_⟩
    have b1 := n1_bd (cellP ns k + 104729 * (k + 1))
    have b2 := n2_bd (((cellP ns k + 104729 * (k + 1)) % 4294967291) ^ 5)
    refine ⟨_, rfl, _, _, rfl, rfl, _, _, rfl, rfl, .inl ⟨by decide, by decide⟩, _, _, rfl, rfl, _, _, rfl, rfl, (by show (0 : Int) < _; decide), ?_⟩
    refine ⟨_, rfl, _, _, rfl, rfl, ⟨by decide, by decide, by omega⟩, _, _, rfl, rfl, (by show (0 : Int) < _; decide), ?_⟩
    refine ⟨_, rfl, _, _, rfl, rfl, ⟨by decide, by decide⟩, _, _, rfl, rfl, .inr ⟨by decide, by decide⟩, _, rfl, _, _, rfl, rfl, _, _, rfl, rfl, (by show (0 : Int) < _; decide), ?_⟩
    exact q
theorem ok_law_draw (T : Txt K mg A) : FnOk P w K mg base (L2.CX P w) 3 A.f_law_draw A.d_law_draw P_law_draw (sp_draw K) := by
  refine T.F_law_draw.okX sc_law_draw (fun vs H Q E h => ?_) (fun cdv Ar outer s H vs Q E hr h => ?_)
  · unfold sp_draw at h; obtain ⟨a, t, ns, n, m, R, rfl, _⟩ := h; rfl
  · unfold sp_draw at h; obtain ⟨a, t, ns, n, m, R, rfl, sc, w, hn, hm, q⟩ := h
    refine ⟨_, (pss_cons (ps_expr (pe_bm PySem.F.plainAttrs_list PySem.F.slot_list_append PySem.F.type_list_append my_append (pv 1) (pa_cons pe_int pa_nil)))
      (pss_one (ps_ret (pe_op op_mod (pe_op op_fdiv (my_call (ok_law_mix T) (hr.mono (by decide)) (by rfl) T.g_law_mix T.k_law_mix T.b_law_mix passE (pa_cons (pv 0) (pa_cons (pe_callB my_lenQ (by rfl) T.z_len PySem.boot_len (pa_cons (pv 1) pa_nil)) pa_nil))) pe_int) (pv 2))))), ?_⟩
    walk_at "rd"
    refine st_app w 0 rfl (by rw [zeros_len]; exact szL (by omega)) fun H1 w1 => ?_
    rw [zeros_succ] at w1
    replace w1 : W H H1 ((t, .lst (zeros (n + 1))) :: R) := w1
    walk_at "rd"
    refine st_call ?_
    unfold sp_mix
    refine ⟨a, ns, _, rfl, sc _ _ w1.drop1, by omega, by rw [zeros_len]; omega, ?_⟩
    refine ⟨_, _, rfl, rfl, ⟨by decide, by decide⟩, _, rfl, _, _, rfl, rfl, hm, ?_⟩
    have e := q H1 w1
    unfold drawP at e
    rw [zeros_len]
    exact e
theorem ok_law_pick (T : Txt K mg A) : FnOk P w K mg base (L2.CX P w) 4 A.f_law_pick A.d_law_pick P_law_pick (sp_pick K) := by
  refine T.F_law_pick.okX sc_law_pick (fun vs H Q E h => ?_) (fun cdv Ar outer s H vs Q E hr h => ?_)
  · unfold sp_pick at h; obtain ⟨a, t, b, ns, n, xs, R, rfl, _⟩ := h; rfl
  · unfold sp_pick at h; obtain ⟨a, t, b, ns, n, xs, R, rfl, sc, w, hb, hn, hx, q⟩ := h
    refine ⟨_, (pss_one (ps_ret (pe_ix ix_list (pv 2) (my_call (ok_law_draw T) (hr.mono (by decide)) (by rfl) T.g_law_draw T.k_law_draw T.b_law_draw passE (pa_cons (pv 0) (pa_cons (pv 1) (pa_cons (pe_callB my_lenQ (by rfl) T.z_len PySem.boot_len (pa_cons (pv 2) pa_nil)) pa_nil)))) (fun _ _ => rfl)))), ?_⟩
    have hl : 0 < xs.length := List.length_pos_iff.mpr hx
    refine ⟨_, rfl, _, rfl, _, rfl, _, rfl, _, _, rfl, .inl (hb _ _ w.drop1), st_call ?_⟩
    unfold sp_draw
    refine ⟨a, t, ns, n, _, R, rfl, sc, w, hn, by omega, fun H1 w1 => ?_⟩
    have d0 := drawP_nn ns n (m := (xs.length : Int)) (by omega)
    have d1 := drawP_lt ns n (m := (xs.length : Int)) (by omega)
    have e := List.getElem?_eq_getElem (l := xs) (i := (drawP ns n xs.length).toNat) (by omega)
    exact ⟨_, _, _, _, rfl, rfl, hb _ _ w1.drop1, at_of (Int.toNat_of_nonneg d0).symm e, q H1 _ w1 e⟩
/-! a draw, a pick, with town the i-th entry -/
section
variable {H0 : Hp} {L : List Ent} {a t b : Addr} {ns : List Int} {n : Nat} {m : Int} {xs : List V} {Q : VK} {E : XK} {H : Hp}
theorem draw_at (w : W H0 H L) (i : Nat) (h : L[i]? = some (t, .lst (zeros n))) (sc : Scr K a ns (L.eraseIdx i)) (hn : n ≤ 10000) (hm : 0 < m)
    (k : ∀ H', W H0 H' (L.set i (t, .lst (zeros (n + 1)))) → 0 ≤ drawP ns n m → drawP ns n m < m → Q (.int (drawP ns n m)) H') : xCall (sp_draw K) [.ref a, .ref t, .int m] H Q E := by
  refine st_call ?_
  unfold sp_draw
  exact ⟨a, t, ns, n, m, _, rfl, sc, (w.front i h).now, hn, hm, fun H' v => k H' (w.back i h v) (drawP_nn ns n hm) (drawP_lt ns n hm)⟩
theorem pick_at (w : W H0 H L) (i j : Nat) (h : L[i]? = some (t, .lst (zeros n))) (hb : (L.eraseIdx i)[j]? = some (b, .lst xs)) (sc : Scr K a ns (L.eraseIdx i)) (hn : n ≤ 10000) (hx : xs ≠ [])
    (k : ∀ H' v, W H0 H' (L.set i (t, .lst (zeros (n + 1)))) → xs[(drawP ns n xs.length).toNat]? = some v → v ∈ xs → Q v H') : xCall (sp_pick K) [.ref a, .ref t, .ref b] H Q E := by
  refine st_call ?_
  unfold sp_pick
  exact ⟨a, t, b, ns, n, xs, _, rfl, sc, (w.front i h).now, fun _ _ v => SqL.of (v.get j hb), hn, hx, fun H' v w' e => k H' v (w.back i h w') e (List.mem_of_getElem? e)⟩
end
end
end TR

namespace TR
open PySem L2
/-! ### dice -/
def dN (n : Int) : Int := (106 * n + 1283) % 6075
theorem dN_bd (n : Int) : 0 ≤ dN n ∧ dN n < 6075 := ⟨Int.emod_nonneg _ (by decide), Int.emod_lt_of_pos _ (by decide)⟩
def dB (n m : Int) : Int := dN n * m / 6075
theorem dB_bd (n : Int) {m : Int} (hm : 0 < m) : 0 ≤ dB n m ∧ dB n m < m := by
  have h := dN_bd n
  refine ⟨Int.ediv_nonneg (Int.mul_nonneg h.1 (by omega)) (by decide), Int.ediv_lt_of_lt_mul (by decide) ?_⟩
  rw [Int.mul_comm m 6075]
  exact Int.mul_lt_mul_of_pos_right h.2 hm
/-- two things change places -/
def swp {α : Type} (xs : List α) (i j : Nat) : List α := match xs[i]?, xs[j]? with
  | some a, some b => (xs.set i b).set j a
  | _, _ => xs
theorem swp_eq {α : Type} {xs : List α} {i j : Nat} {a b : α} (ha : xs[i]? = some a) (hb : xs[j]? = some b) : swp xs i j = (xs.set i b).set j a := by
  unfold swp; rw [ha, hb]
/-- a row mixed: from place k down; the dice's number with it -/
def mixG {α : Type} (k : Nat) (n : Int) (xs : List α) : Int × List α := match k with
  | 0 => (n, xs)
  | k + 1 => mixG k (dN n) (swp xs (k + 1) (dB n ((k : Int) + 2)).toNat)
def mixL {α : Type} (n : Int) (xs : List α) : Int × List α := mixG (xs.length - 1) n xs
@[irreducible] def sp_Dice_init (A : Ads) : Sp := fun vs H Q E => ∃ (p dx : Addr) (n : Int) (R : List Ent), vs = [.ref p, .int n] ∧ W H H ((p, .ins A.c_Dice dx []) :: R) ∧
  (0 ≤ n ∧ n < 6075 → ∀ H', W H H' ((p, .ins A.c_Dice dx (fl_Dice (.int n))) :: R) → Q .non H') ∧ (¬ (0 ≤ n ∧ n < 6075) → E (.ref A.c_BadNumber) none H)
@[irreducible] def sp_Dice_below (A : Ads) : Sp := fun vs H Q E => ∃ (p dx : Addr) (n m : Int) (R : List Ent), vs = [.ref p, .int m] ∧ W H H ((p, .ins A.c_Dice dx (fl_Dice (.int n))) :: R) ∧ (0 ≤ n ∧ n < 6075) ∧
  (1 ≤ m ∧ m ≤ 60 → ∀ H', W H H' ((p, .ins A.c_Dice dx (fl_Dice (.int (dN n)))) :: R) → Q (.int (dB n m)) H') ∧ (¬ (1 ≤ m ∧ m ≤ 60) → E (.ref A.c_BadNumber) none H)
/-- the list handed in stands in R; a new list comes -/
@[irreducible] def sp_mixed (A : Ads) (K : PySem.W.Frag) : Sp := fun vs H Q _ => ∃ (p dx b : Addr) (n : Int) (xs : List V) (R : List Ent), vs = [.ref p, .ref b] ∧ W H H ((p, .ins A.c_Dice dx (fl_Dice (.int n))) :: R) ∧ (0 ≤ n ∧ n < 6075) ∧ (∀ H0 H', W H0 H' R → SqL K H' b xs) ∧ xs.length ≤ 50 ∧
  ∀ H' l, W H H' ((l, .lst (mixL n xs).2) :: (p, .ins A.c_Dice dx (fl_Dice (.int (mixL n xs).1))) :: R) → Q (.ref l) H'
theorem mixG_bd {α : Type} : ∀ (k : Nat) (n : Int) (xs : List α), 0 ≤ n ∧ n < 6075 → (0 ≤ (mixG k n xs).1 ∧ (mixG k n xs).1 < 6075)
  | 0, n, xs, h => h
  | k + 1, n, xs, _ => mixG_bd k _ _ (dN_bd n)
theorem swp_len {α : Type} (xs : List α) (i j : Nat) : (swp xs i j).length = xs.length := by
  unfold swp; split <;> simp
theorem swp_map {α β : Type} (f : α → β) (xs : List α) (i j : Nat) : swp (xs.map f) i j = (swp xs i j).map f := by
  unfold swp
  simp only [List.getElem?_map]
  cases xs[i]? <;> cases xs[j]? <;> simp
theorem mixG_len {α : Type} : ∀ (k : Nat) (n : Int) (xs : List α), (mixG k n xs).2.length = xs.length
  | 0, n, xs => rfl
  | k + 1, n, xs => by
    unfold mixG
    rw [mixG_len k, swp_len]
theorem mixL_len {α : Type} (n : Int) (xs : List α) : (mixL n xs).2.length = xs.length := mixG_len _ _ _
theorem mixL_bd {α : Type} (n : Int) (xs : List α) (h : 0 ≤ n ∧ n < 6075) : 0 ≤ (mixL n xs).1 ∧ (mixL n xs).1 < 6075 := mixG_bd _ _ _ h
theorem mixG_map {α β : Type} (f : α → β) : ∀ (k : Nat) (n : Int) (xs : List α), mixG k n (xs.map f) = ((mixG k n xs).1, (mixG k n xs).2.map f)
  | 0, n, xs => rfl
  | k + 1, n, xs => by
    unfold mixG
    rw [swp_map, mixG_map f k]
theorem mixL_map {α β : Type} (f : α → β) (n : Int) (xs : List α) : mixL n (xs.map f) = ((mixL n xs).1, (mixL n xs).2.map f) := by
  unfold mixL
  rw [List.length_map, mixG_map]
theorem swap_perm {α : Type} {l : List α} {i j : Nat} {a b : α} (ha : l[i]? = some a) (hb : l[j]? = some b) : ((l.set i b).set j a).Perm l := by
  obtain ⟨hi, ea⟩ := List.getElem?_eq_some_iff.mp ha
  obtain ⟨hj, eb⟩ := List.getElem?_eq_some_iff.mp hb
  subst ea eb
  exact List.set_set_perm hi hj
theorem swp_perm {α : Type} (xs : List α) (i j : Nat) : (swp xs i j).Perm xs := by
  unfold swp
  split
  · rename_i a b ha hb
    exact swap_perm ha hb
  · exact List.Perm.refl _
theorem mixG_perm {α : Type} : ∀ (k : Nat) (n : Int) (xs : List α), (mixG k n xs).2.Perm xs
  | 0, n, xs => List.Perm.refl _
  | k + 1, n, xs => by
    unfold mixG
    exact (mixG_perm k _ _).trans (swp_perm _ _ _)
theorem mixL_perm {α : Type} (n : Int) (xs : List α) : (mixL n xs).2.Perm xs := mixG_perm _ _ _
section
variable {P : Program} {w : World} {K : PySem.W.Frag} {mg : Str → Option Value} {base : Heap} {A : Ads}
theorem ok_Dice_init__ (T : Txt K mg A) : FnOk P w K mg base (L2.CX P w) 1 A.f_Dice_init__ A.d_Dice_init__ P_Dice_init__ (sp_Dice_init A) := by
  refine T.F_Dice_init__.okX sc_Dice_init__ (fun vs H Q E h => ?_) (fun cdv Ar outer s H vs Q E hr h => ?_)
  · unfold sp_Dice_init at h; obtain ⟨p, dx, n, R, rfl, _⟩ := h; rfl
  · unfold sp_Dice_init at h; obtain ⟨p, dx, n, R, rfl, w, k1, k2⟩ := h
    refine ⟨_, (pss_cons (my_if (pt_not (my_chIT op_le op_lt pe_int (pv 1) (my_globI T.gi_WHEEL (by rfl)) still_c still_v still_c))
        (pss_one (ps_raise rfl takesE (pmk_own PySem.F.excBase_ValueError T.x_BadNumber T.g_BadNumber T.k_BadNumber (raises_own T.r_BadNumber T.t_BadNumber) (by rfl))))
        pss_nil)
      (pss_one (my_fld (pv 0) (pv 1)))), ?_⟩
    walk_at "rd"
    refine xIf_2 (fun h => ?_) (fun h => ?_)
    · refine k2 fun z => ?_
      simp [z] at h
    · walk_at "rd"
      refine st_fld w 0 rfl T.c_Dice T.n_Dice_number (by decide) fun H1 w1 => ?_
      exact k1 (by simpa using h) _ w1
theorem ok_Dice_below (T : Txt K mg A) : FnOk P w K mg base (L2.CX P w) 1 A.f_Dice_below A.d_Dice_below P_Dice_below (sp_Dice_below A) := by
  refine T.F_Dice_below.okX sc_Dice_below (fun vs H Q E h => ?_) (fun cdv Ar outer s H vs Q E hr h => ?_)
  · unfold sp_Dice_below at h; obtain ⟨p, dx, n, m, R, rfl, _⟩ := h; rfl
  · unfold sp_Dice_below at h; obtain ⟨p, dx, n, m, R, rfl, w, hn, k1, k2⟩ := h
    refine ⟨_, (pss_cons (my_if (pt_not (my_chIT op_le op_le pe_int (pv 1) (my_globI T.gi_MOST (by rfl)) still_c still_v still_c))
        (pss_one (ps_raise rfl takesE (pmk_own PySem.F.excBase_ValueError T.x_BadNumber T.g_BadNumber T.k_BadNumber (raises_own T.r_BadNumber T.t_BadNumber) (by rfl))))
        pss_nil)
      (pss_cons (my_fld (pv 0) (pe_op op_mod (pe_op op_add (pe_op op_mul (my_globI T.gi_TIMES (by rfl)) (pe_fld (pv 0) rfl)) (my_globI T.gi_MORE (by rfl))) (my_globI T.gi_WHEEL (by rfl))))
      (pss_one (ps_ret (pe_op op_fdiv (pe_op op_mul (pe_fld (pv 0) rfl) (pv 1)) (my_globI T.gi_WHEEL (by rfl))))))), ?_⟩
    walk_at "rd"
    refine xIf_2 (fun h => ?_) (fun h => ?_)
    · refine k2 fun z => ?_
      simp [z] at h
    · have h' : 1 ≤ m ∧ m ≤ 60 := by simpa using h
      walk_at "rd"
      refine sf_Dice_number T w 0 rfl fun H1 w1 => ?_
      have w2 : W H H1 ((p, .ins A.c_Dice dx (fl_Dice (.int (dN n)))) :: R) := w1
      clear w1
      have hb := dN_bd n
      walk_at "rd"
      exact k1 h' _ w2
theorem mix_stp (n : Int) (xs : List V) (k : Nat) (hk : k + 1 < xs.length) : ∃ a b, xs[k + 1]? = some a ∧ xs[(dB n ((k : Int) + 2)).toNat]? = some b := by
  have h := dB_bd n (m := (k : Int) + 2) (by omega)
  exact ⟨_, _, List.getElem?_eq_getElem hk, List.getElem?_eq_getElem (by omega)⟩
/-- behind i turns of mixed's loop over m + 1 things: what is left to do gives the whole -/
def MixAt (n : Int) (xs : List V) (i : Nat) (n' : Int) (ys : List V) : Prop := mixG (xs.length - 1 - i) n' ys = mixL n xs ∧ ys.length = xs.length ∧ 0 ≤ n' ∧ n' < 6075
theorem ok_mixed (T : Txt K mg A) : FnOk P w K mg base (L2.CX P w) 2 A.f_mixed A.d_mixed P_mixed (sp_mixed A K) := by
  refine T.F_mixed.okX sc_mixed (fun vs H Q E h => ?_) (fun cdv Ar outer s H vs Q E hr h => ?_)
  · unfold sp_mixed at h; obtain ⟨p, dx, b, n, xs, R, rfl, _⟩ := h; rfl
  · unfold sp_mixed at h; obtain ⟨p, dx, b, n, xs, R, rfl, w, hn, hb, hl, k⟩ := h
    refine ⟨_, (pss_cons (ps_set (i := 2) sc_mixed.nd rfl (by first | exact Or.inl rfl | exact Or.inr rfl) (pe_callTy my_listOf (by rfl) T.z_list (by decide +kernel) (pa_cons (pv 1) pa_nil)))
      (pss_cons (my_for ownE rfl (pi_range3 (by rfl) T.z_range (pa_cons (pe_op op_sub (pe_callB my_lenQ (by rfl) T.z_len PySem.boot_len (pa_cons (pv 2) pa_nil)) pe_int) (pa_cons pe_int (pa_cons (pe_un un_neg pe_int) pa_nil)))) (pg_name (i := 3) sc_mixed.nd rfl (by first | exact Or.inl rfl | exact Or.inr rfl))
        (pss_cons (ps_set (i := 4) sc_mixed.nd rfl (by first | exact Or.inl rfl | exact Or.inr rfl) (my_meth (pv 0) T.c_Dice T.m_Dice_below (ok_Dice_below T) (hr.mono (by decide)) T.b_Dice_below passE (pa_cons (pe_op op_add (pv 3) pe_int) pa_nil)))
      (pss_one (ps_asg (my_tup (pa_cons (pe_ix ix_list (pv 2) (pv 4) (fun _ _ => rfl)) (pa_cons (pe_ix ix_list (pv 2) (pv 3) (fun _ _ => rfl)) pa_nil))) (pg_tup rfl (pgs_cons (pg_sub (pv 2) (pv 3) my_setL) (pgs_cons (pg_sub (pv 2) (pv 4) my_setL) pgs_nil)))))))
      (pss_one (ps_ret (pv 2))))), ?_⟩
    have hs := hb _ _ w.drop1
    refine ⟨_, rfl, _, _, rfl, .inl hs, st_new w fun l H1 w1 => ?_⟩
    walk_at "rd"
    refine st_forRC (fun i σ H2 => ∃ (n' : Int) (ys : List V) (u v : Option V), σ = [some (.ref p), some (.ref b), some (.ref l), u, v] ∧ MixAt n xs i n' ys ∧ W H H2 ((l, .lst ys) :: (p, .ins A.c_Dice dx (fl_Dice (.int n'))) :: R))
      ⟨n, xs, none, none, rfl, ⟨rfl, rfl, hn.1, hn.2⟩, w1⟩ ?_ ?_
    · rintro i σ H2 hi ⟨n', ys, u, v, rfl, ⟨em, el, hn0, hn1⟩, w2⟩
      walk_at "rd"
      refine st_call ?_
      unfold sp_Dice_below
      obtain ⟨j, ej⟩ : ∃ j, xs.length - 1 - i = j + 1 := ⟨xs.length - 1 - i - 1, by omega⟩
      have ek : (xs.length : Int) - 1 + (i : Int) * -1 = (j : Int) + 1 := by omega
      rw [ek]
      refine ⟨p, dx, n', _, (l, .lst ys) :: R, rfl, (w2.rot 1 1).now, ⟨hn0, hn1⟩, fun _ H3 w3 => ?_, fun z => absurd (by omega) z⟩
      have w4 : W H H3 ((l, .lst ys) :: (p, .ins A.c_Dice dx (fl_Dice (.int (dN n')))) :: R) := (w2.tr w3).rot 1 1
      clear w3
      obtain ⟨a, b', ha, hb'⟩ := mix_stp n' ys j (by omega)
      have hd := dB_bd n' (m := (j : Int) + 2) (by omega)
      have ed : (j : Int) + 1 + 1 = (j : Int) + 2 := by omega
      rw [ed]
      walk_at "rd"
      refine ⟨at_of (Int.toNat_of_nonneg hd.1).symm hb', ?_⟩
      walk_at "rd"
      refine ⟨at_of (j := j + 1) (by omega) ha, ?_⟩
      walk_at "rd"
      refine st_tup w4 fun t H4 ht w5 => ?_
      walk_at "rd"
      refine st_setL w5 0 (j := j + 1) rfl (ix_of (by omega) (by omega)) fun H5 w6 => ?_
      walk_at "rd"
      refine st_setL w6 0 (j := (dB n' ((j : Int) + 2)).toNat) rfl (ix_of (Int.toNat_of_nonneg hd.1).symm (by rw [List.length_set]; omega)) fun H6 w7 => ?_
      refine ⟨rfl, dN n', (ys.set (j + 1) b').set (dB n' ((j : Int) + 2)).toNat a, _, _, rfl, ⟨?_, by rw [List.length_set, List.length_set]; exact el, (dN_bd n').1, (dN_bd n').2⟩, w7⟩
      rw [← em, ej, show xs.length - 1 - (i + 1) = j by omega]
      conv => rhs; unfold mixG
      rw [swp_eq ha hb']
    · rintro σ H2 ⟨n', ys, u, v, rfl, ⟨em, el, hn0, hn1⟩, w2⟩
      rw [show xs.length - 1 - ((xs.length : Int) - 1 - 0).toNat = 0 by omega] at em
      have e2 : mixL n xs = (n', ys) := em.symm
      rw [e2] at k
      exact ⟨_, rfl, k _ _ w2⟩
end
end TR

namespace TR
open PySem L2
/-! ### refusals -/
inductive Rf where
  | tune | number | entry | word
  deriving DecidableEq
def Rf.cls (A : Ads) : Rf → Addr
  | .tune => A.c_BadTune
  | .number => A.c_BadNumber
  | .entry => A.c_BadEntry
  | .word => A.c_BadWord
def Rf.nm : Rf → Str
  | .tune => "tune"
  | .number => "number"
  | .entry => "entry"
  | .word => "word"
@[irreducible] def sp_refusal (A : Ads) : Sp := fun vs H Q _ => ∃ (a : Addr) (r : Rf) (R : List Ent), vs = [.ref a] ∧ W H H ((a, ExH (.ref (r.cls A)) none a) :: R) ∧ ∀ H' t, W H H' ((t, .tup [.str "refused", .str r.nm]) :: (a, ExH (.ref (r.cls A)) none a) :: R) → Q (.ref t) H'
abbrev refT (r : Rf) : List V := [.str "refused", .str r.nm]
theorem dp_refT {K : PySem.W.Frag} {H : Hp} {t : Addr} {r : Rf} (h : H t = some (.tup (refT r))) : Dp K H (.ref t) (.tuple [.str "refused", .str r.nm]) := .tup (SqT.of h) (.cons (.str _) (.cons (.str _) .nil))
theorem sh_refT {k : Nat} {r : Rf} : Sh (k + 1) (.tuple [.str "refused", .str r.nm]) := sh_tup (sh_cons (sh_str (by decide +kernel)) (sh_cons (sh_str (by cases r <;> decide +kernel)) sh_nil))
section
variable {P : Program} {w : World} {K : PySem.W.Frag} {mg : Str → Option Value} {base : Heap} {A : Ads}
theorem ok_law_refusal (T : Txt K mg A) : FnOk P w K mg base (L2.CX P w) 1 A.f_law_refusal A.d_law_refusal P_law_refusal (sp_refusal A) := by
  refine T.F_law_refusal.okX sc_law_refusal (fun vs H Q E h => ?_) (fun cdv Ar outer s H vs Q E hr h => ?_)
  · unfold sp_refusal at h; obtain ⟨a, r, R, rfl, _⟩ := h; rfl
  · unfold sp_refusal at h; obtain ⟨a, r, R, rfl, w, k⟩ := h
    refine ⟨_, (pss_cons (my_if (pt_cmpR op_isN (pv 0) pe_non (nomark _))
        (pss_one (ps_ret (my_tup (pa_cons pe_str pa_nil))))
        pss_nil)
      (pss_cons (ps_set (i := 1) sc_law_refusal.nd rfl (by first | exact Or.inl rfl | exact Or.inr rfl) (my_lst (pa_cons (pe_callB my_isi (by rfl) T.z_isinstance (by decide +kernel) (pa_cons (pv 0) (pa_cons (my_globR T.g_BadTune (by rfl)) pa_nil))) (pa_cons (pe_callB my_isi (by rfl) T.z_isinstance (by decide +kernel) (pa_cons (pv 0) (pa_cons (my_globR T.g_BadNumber (by rfl)) pa_nil))) (pa_cons (pe_callB my_isi (by rfl) T.z_isinstance (by decide +kernel) (pa_cons (pv 0) (pa_cons (my_globR T.g_BadEntry (by rfl)) pa_nil))) pa_nil)))))
      (pss_cons (ps_expr (pe_bm PySem.F.plainAttrs_list PySem.F.slot_list_append PySem.F.type_list_append my_append (pv 1) (pa_cons (pe_callB my_isi (by rfl) T.z_isinstance (by decide +kernel) (pa_cons (pv 0) (pa_cons (my_globR T.g_BadWord (by rfl)) pa_nil))) pa_nil)))
      (pss_cons (my_if (PW.pt (my_or (pt_cmpR op_ne (pe_bm PySem.F.plainAttrs_list PySem.F.slot_list_count PySem.F.type_list_count my_count (pv 1) (pa_cons pe_bl pa_nil)) pe_int (nomark _)) (pw_or1 (pt_not (pt_val (pe_callB my_isi (by rfl) T.z_isinstance (by decide +kernel) (pa_cons (pv 0) (pa_cons (pe_bltn (v := .ty "ValueError") (by rfl) T.z_ValueError (by decide +kernel) rfl) pa_nil))))))))
        (pss_one (ps_ret (my_tup (pa_cons pe_str pa_nil))))
        pss_nil)
      (pss_one (ps_ret (my_tup (pa_cons pe_str (pa_cons (pe_ix ix_list (my_lst (pa_cons pe_str (pa_cons pe_str (pa_cons pe_str (pa_cons pe_str pa_nil))))) (pe_bm PySem.F.plainAttrs_list PySem.F.slot_list_index PySem.F.type_list_index my_index (pv 1) (pa_cons pe_bl pa_nil)) (fun _ _ => rfl)) pa_nil))))))))), ?_⟩
    cases r
    all_goals
      simp only [Rf.cls, Rf.nm] at w k
      walk_at "rd"
      refine xIf_F rfl ?_
      walk_at "rd"
      refine st_new w fun l H1 w1 => ?_
      walk_at "rd"
      refine st_app w1 0 rfl (by decide) fun H2 w2 => ?_
      walk_at "rd"
      refine xIf_F rfl ?_
      walk_at "rd"
      refine xIf_F rfl ?_
      walk_at "rd"
      refine st_new w2 fun m H3 w3 => ?_
      walk_at "rd"
      first
        | refine st_idx 0 (.bl true) (L2.SqL.of (w3.get 1 rfl)) rfl rfl rfl rfl (fun m u hm hu => ?_) ?_
        | refine st_idx 1 (.bl true) (L2.SqL.of (w3.get 1 rfl)) rfl rfl rfl rfl (fun m u hm hu => ?_) ?_
        | refine st_idx 2 (.bl true) (L2.SqL.of (w3.get 1 rfl)) rfl rfl rfl rfl (fun m u hm hu => ?_) ?_
        | refine st_idx 3 (.bl true) (L2.SqL.of (w3.get 1 rfl)) rfl rfl rfl rfl (fun m u hm hu => ?_) ?_
      · rcases m with _ | _ | _ | m
        all_goals first | (exfalso; omega) | (cases hu; rfl)
      · refine ⟨_, _, _, _, rfl, rfl, SqL.of (w3.get 0 rfl), atI_nat rfl, ?_⟩
        walk_at "rd"
        refine st_new w3 fun t H4 w4 => ?_
        exact k H4 t ((w4.rot 1 2).drop1.drop1)
end
end TR

namespace TR
open PySem L2
/-! ### the law's own dice: a list with one number -/
@[irreducible] def sp_lbelow : Sp := fun vs H Q _ => ∃ (d : Addr) (n m : Int) (R : List Ent), vs = [.ref d, .int m] ∧ W H H ((d, .lst [.int n]) :: R) ∧ (0 ≤ n ∧ n < 6075) ∧ ∀ H', W H H' ((d, .lst [.int (dN n)]) :: R) → Q (.int (dB n m)) H'
@[irreducible] def sp_lmixed (K : PySem.W.Frag) : Sp := fun vs H Q _ => ∃ (d b : Addr) (n : Int) (xs : List V) (R : List Ent), vs = [.ref d, .ref b] ∧ W H H ((d, .lst [.int n]) :: R) ∧ (0 ≤ n ∧ n < 6075) ∧ (∀ H0 H', W H0 H' R → SqL K H' b xs) ∧ xs.length ≤ 50 ∧
  ∀ H' l, W H H' ((l, .lst (mixL n xs).2) :: (d, .lst [.int (mixL n xs).1]) :: R) → Q (.ref l) H'
theorem rev_rg {n i : Nat} {x : V} (h : (rgV 1 (n : Int)).reverse[i]? = some x) : i + 1 < n ∧ x = .int ((n : Int) - 1 - (i : Int)) := by
  have hl : (rgV 1 (n : Int)).reverse.length = n - 1 := by rw [List.length_reverse, rgV_length]; omega
  obtain ⟨hi, e⟩ := List.getElem?_eq_some_iff.mp h
  rw [hl] at hi
  refine ⟨by omega, ?_⟩
  rw [← e, List.getElem_reverse]
  unfold rgV
  rw [List.getElem_map, List.getElem_range, List.length_map, List.length_range]
  congr 1
  omega
section
variable {P : Program} {w : World} {K : PySem.W.Frag} {mg : Str → Option Value} {base : Heap} {A : Ads}
theorem ok_law_below (T : Txt K mg A) : FnOk P w K mg base (L2.CX P w) 1 A.f_law_below A.d_law_below P_law_below (sp_lbelow) := by
  refine T.F_law_below.okX sc_law_below (fun vs H Q E h => ?_) (fun cdv Ar outer s H vs Q E hr h => ?_)
  · unfold sp_lbelow at h; obtain ⟨d, n, m, R, rfl, _⟩ := h; rfl
  · unfold sp_lbelow at h; obtain ⟨d, n, m, R, rfl, w, hn, k⟩ := h
    refine ⟨_, (pss_cons (ps_asg (pe_op op_mod (pe_op op_add (pe_op op_mul pe_int (pe_ix ix_list (pv 0) pe_int (fun _ _ => rfl))) pe_int) pe_int) (pg_sub (pv 0) pe_int my_setL))
      (pss_one (ps_ret (pe_op op_fdiv (pe_op op_mul (pe_ix ix_list (pv 0) pe_int (fun _ _ => rfl)) (pv 1)) pe_int)))), ?_⟩
    walk_at "rd"
    refine st_setL w 0 (j := 0) rfl rfl fun H1 w1 => ?_
    have w2 : W H H1 ((d, .lst [.int (dN n)]) :: R) := w1
    clear w1
    have hb := dN_bd n
    walk_at "rd"
    exact k _ w2
theorem ok_law_mixed (T : Txt K mg A) : FnOk P w K mg base (L2.CX P w) 2 A.f_law_mixed A.d_law_mixed P_law_mixed (sp_lmixed K) := by
  refine T.F_law_mixed.okX sc_law_mixed (fun vs H Q E h => ?_) (fun cdv Ar outer s H vs Q E hr h => ?_)
  · unfold sp_lmixed at h; obtain ⟨d, b, n, xs, R, rfl, _⟩ := h; rfl
  · unfold sp_lmixed at h; obtain ⟨d, b, n, xs, R, rfl, w, hn, hb, hl, k⟩ := h
    refine ⟨_, (pss_cons (ps_set (i := 2) sc_law_mixed.nd rfl (by first | exact Or.inl rfl | exact Or.inr rfl) (pe_callTy my_listOf (by rfl) T.z_list (by decide +kernel) (pa_cons (pv 1) pa_nil)))
      (pss_cons (my_for ownE rfl (pi_list (my_revL (my_listRg rfl (by rfl) T.z_list (prg_2 (by rfl) T.z_range pe_int (pe_callB my_lenQ (by rfl) T.z_len PySem.boot_len (pa_cons (pv 2) pa_nil)))))) (pg_name (i := 3) sc_law_mixed.nd rfl (by first | exact Or.inl rfl | exact Or.inr rfl))
        (pss_cons (ps_set (i := 4) sc_law_mixed.nd rfl (by first | exact Or.inl rfl | exact Or.inr rfl) (my_call (ok_law_below T) (hr.mono (by decide)) (by rfl) T.g_law_below T.k_law_below T.b_law_below passE (pa_cons (pv 0) (pa_cons (pe_op op_add (pv 3) pe_int) pa_nil))))
      (pss_cons (ps_set (i := 5) sc_law_mixed.nd rfl (by first | exact Or.inl rfl | exact Or.inr rfl) (pe_ix ix_list (pv 2) (pv 3) (fun _ _ => rfl)))
      (pss_cons (ps_asg (pe_ix ix_list (pv 2) (pv 4) (fun _ _ => rfl)) (pg_sub (pv 2) (pv 3) my_setL))
      (pss_one (ps_asg (pv 5) (pg_sub (pv 2) (pv 4) my_setL)))))))
      (pss_one (ps_ret (pv 2))))), ?_⟩
    have hs := hb _ _ w.drop1
    refine ⟨_, rfl, _, _, rfl, .inl hs, st_new w fun l H1 w1 => ?_⟩
    walk_at "rd"
    refine st_new w1 fun r0 H2 w2 => ?_
    walk_at "rd"
    refine st_new w2 fun r H3 w3 => ?_
    walk_at "rd"
    refine ⟨⟨_, SqL.of (w3.get 0 rfl)⟩, ?_⟩
    refine st_forL (xs := (rgV 1 (xs.length : Int)).reverse) (fun i σ H2 => ∃ (n' : Int) (ys : List V) (u v z : Option V), σ = [some (.ref d), some (.ref b), some (.ref l), u, v, z] ∧ MixAt n xs i n' ys ∧ W H H2 ((r, .lst (rgV 1 (xs.length : Int)).reverse) :: (l, .lst ys) :: (d, .lst [.int n']) :: R))
      ⟨n, xs, none, none, none, rfl, ⟨rfl, rfl, hn.1, hn.2⟩, (w3.rot 1 1).drop1⟩ (fun i σ H2 _ ⟨_, _, _, _, _, _, _, w⟩ => SqL.of (w.get 0 rfl)) ?_ ?_
    · rintro i y σ H2 hi ⟨n', ys, u, v, z, rfl, ⟨em, el, hn0, hn1⟩, w2⟩
      obtain ⟨hi1, rfl⟩ := rev_rg hi
      obtain ⟨j, ej⟩ : ∃ j, xs.length - 1 - i = j + 1 := ⟨xs.length - 1 - i - 1, by omega⟩
      have ek : (xs.length : Int) - 1 - (i : Int) = (j : Int) + 1 := by omega
      rw [ek]
      walk_at "rd"
      refine st_call ?_
      unfold sp_lbelow
      refine ⟨d, n', _, (r, .lst (rgV 1 (xs.length : Int)).reverse) :: (l, .lst ys) :: R, rfl, (w2.rot 2 1).now, ⟨hn0, hn1⟩, fun H3 w3 => ?_⟩
      have w4 : W H H3 ((r, .lst (rgV 1 (xs.length : Int)).reverse) :: (l, .lst ys) :: (d, .lst [.int (dN n')]) :: R) := (w2.tr w3).rot 1 2
      clear w3
      obtain ⟨a, b', ha, hb'⟩ := mix_stp n' ys j (by omega)
      have hd := dB_bd n' (m := (j : Int) + 2) (by omega)
      have ed : (j : Int) + 1 + 1 = (j : Int) + 2 := by omega
      rw [ed]
      walk_at "rd"
      refine ⟨at_of (j := j + 1) (by omega) ha, ?_⟩
      walk_at "rd"
      refine ⟨at_of (Int.toNat_of_nonneg hd.1).symm hb', ?_⟩
      walk_at "rd"
      refine st_setL w4 1 (j := j + 1) rfl (ix_of (by omega) (by omega)) fun H5 w6 => ?_
      walk_at "rd"
      refine st_setL w6 1 (j := (dB n' ((j : Int) + 2)).toNat) rfl (ix_of (Int.toNat_of_nonneg hd.1).symm (by rw [List.length_set]; omega)) fun H6 w7 => ?_
      refine ⟨dN n', (ys.set (j + 1) b').set (dB n' ((j : Int) + 2)).toNat a, _, _, _, rfl, ⟨?_, by rw [List.length_set, List.length_set]; exact el, (dN_bd n').1, (dN_bd n').2⟩, w7⟩
      rw [← em, ej, show xs.length - 1 - (i + 1) = j by omega]
      conv => rhs; unfold mixG
      rw [swp_eq ha hb']
    · rintro σ H2 ⟨n', ys, u, v, z, rfl, ⟨em, el, hn0, hn1⟩, w2⟩
      rw [List.length_reverse, rgV_length, show xs.length - 1 - ((xs.length : Int) - 1).toNat = 0 by omega] at em
      have e2 : mixL n xs = (n', ys) := em.symm
      rw [e2] at k
      exact ⟨_, rfl, k _ _ w2.drop1⟩
end
end TR

namespace TR
open PySem L2
/-! ### law_k02 -/
@[irreducible] def sp_told (A : Ads) : Sp := fun vs H Q _ =>
  (∃ (p dx : Addr) (n m : Int) (R : List Ent), vs = [.ref p, .int m] ∧ W H H ((p, .ins A.c_Dice dx (fl_Dice (.int n))) :: R) ∧ (0 ≤ n ∧ n < 6075) ∧
    (1 ≤ m ∧ m ≤ 60 → ∀ H', W H H' ((p, .ins A.c_Dice dx (fl_Dice (.int (dN n)))) :: R) → Q (.int (dB n m)) H') ∧
    (¬ (1 ≤ m ∧ m ≤ 60) → ∀ H' t, W H H' ((t, .tup (refT .number)) :: (p, .ins A.c_Dice dx (fl_Dice (.int n))) :: R) → Q (.ref t) H')) ∨
  (∃ (m : Int) (R : List Ent), vs = [.non, .int m] ∧ W H H R ∧ ¬ (0 ≤ m ∧ m < 6075) ∧ ∀ H' t, W H H' ((t, .tup (refT .number)) :: R) → Q (.ref t) H')
section
variable {P : Program} {w : World} {K : PySem.W.Frag} {mg : Str → Option Value} {base : Heap} {A : Ads}
theorem ok_law_told (T : Txt K mg A) : FnOk P w K mg base (L2.CX P w) 3 A.f_law_told A.d_law_told P_law_told (sp_told A) := by
  refine T.F_law_told.okX sc_law_told (fun vs H Q E h => ?_) (fun cdv Ar outer s H vs Q E hr h => ?_)
  · unfold sp_told at h; obtain ⟨p, dx, n, m, R, rfl, _⟩ | ⟨m, R, rfl, _⟩ := h <;> rfl
  · unfold sp_told at h
    refine ⟨_, (pss_cons (ps_set (i := 2) sc_law_told.nd rfl (by first | exact Or.inl rfl | exact Or.inr rfl) pe_non)
      (pss_cons (ps_set (i := 3) sc_law_told.nd rfl (by first | exact Or.inl rfl | exact Or.inr rfl) pe_non)
      (pss_cons (my_tryHeld (i := 4) (j := 2) rfl rfl sc_law_told.nd rfl rfl rfl rfl (by decide) ⟨rfl, by decide, Or.inl T.g_RoadError⟩ (by decide) (by decide) (fun _ _ => rfl) (fun W pn xe tk po => (pss_one (ps_set (i := 3) sc_law_told.nd rfl (by first | exact Or.inl rfl | exact Or.inr rfl) (my_ifExp (pt_cmpR op_isN (pv 0) pe_non (nomark _)) (pe_cmpR op_isN (my_makeS T.M_Dice (ok_Dice_init__ T) (hr.mono (by decide)) (by rfl) T.g_Dice T.b_Dice_init__ tk (pa_cons (pv 1) pa_nil)) pe_non (nomark _)) (my_methS (pv 0) T.c_Dice T.m_Dice_below (ok_Dice_below T) (hr.mono (by decide)) T.b_Dice_below tk (pa_cons (pv 1) pa_nil)))))))
      (pss_one (ps_ret (my_ifExp (pt_cmpR op_isN (pv 2) pe_non (nomark _)) (pv 3) (my_call (ok_law_refusal T) (hr.mono (by decide)) (by rfl) T.g_law_refusal T.k_law_refusal T.b_law_refusal passE (pa_cons (pv 2) pa_nil)))))))), ?_⟩
    obtain ⟨p, dx, n, m, R, rfl, w, hn, k1, k2⟩ | ⟨m, R, rfl, w, hm, k⟩ := h
    · walk_at "rd"
      refine xIf_F rfl ?_
      walk_at "rd"
      refine st_call ?_
      unfold sp_Dice_below
      refine ⟨p, dx, n, m, R, rfl, w, hn, fun hm H1 w1 => ?_, fun hm => ?_⟩
      · walk_at "rd"
        refine xIf_T rfl ?_
        exact ⟨_, rfl, k1 hm _ w1⟩
      · refine ⟨T.m_BadNumber, fun a ha => ?_⟩
        have w1 := w.new (ExH (.ref A.c_BadNumber) none a) ha
        walk_at "rd"
        refine xIf_F rfl ?_
        walk_at "rd"
        refine st_call ?_
        unfold sp_refusal
        refine ⟨a, .number, _, rfl, w1.now, fun H2 t w2 => ?_⟩
        exact k2 hm H2 t (((w1.tr w2).rot 1 1).drop1)
    · walk_at "rd"
      refine xIf_T rfl ?_
      walk_at "rd"
      refine st_make w fun x dx H1 w1 => ?_
      unfold sp_Dice_init
      refine ⟨x, dx, m, R, rfl, w1.now, fun z => absurd z hm, fun _ => ?_⟩
      refine ⟨T.m_BadNumber, fun a ha => ?_⟩
      have w2 := w1.new (ExH (.ref A.c_BadNumber) none a) ha
      walk_at "rd"
      refine xIf_F rfl ?_
      walk_at "rd"
      refine st_call ?_
      unfold sp_refusal
      refine ⟨a, .number, _, rfl, w2.now, fun H2 t w3 => ?_⟩
      exact k H2 t (((w2.tr w3).rot 1 2).drop1.drop1)
theorem ok_law (T : Txt K mg A) : FnOk P w K mg base (L2.CX P w) 5 A.f_law A.d_law P_law (sp_law K) := by
  refine T.F_law.okX sc_law (fun vs H Q E h => ?_) (fun cdv Ar outer s H vs Q E hr h => ?_)
  · unfold sp_law at h; obtain ⟨a, ns, R, rfl, _⟩ := h; rfl
  · unfold sp_law at h; obtain ⟨a, ns, R, rfl, sc, w, hl, k⟩ := h
    refine ⟨_, (pss_cons (ps_set (i := 1) sc_law.nd rfl (by first | exact Or.inl rfl | exact Or.inr rfl) (my_lst pa_nil))
      (pss_cons (ps_set (i := 2) sc_law.nd rfl (by first | exact Or.inl rfl | exact Or.inr rfl) (my_call (ok_law_pick T) (hr.mono (by decide)) (by rfl) T.g_law_pick T.k_law_pick T.b_law_pick passE (pa_cons (pv 0) (pa_cons (pv 1) (pa_cons (my_lst (pa_cons pe_int (pa_cons pe_int (pa_cons (my_call (ok_law_draw T) (hr.mono (by decide)) (by rfl) T.g_law_draw T.k_law_draw T.b_law_draw passE (pa_cons (pv 0) (pa_cons (pv 1) (pa_cons pe_int pa_nil)))) pa_nil)))) pa_nil)))))
      (pss_cons (ps_set (i := 3) sc_law.nd rfl (by first | exact Or.inl rfl | exact Or.inr rfl) (my_make T.M_Dice (ok_Dice_init__ T) (hr.mono (by decide)) (by rfl) T.g_Dice T.b_Dice_init__ passE (pa_cons (pv 2) pa_nil)))
      (pss_cons (ps_set (i := 4) sc_law.nd rfl (by first | exact Or.inl rfl | exact Or.inr rfl) (my_lst (pa_cons (pv 2) pa_nil)))
      (pss_cons (my_for ownE rfl (pi_range1 (by rfl) T.z_range (pa_cons (my_call (ok_law_draw T) (hr.mono (by decide)) (by rfl) T.g_law_draw T.k_law_draw T.b_law_draw passE (pa_cons (pv 0) (pa_cons (pv 1) (pa_cons pe_int pa_nil)))) pa_nil)) (pg_name (i := 5) sc_law.nd rfl (by first | exact Or.inl rfl | exact Or.inr rfl))
        (pss_cons (ps_set (i := 6) sc_law.nd rfl (by first | exact Or.inl rfl | exact Or.inr rfl) (my_call (ok_law_pick T) (hr.mono (by decide)) (by rfl) T.g_law_pick T.k_law_pick T.b_law_pick passE (pa_cons (pv 0) (pa_cons (pv 1) (pa_cons (my_lst (pa_cons pe_int (pa_cons pe_int (pa_cons pe_int (pa_cons pe_int (pa_cons (pe_un un_neg pe_int) (pa_cons (pe_op op_add pe_int (my_call (ok_law_draw T) (hr.mono (by decide)) (by rfl) T.g_law_draw T.k_law_draw T.b_law_draw passE (pa_cons (pv 0) (pa_cons (pv 1) (pa_cons pe_int pa_nil))))) pa_nil))))))) pa_nil)))))
      (pss_one (my_if (pt_not (my_chIT op_le op_le pe_int (pv 6) pe_int still_c still_v still_c))
        (pss_one (my_if (pt_cmpR (my_neD hr.units) (my_call (ok_law_told T) (hr.mono (by decide)) (by rfl) T.g_law_told T.k_law_told T.b_law_told passE (pa_cons (pv 3) (pa_cons (pv 6) pa_nil))) (my_tup (pa_cons pe_str (pa_cons pe_str pa_nil))) (nomark _))
        (pss_one (ps_ret pe_bl))
        pss_nil))
        (pss_one (my_if (pt_cmpR (my_neD hr.units) (my_call (ok_law_told T) (hr.mono (by decide)) (by rfl) T.g_law_told T.k_law_told T.b_law_told passE (pa_cons (pv 3) (pa_cons (pv 6) pa_nil))) (my_call (ok_law_below T) (hr.mono (by decide)) (by rfl) T.g_law_below T.k_law_below T.b_law_below passE (pa_cons (pv 4) (pa_cons (pv 6) pa_nil))) (nomark _))
        (pss_one (ps_ret pe_bl))
        pss_nil))))))
      (pss_cons (ps_set (i := 7) sc_law.nd rfl (by first | exact Or.inl rfl | exact Or.inr rfl) (my_listRg rfl (by rfl) T.z_list (prg_1 (by rfl) T.z_range (my_call (ok_law_draw T) (hr.mono (by decide)) (by rfl) T.g_law_draw T.k_law_draw T.b_law_draw passE (pa_cons (pv 0) (pa_cons (pv 1) (pa_cons pe_int pa_nil)))))))
      (pss_cons (ps_set (i := 8) sc_law.nd rfl (by first | exact Or.inl rfl | exact Or.inr rfl) (pe_callTy my_listOf (by rfl) T.z_list (by decide +kernel) (pa_cons (pv 7) pa_nil)))
      (pss_cons (ps_set (i := 9) sc_law.nd rfl (by first | exact Or.inl rfl | exact Or.inr rfl) (my_call (ok_mixed T) (hr.mono (by decide)) (by rfl) T.g_mixed T.k_mixed T.b_mixed passE (pa_cons (pv 3) (pa_cons (pv 7) pa_nil))))
      (pss_cons (my_if (PW.pt (my_or (pt_cmpR (my_neD hr.units) (pv 9) (my_call (ok_law_mixed T) (hr.mono (by decide)) (by rfl) T.g_law_mixed T.k_law_mixed T.b_law_mixed passE (pa_cons (pv 4) (pa_cons (pv 7) pa_nil))) (nomark _)) (my_or (pt_cmpR (my_neD hr.units) (pv 7) (pv 8) (nomark _)) (pw_or1 (pt_cmpR (my_neD hr.units) (pe_callB my_sorted (by rfl) T.z_sorted (by decide +kernel) (pa_cons (pv 9) pa_nil)) (pv 8) (nomark _))))))
        (pss_one (ps_ret pe_bl))
        pss_nil)
      (pss_cons (my_if (pt_cmpR op_ne (my_meth (pv 3) T.c_Dice T.m_Dice_below (ok_Dice_below T) (hr.mono (by decide)) T.b_Dice_below passE (pa_cons pe_int pa_nil)) (my_call (ok_law_below T) (hr.mono (by decide)) (by rfl) T.g_law_below T.k_law_below T.b_law_below passE (pa_cons (pv 4) (pa_cons pe_int pa_nil))) (nomark _))
        (pss_one (ps_ret pe_bl))
        pss_nil)
      (pss_one (ps_ret (pe_cmpR (my_eqD hr.units) (my_lc (own := [("bad", 10)]) rfl sc_law.nd (pi_tup (my_tup (pa_cons (pe_un un_neg pe_int) (pa_cons pe_int pa_nil)))) (blkOk_by (own := [("bad", 10)]) (N := N_law) (sc := defScope s_law) (by decide +kernel)) (fun _ _ _ _ _ => (pg_name (i := 10) sc_law.nd rfl (by first | exact Or.inl rfl | exact Or.inr rfl))) (fun _ _ _ _ _ => pts_nil) (fun _ _ _ _ _ => (my_call (ok_law_told T) (hr.mono (by decide)) (by rfl) T.g_law_told T.k_law_told T.b_law_told passL (pa_cons pe_non (pa_cons (pv 10) pa_nil))))) (pe_op my_rep (my_lst (pa_cons (my_tup (pa_cons pe_str (pa_cons pe_str pa_nil))) pa_nil)) pe_int) (nomark _)))))))))))))), ?_⟩
    walk_at "rd"
    refine st_new w fun t H1 w1 => ?_
    have w1 : W H H1 ((t, .lst (zeros 0)) :: R) := w1
    walk_at "rd"
    refine draw_at w1 0 rfl (by walk_at "scr") (by omega) (by decide) fun H2 w2 d0 d1 => ?_
    walk_at "rd"
    refine st_new w2 fun b H3 w4 => ?_
    walk_at "rd"
    refine pick_at w4 1 0 rfl rfl (by walk_at "scr") (by omega) (by simp) fun H4 v w5 _ hv => ?_
    obtain ⟨seed, rfl, hs⟩ : ∃ n, v = V.int n ∧ (0 ≤ n ∧ n < 6075) := by
      simp only [List.mem_cons, List.not_mem_nil, or_false] at hv
      rcases hv with rfl | rfl | rfl
      · exact ⟨_, rfl, by omega⟩
      · exact ⟨_, rfl, by omega⟩
      · exact ⟨_, rfl, d0, d1⟩
    have w6 : W H H4 ((t, .lst (zeros 2)) :: R) := w5.drop1
    clear w5 w4 w2
    walk_at "rd"
    refine st_make w6 fun p dx H5 w7 => ?_
    unfold sp_Dice_init
    refine ⟨p, dx, seed, _, rfl, w7.now, fun _ H6 w8 => ?_, fun z => absurd hs z⟩
    have w9 := w7.tr w8
    clear w8
    walk_at "rd"
    refine st_new w9 fun o H7 w10 => ?_
    walk_at "rd"
    refine draw_at w10 2 rfl (by walk_at "scr") (by omega) (by decide) fun H8 w11 d2 d3 => ?_
    walk_at "rd"
    refine st_forR (fun i σ H' => ∃ (d : Int) (u v : Option V), σ = [some (.ref a), some (.ref t), some (.int seed), some (.ref p), some (.ref o), u, v, none, none, none, none] ∧ (0 ≤ d ∧ d < 6075) ∧
        W H H' ((o, .lst [.int d]) :: (p, .ins A.c_Dice dx (fl_Dice (.int d))) :: (t, .lst (zeros (3 + 2 * i))) :: R))
      ⟨seed, none, none, rfl, hs, w11⟩ ?_ ?_
    · rintro i σ H' hi ⟨d, u, v, rfl, hd, w12⟩
      have hi2 : i < 61 := by omega
      walk_at "rd"
      refine draw_at w12 2 rfl (by walk_at "scr") (by omega) (by decide) fun H9 w13 d4 d5 => ?_
      walk_at "rd"
      refine st_new w13 fun b H10 w14 => ?_
      walk_at "rd"
      refine pick_at w14 3 0 rfl rfl (by walk_at "scr") (by omega) (by simp) fun H11 v w15 _ hv => ?_
      have w16 : W H H11 ((o, .lst [.int d]) :: (p, .ins A.c_Dice dx (fl_Dice (.int d))) :: (t, .lst (zeros (3 + 2 * (i + 1)))) :: R) := w15.drop1
      obtain ⟨m, rfl⟩ : ∃ m, v = V.int m := by
        simp only [List.mem_cons, List.not_mem_nil, or_false] at hv
        rcases hv with rfl | rfl | rfl | rfl | rfl | rfl <;> exact ⟨_, rfl⟩
      clear w15 w14 w13
      walk_at "rd"
      refine xIf_2 (fun h => ?_) (fun h => ?_)
      · have hm : ¬ (1 ≤ m ∧ m ≤ 60) := fun z => by simp [z] at h
        walk_at "rd"
        refine st_call ?_
        unfold sp_told
        refine .inl ⟨p, dx, d, m, _, rfl, (w16.front 1 rfl).now, hd, fun z => absurd z hm, fun _ H12 tt w17 => ?_⟩
        have w18 : W H H12 ((tt, .tup (refT .number)) :: (p, .ins A.c_Dice dx (fl_Dice (.int d))) :: (o, .lst [.int d]) :: (t, .lst (zeros (3 + 2 * (i + 1)))) :: R) := w16.tr w17
        clear w17
        walk_at "rd"
        refine st_new w18 fun t2 H13 w19 => ?_
        refine st_neS (dp_refT (r := .number) (w19.get 1 rfl)) (dp_refT (r := .number) (w19.get 0 rfl)) sh_refT ?_
        walk_at "rd"
        refine xIf_F rfl ?_
        exact ⟨d, _, _, rfl, hd, (w19.drop1.drop1).rot 1 1⟩
      · have hm : 1 ≤ m ∧ m ≤ 60 := by simpa using h
        walk_at "rd"
        refine st_call ?_
        unfold sp_told
        refine .inl ⟨p, dx, d, m, _, rfl, (w16.front 1 rfl).now, hd, fun _ H12 w17 => ?_, fun z => absurd hm z⟩
        have w18 : W H H12 ((p, .ins A.c_Dice dx (fl_Dice (.int (dN d)))) :: (o, .lst [.int d]) :: (t, .lst (zeros (3 + 2 * (i + 1)))) :: R) := w16.tr w17
        clear w17
        walk_at "rd"
        refine st_call ?_
        unfold sp_lbelow
        refine ⟨o, d, m, _, rfl, (w18.front 1 rfl).now, hd, fun H13 w19 => ?_⟩
        have w20 := w18.tr w19
        refine st_neS (.int _) (.int _) (sh_int _) ?_
        walk_at "rd"
        refine xIf_F rfl ?_
        exact ⟨dN d, _, _, rfl, dN_bd d, w20⟩
    · rintro σ H' ⟨d, u, v, rfl, hd, w12⟩
      clear w11 w10 w9 w7 w6 w1
      walk_at "rd"
      refine draw_at w12 2 rfl (by walk_at "scr") (by omega) (by decide) fun H9 w13 d4 d5 => ?_
      walk_at "rd"
      refine st_new w13 fun so H10 w14 => ?_
      walk_at "rd"
      refine st_new w14 fun gi H11 w15 => ?_
      rw [rgV_eq] at w15
      generalize hI : rgI 0 (drawP ns (3 + 2 * (drawP ns 2 61).toNat) 21) = is at w15
      have hIl : is.length ≤ 20 := by rw [← hI, rgI_len]; omega
      have hIs : is.Pairwise (· ≤ ·) := by rw [← hI]; exact rgI_sorted _ _
      replace w15 : W H H11 ((gi, .lst (is.map V.int)) :: (so, .lst (is.map V.int)) :: (o, .lst [.int d]) :: (p, .ins A.c_Dice dx (fl_Dice (.int d))) :: (t, .lst (zeros (3 + 2 * (drawP ns 2 61).toNat + 1))) :: R) := w15
      clear w14 w13 w12
      walk_at "rd"
      refine st_call ?_
      unfold sp_mixed
      refine ⟨p, dx, so, d, is.map V.int, _, rfl, (w15.front 3 rfl).now, hd, fun _ _ v => SqL.of (v.get 1 rfl), by rw [List.length_map]; omega, fun H12 l w16 => ?_⟩
      have w17 := w15.tr w16
      clear w16 w15
      rw [mixL_map] at w17
      walk_at "rd"
      refine st_call ?_
      unfold sp_lmixed
      refine ⟨o, so, d, is.map V.int, _, rfl, (w17.front 4 rfl).now, hd, fun _ _ v => SqL.of (v.get 3 rfl), by rw [List.length_map]; omega, fun H13 l2 w18 => ?_⟩
      have w19 := w17.tr w18
      clear w18 w17
      rw [mixL_map] at w19
      have hb2 := mixL_bd d is hd
      refine st_neS (dp_ints (SqL.of (w19.get 2 rfl))) (dp_ints (SqL.of (w19.get 0 rfl))) (sh_list (sh_ints _)) ?_
      walk_at "rd"
      refine xIf_F rfl ?_
      walk_at "rd"
      refine st_neS (dp_ints (SqL.of (w19.get 5 rfl))) (dp_ints (SqL.of (w19.get 4 rfl))) (sh_list (sh_ints _)) ?_
      walk_at "rd"
      refine xIf_F rfl ?_
      walk_at "rd"
      refine st_sorted (ns := (mixL d is).2) w19 (SqL.of (w19.get 2 rfl)) (by rw [mixL_len]; omega) fun ns' q H14 hp hw w20 => ?_
      have e : ns' = is := sorted_same (hp.trans (mixL_perm d is)) hw hIs
      subst e
      walk_at "rd"
      refine st_neS (dp_ints (SqL.of (w20.get 0 rfl))) (dp_ints (SqL.of (w20.get 5 rfl))) (sh_list (sh_ints _)) ?_
      walk_at "rd"
      refine xIf_F rfl ?_
      clear w19
      walk_at "rd"
      refine st_call ?_
      unfold sp_Dice_below
      refine ⟨p, dx, _, 60, _, rfl, (w20.front 4 rfl).now, hb2, fun _ H15 w21 => ?_, fun z => absurd (by decide) z⟩
      have w22 := w20.tr w21
      clear w21 w20
      walk_at "rd"
      refine st_call ?_
      unfold sp_lbelow
      refine ⟨o, _, 60, _, rfl, (w22.front 3 rfl).now, hb2, fun H16 w23 => ?_⟩
      have w24 := w22.tr w23
      clear w23 w22
      walk_at "rd"
      refine xIf_F (by simp) ?_
      walk_at "rd"
      refine st_new w24 fun tb H17 w25 => ?_
      obtain ⟨R2, w26⟩ : ∃ R2, W H H17 ((tb, .tup [.int (-1), .int 6075]) :: R2) := ⟨_, w25⟩
      clear w25 w24
      refine ⟨_, rfl, ⟨_, SqT.of (w26.get 0 rfl)⟩, ?_⟩
      refine st_lcT (xs := [.int (-1), .int 6075]) (fun D i H' => (i = 0 ∧ W H H' ((D, .lst []) :: (tb, .tup [.int (-1), .int 6075]) :: R2)) ∨ (i = 1 ∧ ∃ t1, W H H' ((D, .lst [.ref t1]) :: (t1, .tup (refT .number)) :: (tb, .tup [.int (-1), .int 6075]) :: R2)) ∨
          (i = 2 ∧ ∃ t1 t2, W H H' ((D, .lst [.ref t1, .ref t2]) :: (t2, .tup (refT .number)) :: (t1, .tup (refT .number)) :: (tb, .tup [.int (-1), .int 6075]) :: R2))) w26 (fun D H' w => .inl ⟨rfl, w⟩) ?_ ?_ ?_
      · rintro D i H' hi (⟨_, w⟩ | ⟨_, t1, w⟩ | ⟨_, t1, t2, w⟩)
        · exact SqT.of (w.get 1 rfl)
        · exact SqT.of (w.get 2 rfl)
        · exact SqT.of (w.get 3 rfl)
      · rintro D i x H' hx (⟨rfl, w⟩ | ⟨rfl, t1, w⟩ | ⟨rfl, t1, t2, w⟩)
        · cases hx
          refine ⟨rfl, xIf_T rfl ?_⟩
          walk_at "rd"
          refine st_call ?_
          unfold sp_told
          refine .inr ⟨-1, _, rfl, w.now, by decide, fun H2 tt v => ?_⟩
          refine st_acc ((w.tr v).rot 1 1) 0 rfl (by walk_at "sz") fun H3 w3 => ?_
          exact .inr (.inl ⟨rfl, tt, w3⟩)
        · cases hx
          refine ⟨rfl, xIf_T rfl ?_⟩
          walk_at "rd"
          refine st_call ?_
          unfold sp_told
          refine .inr ⟨6075, _, rfl, w.now, by decide, fun H2 tt v => ?_⟩
          refine st_acc ((w.tr v).rot 1 1) 0 rfl (by walk_at "sz") fun H3 w3 => ?_
          exact .inr (.inr ⟨rfl, t1, tt, w3⟩)
        · cases hx
      · rintro D H' (⟨z, w⟩ | ⟨z, t1, w⟩ | ⟨z, t1, t2, w⟩)
        · cases z
        · cases z
        · walk_at "rd"
          refine st_new w fun t3 H18 w27 => ?_
          walk_at "rd"
          refine st_new w27 fun t4 H19 w28 => ?_
          walk_at "rd"
          refine st_rep w28 0 rfl (by decide) (by decide) (by show 1 * 2 ≤ 10000; decide) fun t5 H20 w29 => ?_
          have d3 := dp_refT (K := K) (r := .number) (w29.get 2 rfl)
          have s3 : Sh 2 (PyData.list [.tuple [.str "refused", .str Rf.number.nm], .tuple [.str "refused", .str Rf.number.nm]]) := sh_list (sh_cons sh_refT (sh_cons sh_refT sh_nil))
          refine st_eqS (.lst (SqL.of (w29.get 3 rfl)) (.cons (dp_refT (r := .number) (w29.get 5 rfl)) (.cons (dp_refT (r := .number) (w29.get 4 rfl)) .nil)))
            (.lst (SqL.of (w29.get 0 rfl)) (.cons d3 (.cons d3 .nil))) (s3.mono (by decide)) ?_
          exact k H20
end
end TR
namespace TR
open PySem PySem.Spec PyProof.Rows L2
def dd_wall : He.DefD := ⟨("_wall", none), "_wall", "_wall", defArgs s_wall, defBody s_wall, defScope s_wall, [], []⟩
def dd_Dice_init__ : He.DefD := ⟨("Dice", some "__init__"), "__init__", "Dice.__init__", defArgs s_Dice_init__, defBody s_Dice_init__, defScope s_Dice_init__, [], []⟩
def dd_Dice_below : He.DefD := ⟨("Dice", some "below"), "below", "Dice.below", defArgs s_Dice_below, defBody s_Dice_below, defScope s_Dice_below, [], []⟩
def dd_Dice_twin : He.DefD := ⟨("Dice", some "twin"), "twin", "Dice.twin", defArgs s_Dice_twin, defBody s_Dice_twin, defScope s_Dice_twin, [], []⟩
def dd_mixed : He.DefD := ⟨("mixed", none), "mixed", "mixed", defArgs s_mixed, defBody s_mixed, defScope s_mixed, [], []⟩
def dd_law_cell : He.DefD := ⟨("_law_cell", none), "_law_cell", "_law_cell", defArgs s_law_cell, defBody s_law_cell, defScope s_law_cell, [], []⟩
def dd_law_mix : He.DefD := ⟨("_law_mix", none), "_law_mix", "_law_mix", defArgs s_law_mix, defBody s_law_mix, defScope s_law_mix, [], []⟩
def dd_law_draw : He.DefD := ⟨("_law_draw", none), "_law_draw", "_law_draw", defArgs s_law_draw, defBody s_law_draw, defScope s_law_draw, [], []⟩
def dd_law_pick : He.DefD := ⟨("_law_pick", none), "_law_pick", "_law_pick", defArgs s_law_pick, defBody s_law_pick, defScope s_law_pick, [], []⟩
def dd_law_refusal : He.DefD := ⟨("_law_refusal", none), "_law_refusal", "_law_refusal", defArgs s_law_refusal, defBody s_law_refusal, defScope s_law_refusal, [], []⟩
def dd_law_below : He.DefD := ⟨("_law_below", none), "_law_below", "_law_below", defArgs s_law_below, defBody s_law_below, defScope s_law_below, [], []⟩
def dd_law_mixed : He.DefD := ⟨("_law_mixed", none), "_law_mixed", "_law_mixed", defArgs s_law_mixed, defBody s_law_mixed, defScope s_law_mixed, [], []⟩
def dd_law_told : He.DefD := ⟨("_law_told", none), "_law_told", "_law_told", defArgs s_law_told, defBody s_law_told, defScope s_law_told, [], []⟩
def dd_law : He.DefD := ⟨("law", none), "law", "law", defArgs s_law, defBody s_law, defScope s_law, [], []⟩
def hfn : List He.DefD := [dd_wall, dd_Dice_init__, dd_Dice_below, dd_Dice_twin, dd_mixed, dd_law_cell, dd_law_mix, dd_law_draw, dd_law_pick, dd_law_refusal, dd_law_below, dd_law_mixed, dd_law_told, dd_law]
def hfa0 : List He.Fa := [.free "ValueError", .free "isinstance", .free "len", .free "list", .free "range", .free "sorted", .int "WHEEL" 6075, .int "TIMES" 106, .int "MORE" 1283, .int "MOST" 60, .glo "RoadError", .glo "BadTune", .glo "BadNumber", .glo "BadEntry", .glo "BadWord", .glo "Dice", .cls "Dice", .mkr "Dice", .noat "Dice" "number", .glo "_wall", .meth "Dice" "__init__", .meth "Dice" "below", .meth "Dice" "twin", .glo "mixed", .glo "_law_cell", .glo "_law_mix", .glo "_law_draw", .glo "_law_pick", .glo "_law_refusal", .glo "_law_below"]
def hfa1 : List He.Fa := [.glo "_law_mixed", .glo "_law_told", .glo "law"]
def hfa : List He.Fa := hfa0 ++ (hfa1)
def hx_x_RoadError (K : PySem.W.Frag) : Bool := PySem.W.excIn K (He.ga K "RoadError") He.veBase "ValueError.__new__"
def hx_k_RoadError (K : PySem.W.Frag) : Bool := PySem.W.keepIn K (.ref (He.ga K "RoadError"))
def hx_r_RoadError (K : PySem.W.Frag) : Bool := decide (PySem.W.subIn K (.ref (He.ga K "RoadError")) (.type "BaseException") = some true)
def hx_t_RoadError (K : PySem.W.Frag) : Bool := decide (PySem.W.typeIn K (.ref (He.ga K "RoadError")) = some (.type "type"))
def hx_e_RoadError_hg (K : PySem.W.Frag) : Bool := decide (PySem.W.findIn K (.ref (He.ga K "RoadError")) "__getattribute__" = some (some (.builtin "BaseException.__getattribute__")))
def hx_e_RoadError_hk (K : PySem.W.Frag) : Bool := decide (PySem.W.findIn K (.ref (He.ga K "RoadError")) "__getattr__" = some none)
def hx_e_RoadError_hd (K : PySem.W.Frag) : Bool := PySem.W.hasDictIn K (He.ga K "RoadError")
def hx_e_RoadError_ha (K : PySem.W.Frag) : Bool := decide (PySem.W.findIn K (.ref (He.ga K "RoadError")) "__class__" = some (some (.builtin "object.__class__")))
def hx_e_RoadError_hm (K : PySem.W.Frag) : Bool := decide (PySem.W.mroIn K (He.ga K "RoadError") (.type "object") = some true)
def hx_m_RoadError (K : PySem.W.Frag) : Bool := decide (PySem.W.exmOne K (.ref (He.ga K "RoadError")) (.ref (He.ga K "RoadError")) = some true)
def hx_i_RoadError_RoadError (K : PySem.W.Frag) : Bool := decide (PySem.W.kitOne K (.ref (He.ga K "RoadError")) (.ref (He.ga K "RoadError")) = some true)
def hx_i_RoadError_BadTune (K : PySem.W.Frag) : Bool := decide (PySem.W.kitOne K (.ref (He.ga K "RoadError")) (.ref (He.ga K "BadTune")) = some false)
def hx_i_RoadError_BadNumber (K : PySem.W.Frag) : Bool := decide (PySem.W.kitOne K (.ref (He.ga K "RoadError")) (.ref (He.ga K "BadNumber")) = some false)
def hx_i_RoadError_BadEntry (K : PySem.W.Frag) : Bool := decide (PySem.W.kitOne K (.ref (He.ga K "RoadError")) (.ref (He.ga K "BadEntry")) = some false)
def hx_i_RoadError_BadWord (K : PySem.W.Frag) : Bool := decide (PySem.W.kitOne K (.ref (He.ga K "RoadError")) (.ref (He.ga K "BadWord")) = some false)
def hx_i_RoadError_ValueError (K : PySem.W.Frag) : Bool := decide (PySem.W.kitOne K (.ref (He.ga K "RoadError")) (.type "ValueError") = some true)
def hx_x_BadTune (K : PySem.W.Frag) : Bool := PySem.W.excIn K (He.ga K "BadTune") He.veBase "ValueError.__new__"
def hx_k_BadTune (K : PySem.W.Frag) : Bool := PySem.W.keepIn K (.ref (He.ga K "BadTune"))
def hx_r_BadTune (K : PySem.W.Frag) : Bool := decide (PySem.W.subIn K (.ref (He.ga K "BadTune")) (.type "BaseException") = some true)
def hx_t_BadTune (K : PySem.W.Frag) : Bool := decide (PySem.W.typeIn K (.ref (He.ga K "BadTune")) = some (.type "type"))
def hx_e_BadTune_hg (K : PySem.W.Frag) : Bool := decide (PySem.W.findIn K (.ref (He.ga K "BadTune")) "__getattribute__" = some (some (.builtin "BaseException.__getattribute__")))
def hx_e_BadTune_hk (K : PySem.W.Frag) : Bool := decide (PySem.W.findIn K (.ref (He.ga K "BadTune")) "__getattr__" = some none)
def hx_e_BadTune_hd (K : PySem.W.Frag) : Bool := PySem.W.hasDictIn K (He.ga K "BadTune")
def hx_e_BadTune_ha (K : PySem.W.Frag) : Bool := decide (PySem.W.findIn K (.ref (He.ga K "BadTune")) "__class__" = some (some (.builtin "object.__class__")))
def hx_e_BadTune_hm (K : PySem.W.Frag) : Bool := decide (PySem.W.mroIn K (He.ga K "BadTune") (.type "object") = some true)
def hx_m_BadTune (K : PySem.W.Frag) : Bool := decide (PySem.W.exmOne K (.ref (He.ga K "BadTune")) (.ref (He.ga K "RoadError")) = some true)
def hx_i_BadTune_RoadError (K : PySem.W.Frag) : Bool := decide (PySem.W.kitOne K (.ref (He.ga K "BadTune")) (.ref (He.ga K "RoadError")) = some true)
def hx_i_BadTune_BadTune (K : PySem.W.Frag) : Bool := decide (PySem.W.kitOne K (.ref (He.ga K "BadTune")) (.ref (He.ga K "BadTune")) = some true)
def hx_i_BadTune_BadNumber (K : PySem.W.Frag) : Bool := decide (PySem.W.kitOne K (.ref (He.ga K "BadTune")) (.ref (He.ga K "BadNumber")) = some false)
def hx_i_BadTune_BadEntry (K : PySem.W.Frag) : Bool := decide (PySem.W.kitOne K (.ref (He.ga K "BadTune")) (.ref (He.ga K "BadEntry")) = some false)
def hx_i_BadTune_BadWord (K : PySem.W.Frag) : Bool := decide (PySem.W.kitOne K (.ref (He.ga K "BadTune")) (.ref (He.ga K "BadWord")) = some false)
def hx_i_BadTune_ValueError (K : PySem.W.Frag) : Bool := decide (PySem.W.kitOne K (.ref (He.ga K "BadTune")) (.type "ValueError") = some true)
def hx_x_BadNumber (K : PySem.W.Frag) : Bool := PySem.W.excIn K (He.ga K "BadNumber") He.veBase "ValueError.__new__"
def hx_k_BadNumber (K : PySem.W.Frag) : Bool := PySem.W.keepIn K (.ref (He.ga K "BadNumber"))
def hx_r_BadNumber (K : PySem.W.Frag) : Bool := decide (PySem.W.subIn K (.ref (He.ga K "BadNumber")) (.type "BaseException") = some true)
def hx_t_BadNumber (K : PySem.W.Frag) : Bool := decide (PySem.W.typeIn K (.ref (He.ga K "BadNumber")) = some (.type "type"))
def hx_e_BadNumber_hg (K : PySem.W.Frag) : Bool := decide (PySem.W.findIn K (.ref (He.ga K "BadNumber")) "__getattribute__" = some (some (.builtin "BaseException.__getattribute__")))
def hx_e_BadNumber_hk (K : PySem.W.Frag) : Bool := decide (PySem.W.findIn K (.ref (He.ga K "BadNumber")) "__getattr__" = some none)
def hx_e_BadNumber_hd (K : PySem.W.Frag) : Bool := PySem.W.hasDictIn K (He.ga K "BadNumber")
def hx_e_BadNumber_ha (K : PySem.W.Frag) : Bool := decide (PySem.W.findIn K (.ref (He.ga K "BadNumber")) "__class__" = some (some (.builtin "object.__class__")))
def hx_e_BadNumber_hm (K : PySem.W.Frag) : Bool := decide (PySem.W.mroIn K (He.ga K "BadNumber") (.type "object") = some true)
def hx_m_BadNumber (K : PySem.W.Frag) : Bool := decide (PySem.W.exmOne K (.ref (He.ga K "BadNumber")) (.ref (He.ga K "RoadError")) = some true)
def hx_i_BadNumber_RoadError (K : PySem.W.Frag) : Bool := decide (PySem.W.kitOne K (.ref (He.ga K "BadNumber")) (.ref (He.ga K "RoadError")) = some true)
def hx_i_BadNumber_BadTune (K : PySem.W.Frag) : Bool := decide (PySem.W.kitOne K (.ref (He.ga K "BadNumber")) (.ref (He.ga K "BadTune")) = some false)
def hx_i_BadNumber_BadNumber (K : PySem.W.Frag) : Bool := decide (PySem.W.kitOne K (.ref (He.ga K "BadNumber")) (.ref (He.ga K "BadNumber")) = some true)
def hx_i_BadNumber_BadEntry (K : PySem.W.Frag) : Bool := decide (PySem.W.kitOne K (.ref (He.ga K "BadNumber")) (.ref (He.ga K "BadEntry")) = some false)
def hx_i_BadNumber_BadWord (K : PySem.W.Frag) : Bool := decide (PySem.W.kitOne K (.ref (He.ga K "BadNumber")) (.ref (He.ga K "BadWord")) = some false)
def hx_i_BadNumber_ValueError (K : PySem.W.Frag) : Bool := decide (PySem.W.kitOne K (.ref (He.ga K "BadNumber")) (.type "ValueError") = some true)
def hx_x_BadEntry (K : PySem.W.Frag) : Bool := PySem.W.excIn K (He.ga K "BadEntry") He.veBase "ValueError.__new__"
def hx_k_BadEntry (K : PySem.W.Frag) : Bool := PySem.W.keepIn K (.ref (He.ga K "BadEntry"))
def hx_r_BadEntry (K : PySem.W.Frag) : Bool := decide (PySem.W.subIn K (.ref (He.ga K "BadEntry")) (.type "BaseException") = some true)
def hx_t_BadEntry (K : PySem.W.Frag) : Bool := decide (PySem.W.typeIn K (.ref (He.ga K "BadEntry")) = some (.type "type"))
def hx_e_BadEntry_hg (K : PySem.W.Frag) : Bool := decide (PySem.W.findIn K (.ref (He.ga K "BadEntry")) "__getattribute__" = some (some (.builtin "BaseException.__getattribute__")))
def hx_e_BadEntry_hk (K : PySem.W.Frag) : Bool := decide (PySem.W.findIn K (.ref (He.ga K "BadEntry")) "__getattr__" = some none)
def hx_e_BadEntry_hd (K : PySem.W.Frag) : Bool := PySem.W.hasDictIn K (He.ga K "BadEntry")
def hx_e_BadEntry_ha (K : PySem.W.Frag) : Bool := decide (PySem.W.findIn K (.ref (He.ga K "BadEntry")) "__class__" = some (some (.builtin "object.__class__")))
def hx_e_BadEntry_hm (K : PySem.W.Frag) : Bool := decide (PySem.W.mroIn K (He.ga K "BadEntry") (.type "object") = some true)
def hx_m_BadEntry (K : PySem.W.Frag) : Bool := decide (PySem.W.exmOne K (.ref (He.ga K "BadEntry")) (.ref (He.ga K "RoadError")) = some true)
def hx_i_BadEntry_RoadError (K : PySem.W.Frag) : Bool := decide (PySem.W.kitOne K (.ref (He.ga K "BadEntry")) (.ref (He.ga K "RoadError")) = some true)
def hx_i_BadEntry_BadTune (K : PySem.W.Frag) : Bool := decide (PySem.W.kitOne K (.ref (He.ga K "BadEntry")) (.ref (He.ga K "BadTune")) = some false)
def hx_i_BadEntry_BadNumber (K : PySem.W.Frag) : Bool := decide (PySem.W.kitOne K (.ref (He.ga K "BadEntry")) (.ref (He.ga K "BadNumber")) = some false)
def hx_i_BadEntry_BadEntry (K : PySem.W.Frag) : Bool := decide (PySem.W.kitOne K (.ref (He.ga K "BadEntry")) (.ref (He.ga K "BadEntry")) = some true)
def hx_i_BadEntry_BadWord (K : PySem.W.Frag) : Bool := decide (PySem.W.kitOne K (.ref (He.ga K "BadEntry")) (.ref (He.ga K "BadWord")) = some false)
def hx_i_BadEntry_ValueError (K : PySem.W.Frag) : Bool := decide (PySem.W.kitOne K (.ref (He.ga K "BadEntry")) (.type "ValueError") = some true)
def hx_x_BadWord (K : PySem.W.Frag) : Bool := PySem.W.excIn K (He.ga K "BadWord") He.veBase "ValueError.__new__"
def hx_k_BadWord (K : PySem.W.Frag) : Bool := PySem.W.keepIn K (.ref (He.ga K "BadWord"))
def hx_r_BadWord (K : PySem.W.Frag) : Bool := decide (PySem.W.subIn K (.ref (He.ga K "BadWord")) (.type "BaseException") = some true)
def hx_t_BadWord (K : PySem.W.Frag) : Bool := decide (PySem.W.typeIn K (.ref (He.ga K "BadWord")) = some (.type "type"))
def hx_e_BadWord_hg (K : PySem.W.Frag) : Bool := decide (PySem.W.findIn K (.ref (He.ga K "BadWord")) "__getattribute__" = some (some (.builtin "BaseException.__getattribute__")))
def hx_e_BadWord_hk (K : PySem.W.Frag) : Bool := decide (PySem.W.findIn K (.ref (He.ga K "BadWord")) "__getattr__" = some none)
def hx_e_BadWord_hd (K : PySem.W.Frag) : Bool := PySem.W.hasDictIn K (He.ga K "BadWord")
def hx_e_BadWord_ha (K : PySem.W.Frag) : Bool := decide (PySem.W.findIn K (.ref (He.ga K "BadWord")) "__class__" = some (some (.builtin "object.__class__")))
def hx_e_BadWord_hm (K : PySem.W.Frag) : Bool := decide (PySem.W.mroIn K (He.ga K "BadWord") (.type "object") = some true)
def hx_m_BadWord (K : PySem.W.Frag) : Bool := decide (PySem.W.exmOne K (.ref (He.ga K "BadWord")) (.ref (He.ga K "RoadError")) = some true)
def hx_i_BadWord_RoadError (K : PySem.W.Frag) : Bool := decide (PySem.W.kitOne K (.ref (He.ga K "BadWord")) (.ref (He.ga K "RoadError")) = some true)
def hx_i_BadWord_BadTune (K : PySem.W.Frag) : Bool := decide (PySem.W.kitOne K (.ref (He.ga K "BadWord")) (.ref (He.ga K "BadTune")) = some false)
def hx_i_BadWord_BadNumber (K : PySem.W.Frag) : Bool := decide (PySem.W.kitOne K (.ref (He.ga K "BadWord")) (.ref (He.ga K "BadNumber")) = some false)
def hx_i_BadWord_BadEntry (K : PySem.W.Frag) : Bool := decide (PySem.W.kitOne K (.ref (He.ga K "BadWord")) (.ref (He.ga K "BadEntry")) = some false)
def hx_i_BadWord_BadWord (K : PySem.W.Frag) : Bool := decide (PySem.W.kitOne K (.ref (He.ga K "BadWord")) (.ref (He.ga K "BadWord")) = some true)
def hx_i_BadWord_ValueError (K : PySem.W.Frag) : Bool := decide (PySem.W.kitOne K (.ref (He.ga K "BadWord")) (.type "ValueError") = some true)
def hx_e_hn (K : PySem.W.Frag) : Bool := decide (PySem.W.specialIn K (.builtin "object.__class__") "__get__" = some (some (.builtin "getset_descriptor.__get__")))
def hx_e_ht (K : PySem.W.Frag) : Bool := decide (PySem.W.takesIn K (.builtin "object.__class__") = some true)
def hxs0 : List (PySem.W.Frag → Bool) := [hx_x_RoadError, hx_k_RoadError, hx_r_RoadError, hx_t_RoadError, hx_e_RoadError_hg, hx_e_RoadError_hk, hx_e_RoadError_hd, hx_e_RoadError_ha, hx_e_RoadError_hm, hx_m_RoadError, hx_i_RoadError_RoadError, hx_i_RoadError_BadTune, hx_i_RoadError_BadNumber, hx_i_RoadError_BadEntry, hx_i_RoadError_BadWord, hx_i_RoadError_ValueError, hx_x_BadTune, hx_k_BadTune, hx_r_BadTune, hx_t_BadTune, hx_e_BadTune_hg, hx_e_BadTune_hk, hx_e_BadTune_hd, hx_e_BadTune_ha, hx_e_BadTune_hm]
def hxs1 : List (PySem.W.Frag → Bool) := [hx_m_BadTune, hx_i_BadTune_RoadError, hx_i_BadTune_BadTune, hx_i_BadTune_BadNumber, hx_i_BadTune_BadEntry, hx_i_BadTune_BadWord, hx_i_BadTune_ValueError, hx_x_BadNumber, hx_k_BadNumber, hx_r_BadNumber, hx_t_BadNumber, hx_e_BadNumber_hg, hx_e_BadNumber_hk, hx_e_BadNumber_hd, hx_e_BadNumber_ha, hx_e_BadNumber_hm, hx_m_BadNumber, hx_i_BadNumber_RoadError, hx_i_BadNumber_BadTune, hx_i_BadNumber_BadNumber, hx_i_BadNumber_BadEntry, hx_i_BadNumber_BadWord, hx_i_BadNumber_ValueError, hx_x_BadEntry, hx_k_BadEntry]
def hxs2 : List (PySem.W.Frag → Bool) := [hx_r_BadEntry, hx_t_BadEntry, hx_e_BadEntry_hg, hx_e_BadEntry_hk, hx_e_BadEntry_hd, hx_e_BadEntry_ha, hx_e_BadEntry_hm, hx_m_BadEntry, hx_i_BadEntry_RoadError, hx_i_BadEntry_BadTune, hx_i_BadEntry_BadNumber, hx_i_BadEntry_BadEntry, hx_i_BadEntry_BadWord, hx_i_BadEntry_ValueError, hx_x_BadWord, hx_k_BadWord, hx_r_BadWord, hx_t_BadWord, hx_e_BadWord_hg, hx_e_BadWord_hk, hx_e_BadWord_hd, hx_e_BadWord_ha, hx_e_BadWord_hm, hx_m_BadWord, hx_i_BadWord_RoadError]
def hxs3 : List (PySem.W.Frag → Bool) := [hx_i_BadWord_BadTune, hx_i_BadWord_BadNumber, hx_i_BadWord_BadEntry, hx_i_BadWord_BadWord, hx_i_BadWord_ValueError, hx_e_hn, hx_e_ht]
def hxs : List (PySem.W.Frag → Bool) := hxs0 ++ (hxs1 ++ (hxs2 ++ (hxs3)))
def hex (K : PySem.W.Frag) : Bool := hxs.all fun f => f K
theorem hex_at {K : PySem.W.Frag} (h : hex K = true) (i : Nat) {f : PySem.W.Frag → Bool} (e : hxs[i]? = some f := by rfl) : f K = true := List.all_eq_true.mp h f (List.mem_of_getElem? e)
abbrev hR : PySem.W.OpenRow := PySem.W.OpenLaw.row PySem.Challenge.rw_tuneroad_k02_whole_dice
abbrev hhk : PySem.W.Hook := hookM hfa hfn hex
def hob (s : PySem.W.SharedT) : AlM := obsM hfa hfn hex (HandSHeadRun.getT s)
theorem hob_eq (s : PySem.W.SharedT) : hob s = hhk.obs s.abs := obsM_eq (HandSHeadRun.getT_eq s)
def hnm0 : List PySem.Str := ["_wall", "RoadError", "BadTune", "BadNumber", "BadEntry", "BadWord", "WHEEL", "TIMES", "MORE", "MOST", "Dice", "mixed", "_law_cell", "_law_mix", "_law_draw", "_law_pick", "_law_refusal", "_law_below", "_law_mixed", "_law_told"]
def hnm : List PySem.Str := hnm0
theorem hrun2 (w : World) : ∀ os, (HandSHeadRun.endF (HandSHeadRun.stepQ (HandSHeadRun.denQ HandSHeadRun.tabQ) hR.prog w) 20000 hR.prog w os).map hob = some (hhk.val w) := by
  intro os
  kernel_rfl
theorem hrun (w : World) : HandSHeadRun.RunEq hR (PySem.W.view hR.prog [23]) hhk hob 20000 hnm w := by
  refine run_split (fun os => ?_) (hrun2 w)
  kernel_rfl
theorem txt_of {K : PySem.W.Frag} {h : Heap} {mg : Str → Option Value} (X : K.In h) (G : h.Ns mainGlobals mg) (c : SaysM hfa hfn hex K) : ∃ A : Ads, Txt K mg A := by
  have cd := c.d
  have cx := c.more
  obtain ⟨d_wall, F_wall⟩ := cd.def_ 0 (d := dd_wall) rfl
  obtain ⟨d_Dice_init__, F_Dice_init__⟩ := cd.def_ 1 (d := dd_Dice_init__) rfl
  obtain ⟨d_Dice_below, F_Dice_below⟩ := cd.def_ 2 (d := dd_Dice_below) rfl
  obtain ⟨d_Dice_twin, F_Dice_twin⟩ := cd.def_ 3 (d := dd_Dice_twin) rfl
  obtain ⟨d_mixed, F_mixed⟩ := cd.def_ 4 (d := dd_mixed) rfl
  obtain ⟨d_law_cell, F_law_cell⟩ := cd.def_ 5 (d := dd_law_cell) rfl
  obtain ⟨d_law_mix, F_law_mix⟩ := cd.def_ 6 (d := dd_law_mix) rfl
  obtain ⟨d_law_draw, F_law_draw⟩ := cd.def_ 7 (d := dd_law_draw) rfl
  obtain ⟨d_law_pick, F_law_pick⟩ := cd.def_ 8 (d := dd_law_pick) rfl
  obtain ⟨d_law_refusal, F_law_refusal⟩ := cd.def_ 9 (d := dd_law_refusal) rfl
  obtain ⟨d_law_below, F_law_below⟩ := cd.def_ 10 (d := dd_law_below) rfl
  obtain ⟨d_law_mixed, F_law_mixed⟩ := cd.def_ 11 (d := dd_law_mixed) rfl
  obtain ⟨d_law_told, F_law_told⟩ := cd.def_ 12 (d := dd_law_told) rfl
  obtain ⟨d_law, F_law⟩ := cd.def_ 13 (d := dd_law) rfl
  refine ⟨{ c_RoadError := He.ga K "RoadError", c_BadTune := He.ga K "BadTune", c_BadNumber := He.ga K "BadNumber", c_BadEntry := He.ga K "BadEntry", c_BadWord := He.ga K "BadWord", c_Dice := He.ga K "Dice", f_wall := He.fAd K ("_wall", none), f_Dice_init__ := He.fAd K ("Dice", some "__init__"), f_Dice_below := He.fAd K ("Dice", some "below"), f_Dice_twin := He.fAd K ("Dice", some "twin"), f_mixed := He.fAd K ("mixed", none), f_law_cell := He.fAd K ("_law_cell", none), f_law_mix := He.fAd K ("_law_mix", none), f_law_draw := He.fAd K ("_law_draw", none), f_law_pick := He.fAd K ("_law_pick", none), f_law_refusal := He.fAd K ("_law_refusal", none), f_law_below := He.fAd K ("_law_below", none), f_law_mixed := He.fAd K ("_law_mixed", none), f_law_told := He.fAd K ("_law_told", none), f_law := He.fAd K ("law", none), d_wall := d_wall, d_Dice_init__ := d_Dice_init__, d_Dice_below := d_Dice_below, d_Dice_twin := d_Dice_twin, d_mixed := d_mixed, d_law_cell := d_law_cell, d_law_mix := d_law_mix, d_law_draw := d_law_draw, d_law_pick := d_law_pick, d_law_refusal := d_law_refusal, d_law_below := d_law_below, d_law_mixed := d_law_mixed, d_law_told := d_law_told, d_law := d_law }, ?_⟩
  exact {
    z_ValueError := He.free_ok X G (cd.fact 0 (f := .free "ValueError") rfl),
    z_isinstance := He.free_ok X G (cd.fact 1 (f := .free "isinstance") rfl),
    z_len := He.free_ok X G (cd.fact 2 (f := .free "len") rfl),
    z_list := He.free_ok X G (cd.fact 3 (f := .free "list") rfl),
    z_range := He.free_ok X G (cd.fact 4 (f := .free "range") rfl),
    z_sorted := He.free_ok X G (cd.fact 5 (f := .free "sorted") rfl),
    gi_WHEEL := He.int_ok X G (cd.fact 6 (f := .int "WHEEL" 6075) rfl),
    gi_TIMES := He.int_ok X G (cd.fact 7 (f := .int "TIMES" 106) rfl),
    gi_MORE := He.int_ok X G (cd.fact 8 (f := .int "MORE" 1283) rfl),
    gi_MOST := He.int_ok X G (cd.fact 9 (f := .int "MOST" 60) rfl),
    g_RoadError := He.glo_ok X G (cd.fact 10 (f := .glo "RoadError") rfl),
    g_BadTune := He.glo_ok X G (cd.fact 11 (f := .glo "BadTune") rfl),
    g_BadNumber := He.glo_ok X G (cd.fact 12 (f := .glo "BadNumber") rfl),
    g_BadEntry := He.glo_ok X G (cd.fact 13 (f := .glo "BadEntry") rfl),
    g_BadWord := He.glo_ok X G (cd.fact 14 (f := .glo "BadWord") rfl),
    g_Dice := He.glo_ok X G (cd.fact 15 (f := .glo "Dice") rfl),
    c_Dice := He.cls_ok (cd.fact 16 (f := .cls "Dice") rfl),
    M_Dice := He.mkr_ok (cd.fact 17 (f := .mkr "Dice") rfl),
    n_Dice_number := He.noat_ok (cd.fact 18 (f := .noat "Dice" "number") rfl),
    x_RoadError := (hex_at cx 0 (f := hx_x_RoadError)),
    k_RoadError := (hex_at cx 1 (f := hx_k_RoadError)),
    r_RoadError := (of_decide_eq_true (hex_at cx 2 (f := hx_r_RoadError))),
    t_RoadError := (of_decide_eq_true (hex_at cx 3 (f := hx_t_RoadError))),
    e_RoadError := ⟨(of_decide_eq_true (hex_at cx 4 (f := hx_e_RoadError_hg))), (of_decide_eq_true (hex_at cx 5 (f := hx_e_RoadError_hk))), (of_decide_eq_true (hex_at cx 2 (f := hx_r_RoadError))), (hex_at cx 6 (f := hx_e_RoadError_hd)), (of_decide_eq_true (hex_at cx 7 (f := hx_e_RoadError_ha))), (of_decide_eq_true (hex_at cx 80 (f := hx_e_hn))), (of_decide_eq_true (hex_at cx 81 (f := hx_e_ht))), (of_decide_eq_true (hex_at cx 8 (f := hx_e_RoadError_hm)))⟩,
    m_RoadError := (of_decide_eq_true (hex_at cx 9 (f := hx_m_RoadError))),
    i_RoadError_RoadError := (of_decide_eq_true (hex_at cx 10 (f := hx_i_RoadError_RoadError))),
    i_RoadError_BadTune := (of_decide_eq_true (hex_at cx 11 (f := hx_i_RoadError_BadTune))),
    i_RoadError_BadNumber := (of_decide_eq_true (hex_at cx 12 (f := hx_i_RoadError_BadNumber))),
    i_RoadError_BadEntry := (of_decide_eq_true (hex_at cx 13 (f := hx_i_RoadError_BadEntry))),
    i_RoadError_BadWord := (of_decide_eq_true (hex_at cx 14 (f := hx_i_RoadError_BadWord))),
    i_RoadError_ValueError := (of_decide_eq_true (hex_at cx 15 (f := hx_i_RoadError_ValueError))),
    x_BadTune := (hex_at cx 16 (f := hx_x_BadTune)),
    k_BadTune := (hex_at cx 17 (f := hx_k_BadTune)),
    r_BadTune := (of_decide_eq_true (hex_at cx 18 (f := hx_r_BadTune))),
    t_BadTune := (of_decide_eq_true (hex_at cx 19 (f := hx_t_BadTune))),
    e_BadTune := ⟨(of_decide_eq_true (hex_at cx 20 (f := hx_e_BadTune_hg))), (of_decide_eq_true (hex_at cx 21 (f := hx_e_BadTune_hk))), (of_decide_eq_true (hex_at cx 18 (f := hx_r_BadTune))), (hex_at cx 22 (f := hx_e_BadTune_hd)), (of_decide_eq_true (hex_at cx 23 (f := hx_e_BadTune_ha))), (of_decide_eq_true (hex_at cx 80 (f := hx_e_hn))), (of_decide_eq_true (hex_at cx 81 (f := hx_e_ht))), (of_decide_eq_true (hex_at cx 24 (f := hx_e_BadTune_hm)))⟩,
    m_BadTune := (of_decide_eq_true (hex_at cx 25 (f := hx_m_BadTune))),
    i_BadTune_RoadError := (of_decide_eq_true (hex_at cx 26 (f := hx_i_BadTune_RoadError))),
    i_BadTune_BadTune := (of_decide_eq_true (hex_at cx 27 (f := hx_i_BadTune_BadTune))),
    i_BadTune_BadNumber := (of_decide_eq_true (hex_at cx 28 (f := hx_i_BadTune_BadNumber))),
    i_BadTune_BadEntry := (of_decide_eq_true (hex_at cx 29 (f := hx_i_BadTune_BadEntry))),
    i_BadTune_BadWord := (of_decide_eq_true (hex_at cx 30 (f := hx_i_BadTune_BadWord))),
    i_BadTune_ValueError := (of_decide_eq_true (hex_at cx 31 (f := hx_i_BadTune_ValueError))),
    x_BadNumber := (hex_at cx 32 (f := hx_x_BadNumber)),
    k_BadNumber := (hex_at cx 33 (f := hx_k_BadNumber)),
    r_BadNumber := (of_decide_eq_true (hex_at cx 34 (f := hx_r_BadNumber))),
    t_BadNumber := (of_decide_eq_true (hex_at cx 35 (f := hx_t_BadNumber))),
    e_BadNumber := ⟨(of_decide_eq_true (hex_at cx 36 (f := hx_e_BadNumber_hg))), (of_decide_eq_true (hex_at cx 37 (f := hx_e_BadNumber_hk))), (of_decide_eq_true (hex_at cx 34 (f := hx_r_BadNumber))), (hex_at cx 38 (f := hx_e_BadNumber_hd)), (of_decide_eq_true (hex_at cx 39 (f := hx_e_BadNumber_ha))), (of_decide_eq_true (hex_at cx 80 (f := hx_e_hn))), (of_decide_eq_true (hex_at cx 81 (f := hx_e_ht))), (of_decide_eq_true (hex_at cx 40 (f := hx_e_BadNumber_hm)))⟩,
    m_BadNumber := (of_decide_eq_true (hex_at cx 41 (f := hx_m_BadNumber))),
    i_BadNumber_RoadError := (of_decide_eq_true (hex_at cx 42 (f := hx_i_BadNumber_RoadError))),
    i_BadNumber_BadTune := (of_decide_eq_true (hex_at cx 43 (f := hx_i_BadNumber_BadTune))),
    i_BadNumber_BadNumber := (of_decide_eq_true (hex_at cx 44 (f := hx_i_BadNumber_BadNumber))),
    i_BadNumber_BadEntry := (of_decide_eq_true (hex_at cx 45 (f := hx_i_BadNumber_BadEntry))),
    i_BadNumber_BadWord := (of_decide_eq_true (hex_at cx 46 (f := hx_i_BadNumber_BadWord))),
    i_BadNumber_ValueError := (of_decide_eq_true (hex_at cx 47 (f := hx_i_BadNumber_ValueError))),
    x_BadEntry := (hex_at cx 48 (f := hx_x_BadEntry)),
    k_BadEntry := (hex_at cx 49 (f := hx_k_BadEntry)),
    r_BadEntry := (of_decide_eq_true (hex_at cx 50 (f := hx_r_BadEntry))),
    t_BadEntry := (of_decide_eq_true (hex_at cx 51 (f := hx_t_BadEntry))),
    e_BadEntry := ⟨(of_decide_eq_true (hex_at cx 52 (f := hx_e_BadEntry_hg))), (of_decide_eq_true (hex_at cx 53 (f := hx_e_BadEntry_hk))), (of_decide_eq_true (hex_at cx 50 (f := hx_r_BadEntry))), (hex_at cx 54 (f := hx_e_BadEntry_hd)), (of_decide_eq_true (hex_at cx 55 (f := hx_e_BadEntry_ha))), (of_decide_eq_true (hex_at cx 80 (f := hx_e_hn))), (of_decide_eq_true (hex_at cx 81 (f := hx_e_ht))), (of_decide_eq_true (hex_at cx 56 (f := hx_e_BadEntry_hm)))⟩,
    m_BadEntry := (of_decide_eq_true (hex_at cx 57 (f := hx_m_BadEntry))),
    i_BadEntry_RoadError := (of_decide_eq_true (hex_at cx 58 (f := hx_i_BadEntry_RoadError))),
    i_BadEntry_BadTune := (of_decide_eq_true (hex_at cx 59 (f := hx_i_BadEntry_BadTune))),
    i_BadEntry_BadNumber := (of_decide_eq_true (hex_at cx 60 (f := hx_i_BadEntry_BadNumber))),
    i_BadEntry_BadEntry := (of_decide_eq_true (hex_at cx 61 (f := hx_i_BadEntry_BadEntry))),
    i_BadEntry_BadWord := (of_decide_eq_true (hex_at cx 62 (f := hx_i_BadEntry_BadWord))),
    i_BadEntry_ValueError := (of_decide_eq_true (hex_at cx 63 (f := hx_i_BadEntry_ValueError))),
    x_BadWord := (hex_at cx 64 (f := hx_x_BadWord)),
    k_BadWord := (hex_at cx 65 (f := hx_k_BadWord)),
    r_BadWord := (of_decide_eq_true (hex_at cx 66 (f := hx_r_BadWord))),
    t_BadWord := (of_decide_eq_true (hex_at cx 67 (f := hx_t_BadWord))),
    e_BadWord := ⟨(of_decide_eq_true (hex_at cx 68 (f := hx_e_BadWord_hg))), (of_decide_eq_true (hex_at cx 69 (f := hx_e_BadWord_hk))), (of_decide_eq_true (hex_at cx 66 (f := hx_r_BadWord))), (hex_at cx 70 (f := hx_e_BadWord_hd)), (of_decide_eq_true (hex_at cx 71 (f := hx_e_BadWord_ha))), (of_decide_eq_true (hex_at cx 80 (f := hx_e_hn))), (of_decide_eq_true (hex_at cx 81 (f := hx_e_ht))), (of_decide_eq_true (hex_at cx 72 (f := hx_e_BadWord_hm)))⟩,
    m_BadWord := (of_decide_eq_true (hex_at cx 73 (f := hx_m_BadWord))),
    i_BadWord_RoadError := (of_decide_eq_true (hex_at cx 74 (f := hx_i_BadWord_RoadError))),
    i_BadWord_BadTune := (of_decide_eq_true (hex_at cx 75 (f := hx_i_BadWord_BadTune))),
    i_BadWord_BadNumber := (of_decide_eq_true (hex_at cx 76 (f := hx_i_BadWord_BadNumber))),
    i_BadWord_BadEntry := (of_decide_eq_true (hex_at cx 77 (f := hx_i_BadWord_BadEntry))),
    i_BadWord_BadWord := (of_decide_eq_true (hex_at cx 78 (f := hx_i_BadWord_BadWord))),
    i_BadWord_ValueError := (of_decide_eq_true (hex_at cx 79 (f := hx_i_BadWord_ValueError))),
    F_wall := fun_of F_wall,
    b_wall := FunD.bindsN F_wall (fun _ _ _ _ _ _ us hl => match us, hl with | [_], _ => rfl),
    g_wall := He.glo_ok X G (cd.fact 19 (f := .glo "_wall") rfl),
    k_wall := F_wall.kp,
    F_Dice_init__ := fun_of F_Dice_init__,
    b_Dice_init__ := FunD.bindsN F_Dice_init__ (fun _ _ _ _ _ _ us hl => match us, hl with | [_, _], _ => rfl),
    m_Dice_init__ := He.meth_ok (cd.fact 20 (f := .meth "Dice" "__init__") rfl),
    F_Dice_below := fun_of F_Dice_below,
    b_Dice_below := FunD.bindsN F_Dice_below (fun _ _ _ _ _ _ us hl => match us, hl with | [_, _], _ => rfl),
    m_Dice_below := He.meth_ok (cd.fact 21 (f := .meth "Dice" "below") rfl),
    F_Dice_twin := fun_of F_Dice_twin,
    b_Dice_twin := FunD.bindsN F_Dice_twin (fun _ _ _ _ _ _ us hl => match us, hl with | [_], _ => rfl),
    m_Dice_twin := He.meth_ok (cd.fact 22 (f := .meth "Dice" "twin") rfl),
    F_mixed := fun_of F_mixed,
    b_mixed := FunD.bindsN F_mixed (fun _ _ _ _ _ _ us hl => match us, hl with | [_, _], _ => rfl),
    g_mixed := He.glo_ok X G (cd.fact 23 (f := .glo "mixed") rfl),
    k_mixed := F_mixed.kp,
    F_law_cell := fun_of F_law_cell,
    b_law_cell := FunD.bindsN F_law_cell (fun _ _ _ _ _ _ us hl => match us, hl with | [_, _], _ => rfl),
    g_law_cell := He.glo_ok X G (cd.fact 24 (f := .glo "_law_cell") rfl),
    k_law_cell := F_law_cell.kp,
    F_law_mix := fun_of F_law_mix,
    b_law_mix := FunD.bindsN F_law_mix (fun _ _ _ _ _ _ us hl => match us, hl with | [_, _], _ => rfl),
    g_law_mix := He.glo_ok X G (cd.fact 25 (f := .glo "_law_mix") rfl),
    k_law_mix := F_law_mix.kp,
    F_law_draw := fun_of F_law_draw,
    b_law_draw := FunD.bindsN F_law_draw (fun _ _ _ _ _ _ us hl => match us, hl with | [_, _, _], _ => rfl),
    g_law_draw := He.glo_ok X G (cd.fact 26 (f := .glo "_law_draw") rfl),
    k_law_draw := F_law_draw.kp,
    F_law_pick := fun_of F_law_pick,
    b_law_pick := FunD.bindsN F_law_pick (fun _ _ _ _ _ _ us hl => match us, hl with | [_, _, _], _ => rfl),
    g_law_pick := He.glo_ok X G (cd.fact 27 (f := .glo "_law_pick") rfl),
    k_law_pick := F_law_pick.kp,
    F_law_refusal := fun_of F_law_refusal,
    b_law_refusal := FunD.bindsN F_law_refusal (fun _ _ _ _ _ _ us hl => match us, hl with | [_], _ => rfl),
    g_law_refusal := He.glo_ok X G (cd.fact 28 (f := .glo "_law_refusal") rfl),
    k_law_refusal := F_law_refusal.kp,
    F_law_below := fun_of F_law_below,
    b_law_below := FunD.bindsN F_law_below (fun _ _ _ _ _ _ us hl => match us, hl with | [_, _], _ => rfl),
    g_law_below := He.glo_ok X G (cd.fact 29 (f := .glo "_law_below") rfl),
    k_law_below := F_law_below.kp,
    F_law_mixed := fun_of F_law_mixed,
    b_law_mixed := FunD.bindsN F_law_mixed (fun _ _ _ _ _ _ us hl => match us, hl with | [_, _], _ => rfl),
    g_law_mixed := He.glo_ok X G (cd.fact 30 (f := .glo "_law_mixed") rfl),
    k_law_mixed := F_law_mixed.kp,
    F_law_told := fun_of F_law_told,
    b_law_told := FunD.bindsN F_law_told (fun _ _ _ _ _ _ us hl => match us, hl with | [_, _], _ => rfl),
    g_law_told := He.glo_ok X G (cd.fact 31 (f := .glo "_law_told") rfl),
    k_law_told := F_law_told.kp,
    F_law := fun_of F_law,
    b_law := FunD.bindsN F_law (fun _ _ _ _ _ _ us hl => match us, hl with | [_], _ => rfl),
    g_law := He.glo_ok X G (cd.fact 32 (f := .glo "law") rfl),
    k_law := F_law.kp }
end TR
open PySem PySem.W PySem.Calls PyProof.Rows in
set_option maxRecDepth 100000 in
set_option maxHeartbeats 0 in
theorem PySem.Challenge.cw_tuneroad_k02_whole_dice_holds : PySem.Challenge.rw_tuneroad_k02_whole_dice.Holds := by
  w_on; o_law
  refine HandSHeadRun.head_any (r := OpenLaw.row PySem.Challenge.rw_tuneroad_k02_whole_dice) (q := view (OpenLaw.row PySem.Challenge.rw_tuneroad_k02_whole_dice).prog [23]) (H := TR.hhk) (ob := TR.hob) (M := 20000) (loose := TR.hnm) (d := HandSHeadRun.topDef (OpenLaw.row PySem.Challenge.rw_tuneroad_k02_whole_dice).prog 23) (kwd := []) TR.hob_eq
    (by kernel_rfl) (fun s => by kernel_rfl) TR.hrun (by kernel_rfl) (by kernel_rfl) (by kernel_rfl) (by rfl) (by first | assumption | decide +kernel) (by decide +kernel) ⟨rfl, rfl, rfl, rfl, rfl, by decide +kernel⟩ ?hw ?hc
  case hw => w_witness2
  case hc =>
    refine TR.law_end (l := PySem.Challenge.rw_tuneroad_k02_whole_dice) (n := 63) (k := 5) (x := "script") rfl (by decide) (by kernel_rfl) ⟨rfl, by decide, by decide⟩ ?F
    intro w mg fa h Y G hmg0
    obtain ⟨K, KX, c⟩ := Y
    have hmg : mg ("law" : PySem.Str) = some (.ref fa) := by
      have e : (HandSHeadRun.topDef (OpenLaw.row PySem.Challenge.rw_tuneroad_k02_whole_dice).prog 23).name = ("law" : PySem.Str) := by kernel_rfl
      rw [← e]
      exact hmg0
    obtain ⟨A, T⟩ := TR.txt_of KX G c
    have e := hmg.symm.trans T.g_law
    cases e
    exact ⟨K, A.d_law, TR.sp_law K, KX, fun s v => TR.binds1 T.F_law (fun _ _ _ _ _ _ us hl => match us, hl with | [_], _ => rfl) s v, fun H a ns hl hO hS => TR.law_pre hl hO hS, fun base _ _ => TR.ok_law T⟩

