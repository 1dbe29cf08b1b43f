import PyProof.Rows.All
import Wide.All
import OpenK.AllK
import Wide.FinOn
import HandS.ForMost
import HandS.ForExc
import HandS.More
import HandS.Flow
import HandS.Style
import HandS.SetFor
import HandS.ExcIs
import HandS.ExcValue
import HandS.CallSlots
import HandS.Defaults
import HandS.Conv
import HandS.Zip
import HandS.IsInst
import HandS.Head0
import HandS.Head1
import HandS.Head2
import HandS.HeadEnd
import HandS.HeadHook1
import HandS.HeadHook2
import HandS.HeadHook3
import HandS.HeadHook4
import PySem.Challenge.RW_tuneroad_k01_whole_shelves
set_option Elab.async false
set_option linter.all false
set_option maxRecDepth 100000
set_option maxHeartbeats 4000000
/-! TR: the ledger W (what is tracked at which address, no address twice; the tuples of H0 stand), readings that stop the walk, steps over them. -/
namespace TR
open PySem L2
abbrev Ent := Addr × HO
def isTup : HO → Bool
  | .tup _ => true
  | _ => false
structure W (H0 H : Hp) (L : List Ent) : Prop where
  nd : (L.map (·.1)).Nodup
  is_ : ∀ x ∈ L, H x.1 = some x.2
  tp : ∀ a xs, H0 a = some (.tup xs) → H a = some (.tup xs)
section
variable {H0 H H1 H' : Hp} {L L' R : List Ent} {p q : Addr} {o o' : HO} {i j : Nat}
theorem W.get (w : W H0 H L) (i : Nat) (h : L[i]? = some (p, o)) : H p = some o := w.is_ (p, o) (List.mem_of_getElem? h)
theorem W.now (w : W H0 H L) : W H H L := ⟨w.nd, w.is_, fun _ _ e => e⟩
theorem W.tr (w : W H0 H L) (v : W H H' L') : W H0 H' L' := ⟨v.nd, v.is_, fun a xs e => v.tp a xs (w.tp a xs e)⟩
theorem nd_get {α : Type} {l : List α} (hN : l.Nodup) {i j : Nat} {x : α} (a : l[i]? = some x) (b : l[j]? = some x) : i = j := by
  obtain ⟨h1, e1⟩ := List.getElem?_eq_some_iff.mp a
  obtain ⟨h2, e2⟩ := List.getElem?_eq_some_iff.mp b
  exact (List.getElem_inj hN).mp (e1.trans e2.symm)
theorem map_set_fst : ∀ (L : List Ent) (i : Nat) (p : Addr) (o o' : HO), L[i]? = some (p, o) → (L.set i (p, o')).map (·.1) = L.map (·.1)
  | [], _, _, _, _, h => by simp at h
  | x :: L, 0, p, o, o', h => by
    have e : x = (p, o) := Option.some.inj h
    subst e; rfl
  | x :: L, i + 1, p, o, o', h => by
    show x.1 :: (L.set i (p, o')).map (·.1) = x.1 :: L.map (·.1)
    rw [map_set_fst L i p o o' h]
theorem W.set (w : W H0 H L) (i : Nat) (o' : HO) (h : L[i]? = some (p, o)) (t : isTup o = false) : W H0 (upd H p o') (L.set i (p, o')) := by
  have hp := w.get i h
  refine ⟨by rw [map_set_fst L i p o o' h]; exact w.nd, fun x hx => ?_, fun a xs e => ?_⟩
  · obtain ⟨j, hj⟩ := List.getElem?_of_mem hx
    by_cases hij : i = j
    · subst hij
      obtain ⟨hl, _⟩ := List.getElem?_eq_some_iff.mp h
      rw [List.getElem?_set_self hl] at hj
      cases hj
      exact upd_same
    · rw [List.getElem?_set_ne hij] at hj
      have ne : x.1 ≠ p := fun e => hij (nd_get w.nd (x := p) (by rw [List.getElem?_map, h]; rfl) (by rw [List.getElem?_map, hj]; simp [e]))
      rw [upd_ne ne]
      exact w.is_ x (List.mem_of_getElem? hj)
  · have q := w.tp a xs e
    have ne : a ≠ p := fun z => by
      rw [z, hp] at q
      cases q
      cases t
    rw [upd_ne ne]
    exact q
theorem W.skip (w : W H0 H L) (hp : H p = none) : W H0 (upd H p o) L :=
  ⟨w.nd, fun x hx => by rw [upd_ne (ne_of_none (w.is_ x hx) hp)]; exact w.is_ x hx, fun a xs e => by rw [upd_ne (ne_of_none (w.tp a xs e) hp)]; exact w.tp a xs e⟩
theorem W.new (w : W H0 H L) (o : HO) (hp : H p = none) : W H0 (upd H p o) ((p, o) :: L) := by
  have w1 := w.skip (o := o) hp
  refine ⟨List.nodup_cons.mpr ⟨fun m => ?_, w.nd⟩, fun x hx => ?_, w1.tp⟩
  · obtain ⟨x, hx, e⟩ := List.mem_map.mp m
    have z := w.is_ x hx
    rw [show x.1 = p from e, hp] at z
    cases z
  · rcases List.mem_cons.mp hx with rfl | hx
    · exact upd_same
    · exact w1.is_ x hx
theorem W.sub (w : W H0 H L) (h : ∀ x ∈ L', x ∈ L) (hn : (L'.map (·.1)).Nodup) : W H0 H L' := ⟨hn, fun x hx => w.is_ x (h x hx), w.tp⟩
theorem W.perm (w : W H0 H L) (h : L.Perm L') : W H0 H L' := w.sub (fun x hx => h.mem_iff.mpr hx) ((h.map _).nodup_iff.mp w.nd)
theorem W.drop1 {x : Ent} (w : W H0 H (x :: L)) : W H0 H L := w.sub (fun y hy => List.mem_cons_of_mem _ hy) (List.nodup_cons.mp w.nd).2
theorem W.dropL (w : W H0 H (L ++ R)) : W H0 H R := w.sub (fun y hy => List.mem_append_right _ hy) (by have := w.nd; rw [List.map_append] at this; exact (List.nodup_append.mp this).2.1)
/-- the segment [n, n + m) to the front -/
theorem W.rot (w : W H0 H L) (n m : Nat) : W H0 H ((L.drop n).take m ++ (L.take n ++ (L.drop n).drop m)) := by
  refine w.perm ?_
  have e : L = L.take n ++ ((L.drop n).take m ++ (L.drop n).drop m) := by rw [List.take_append_drop, List.take_append_drop]
  conv => lhs; rw [e]
  rw [← List.append_assoc, ← List.append_assoc]
  exact List.Perm.append_right _ List.perm_append_comm
/-- the first entry takes the place of the j-th one behind it -/
theorem W.repl {x : Ent} (w : W H0 H (x :: L)) (j : Nat) : W H0 H (L.set j x) := by
  have hx := (List.nodup_cons.mp w.nd)
  refine w.sub (fun y hy => ?_) ?_
  · rcases List.mem_or_eq_of_mem_set hy with h | h
    · exact List.mem_cons_of_mem _ h
    · rw [h]; exact List.mem_cons_self
  · rw [List.map_set]
    by_cases hj : j < (L.map (·.1)).length
    · rw [List.set_eq_take_append_cons_drop, if_pos hj]
      have e : L.map (·.1) = (L.map (·.1)).take j ++ (L.map (·.1)).drop j := (List.take_append_drop _ _).symm
      have n2 := hx.2
      rw [e] at n2
      obtain ⟨a1, a2, a3⟩ := List.nodup_append.mp n2
      have hm : ∀ z ∈ (L.map (·.1)).drop (j + 1), z ∈ (L.map (·.1)).drop j := fun z hz => by
        rw [← List.drop_drop] at hz
        exact List.mem_of_mem_drop hz
      refine List.nodup_append.mpr ⟨a1, List.nodup_cons.mpr ⟨fun z => hx.1 (List.mem_of_mem_drop z), ?_⟩, fun a ha b hb => ?_⟩
      · rw [← List.drop_drop]
        exact a2.sublist (List.drop_sublist _ _)
      · rcases List.mem_cons.mp hb with rfl | hb
        · exact fun z => hx.1 (by show x.1 ∈ _; rw [← z]; exact List.mem_of_mem_take ha)
        · exact a3 a ha b (hm b hb)
    · rw [List.set_eq_of_length_le (by omega)]
      exact hx.2
/-- the i-th entry to the front, and back -/
theorem perm_front {α : Type} : ∀ (L : List α) (i : Nat) (x : α), L[i]? = some x → L.Perm (x :: L.eraseIdx i)
  | [], _, _, h => by simp at h
  | y :: L, 0, x, h => by
    have e : y = x := Option.some.inj h
    subst e; exact List.Perm.refl _
  | y :: L, i + 1, x, h => by
    have ih := perm_front L i x h
    exact (ih.cons y).trans (List.Perm.swap x y _)
theorem perm_back {α : Type} : ∀ (L : List α) (i : Nat) (x x' : α), L[i]? = some x → (x' :: L.eraseIdx i).Perm (L.set i x')
  | [], _, _, _, h => by simp at h
  | y :: L, 0, x, x', h => List.Perm.refl _
  | y :: L, i + 1, x, x', h => by
    have ih := perm_back L i x x' h
    exact (List.Perm.swap y x' _).trans (ih.cons y)
theorem W.front {x : Ent} (w : W H0 H L) (i : Nat) (h : L[i]? = some x) : W H0 H (x :: L.eraseIdx i) := w.perm (perm_front L i x h)
theorem W.back {x x' : Ent} (w : W H0 H L) (i : Nat) (h : L[i]? = some x) (v : W H H' (x' :: L.eraseIdx i)) : W H0 H' (L.set i x') := (w.tr v).perm (perm_back L i x x' h)
theorem W.list {K : PySem.W.Frag} {xs : List V} (w : W H0 H L) (i : Nat) (h : L[i]? = some (p, .lst xs)) : SqL K H p xs := SqL.of (w.get i h)
end
theorem szL {n : Nat} (h : n ≤ 100000) : n < sizeLine := Nat.lt_of_le_of_lt h (by decide)
theorem szE {n : Nat} (h : n ≤ 100000) : n ≤ sizeLine := Nat.le_of_lt (szL h)

/-! ### readings that stop the walk -/
abbrev MRd := V → List V → Hp → VK → Prop
@[irreducible] def xApp : MRd := rAppend
@[irreducible] def xPop : MRd := rPop
@[irreducible] def xPopAt : MRd := rPopAt
@[irreducible] def xIns : MRd := fun x vs H Q => ∃ (l : Addr) (xs : List V) (i : Int) (y : V), x = .ref l ∧ vs = [.int i, y] ∧ H l = some (.lst xs) ∧ xs.length < sizeLine ∧ 0 ≤ i ∧ i < 2 ^ 63 ∧
    Q .non (upd H l (.lst (xs.take i.toNat ++ [y] ++ xs.drop i.toNat)))
@[irreducible] def xRem : MRd := rRemI
@[irreducible] def xExt : MRd := rExtend
@[irreducible] def xSetL : TSet := rSetL
/-- a new object -/
@[irreducible] def xNew (o : HO) (H : Hp) (Q : VK) : Prop := ∀ p, H p = none → Q (.ref p) (upd H p o)
@[irreducible] def xFldSt (K : PySem.W.Frag) (f : Str) (x y : V) (H : Hp) (Q : Hp → Prop) : Prop := ∃ a C dx fs, x = .ref a ∧ H a = some (.ins C dx fs) ∧ Cls K C ∧ NoAttr K C f ∧ fs.length < 1000 ∧ Q (upd H a (.ins C dx (putF f y fs)))
@[irreducible] def xDPut (x y v : V) (H : Hp) (Q : Hp → Prop) : Prop := ∃ a H', x = .ref a ∧ DPut H a y v H' ∧ Q H'
@[irreducible] def xMake (C : Addr) (sp : Sp) (E : XK) (vs : List V) (H : Hp) (Q : VK) : Prop := ∀ x dx, H x = none → H dx = none → dx ≠ x →
  sp (.ref x :: vs) (upd (upd H dx (.own x)) x (.ins C dx [])) (fun v H2 => v = .non ∧ Q (.ref x) H2) E
@[irreducible] def xCall (sp : Sp) (vs : List V) (H : Hp) (Q : VK) (E : XK) : Prop := sp vs H Q E
@[irreducible] def xFor (J : It) (g : TG) (tb : TS) (D : Ends) (σ : L2.St) (H : Hp) : Prop := ∃ W : Nat → Nat → L2.St → Hp → Prop, (∃ m, W 0 m σ H) ∧ ∀ i m σ H, W i m σ H →
  (J.stop i H ∧ D.nx σ H) ∨ (J.go i H ∧ ∃ N : L2.St → Hp → Prop, (∀ σ' H', N σ' H' → ∃ m', m' < m ∧ W (i + 1) m' σ' H') ∧ ∀ x H', J.yld i H x H' → g x σ H' fun σ2 H2 => tb { D with nx := N, ct := N, bk := D.nx } σ2 H2)
@[irreducible] def xWhile (c : TT) (tb : TS) (D : Ends) (σ : L2.St) (H : Hp) : Prop := tWhile c tb D σ H
@[irreducible] def xLc (J : It) (g : TG) (tt : TT) (te : TE) (vs : List Nat) (σ : L2.St) (H1 : Hp) (Q : VK) : Prop := ∀ D, H1 D = none → ∃ W : Nat → Nat → Hp → Prop, (∃ m, W 0 m (upd H1 D (.lst []))) ∧ ∀ i m H, W i m H →
  (J.stop i H ∧ Q (.ref D) H) ∨ (J.go i H ∧ ∃ Nx : Hp → Prop, (∀ H', Nx H' → ∃ m', m' < m ∧ W (i + 1) m' H') ∧ ∀ x H', J.yld i H x H' → g x (wipe σ vs) H' fun σ2 H2 => wipe σ2 vs = wipe σ vs ∧ tt σ2 H2 fun b H3 =>
    if b = true then te σ2 H3 fun y H4 => ∃ acc, H4 D = some (.lst acc) ∧ acc.length < sizeLine ∧ Nx (upd H4 D (.lst (acc ++ [y]))) else Nx H3)
/-- two ways; said behind it which one -/
@[irreducible] def xIf (b : Bool) (A B : Prop) : Prop := if b = true then A else B
theorem xIf_T {b : Bool} {A B : Prop} (hb : b = true) (h : A) : xIf b A B := by
  unfold xIf; rw [if_pos hb]; exact h
theorem xIf_F {b : Bool} {A B : Prop} (hb : b = false) (h : B) : xIf b A B := by
  unfold xIf; rw [hb, if_neg Bool.false_ne_true]; exact h
theorem xIf_2 {b : Bool} {A B : Prop} (h1 : b = true → A) (h2 : b = false → B) : xIf b A B := by
  cases b
  · exact xIf_F rfl (h2 rfl)
  · exact xIf_T rfl (h1 rfl)
theorem xIf_D {c : Prop} [Decidable c] {A B : Prop} (h1 : c → A) (h2 : ¬ c → B) : xIf (decide c) A B :=
  xIf_2 (fun h => h1 (of_decide_eq_true h)) (fun h => h2 (of_decide_eq_false h))
theorem xIf_N {c : Prop} [Decidable c] {A B : Prop} (h1 : ¬ c → A) (h2 : c → B) : xIf (!decide c) A B :=
  xIf_2 (fun h => h1 (by simpa using h)) (fun h => h2 (by simpa using h))
section
variable {X : Cx}
theorem my_append : MtM X "list.append" xApp := by unfold xApp; exact mt_append
theorem my_pop : MtM X "list.pop" xPop := by unfold xPop; exact mt_pop
theorem my_popAt : MtM X "list.pop" xPopAt := by unfold xPopAt; exact mt_popAt
theorem my_insert : MtR X "list.insert" xIns := by unfold xIns; exact mt_insert
theorem my_remove : MtM X "list.remove" xRem := by unfold xRem; exact mt_remove
theorem my_extend : MtM X "list.extend" xExt := by unfold xExt; exact mt_extend
theorem my_setL : PSet X xSetL := by unfold xSetL; exact set_list
theorem opr_le {f : Value → Value → Sem Value} {r r' : R2} (h : OpR X f r') (g : ∀ x y H Q, r x y H Q → r' x y H Q) : OpR X f r := fun pins s σ H x y v u Q I rx ry q => h pins s σ H x y v u Q I rx ry (g _ _ _ _ q)
theorem cr_le {f : Value} {r r' : List V → Hp → VK → Prop} (h : CallR X f r') (g : ∀ xs H Q, r xs H Q → r' xs H Q) : CallR X f r := fun pins s σ H xs us Q I rx q => h pins s σ H xs us Q I rx (g _ _ _ q)
theorem PE.le {e : Expr} {t t' : TE} (h : PE X e t') (g : ∀ σ H Q, t σ H Q → t' σ H Q) : PE X e t := ⟨fun pins s σ H Q I q => h.run pins s σ H Q I (g _ _ _ q)⟩
theorem PT.le {e : Expr} {t t' : TT} (h : PT X e t') (g : ∀ σ H Q, t σ H Q → t' σ H Q) : PT X e t := ⟨fun pins s σ H Q I q => h.run pins s σ H Q I (g _ _ _ q)⟩
theorem PS.le {e : Stmt} {t t' : TS} (h : PS X e t') (g : ∀ D σ H, t D σ H → t' D σ H) : PS X e t := ⟨fun pins s σ H D I q => h.run pins s σ H D I (g _ _ _ q)⟩
/-- lists, tuples displayed -/
def uLst (t : TA) : TE := fun σ H Q => t σ H fun xs H1 => xs.length ≤ sizeLine ∧ xNew (.lst xs) H1 Q
def uTup (t : TA) : TE := fun σ H Q => t σ H fun xs H1 => xs.length ≤ sizeLine ∧ xNew (.tup xs) H1 Q
theorem my_lst {es : List Expr} {t : TA} {pos : Pos} (h : PA X es t) : PE X (.List es pos) (uLst t) := by
  have e : uLst t = tLst t := by unfold uLst tLst xNew; rfl
  rw [e]; exact pe_lst h
theorem my_tup {es : List Expr} {t : TA} {pos : Pos} {x1} (h : PA X es t) : PE X (.Tuple es x1 pos) (uTup t) := by
  have e : uTup t = tTup t := by unfold uTup tTup xNew; rfl
  rw [e]; exact pe_tup h
def uDNew : TE := fun _ H Q => xNew (.dK []) H Q
theorem my_dnew {pos : Pos} : PE X (.Dict [] [] pos) uDNew := by
  have e : uDNew = tDNewK := by unfold uDNew tDNewK xNew; rfl
  rw [e]; exact pe_dnewK
def uCat : R2 := fun x y H Q => ∃ l b xs zs, x = .ref l ∧ y = .ref b ∧ H l = some (.lst xs) ∧ H b = some (.lst zs) ∧ xs.length + zs.length ≤ sizeLine ∧ xNew (.lst (xs ++ zs)) H Q
theorem my_cat : OpR X (binaryOp .Add) uCat := by
  have e : uCat = rCat := by unfold uCat rCat xNew; rfl
  rw [e]; exact op_cat
def uSlL (K : PySem.W.Frag) : V → Option Int → Option Int → Hp → VK → Prop := fun x lo hi H Q => ∃ a xs, x = .ref a ∧ SqL K H a xs ∧ xNew (.lst (cutV xs lo hi)) H Q
theorem my_sl : SlR X (uSlL X.K) := by
  have e : uSlL X.K = rSlL X.K := by unfold uSlL rSlL xNew; rfl
  rw [e]; exact sl_list
def uListOf (K : PySem.W.Frag) : List V → Hp → VK → Prop := fun xs H Q => ∃ p ys, xs = [.ref p] ∧ (SqL K H p ys ∨ SqT K H p ys) ∧ xNew (.lst ys) H Q
theorem my_listOf : CallR X (.type "list") (uListOf X.K) := by
  unfold uListOf xNew; exact call_list_of
def uFld (K : PySem.W.Frag) (ta tv : TE) (f : Str) : TS := fun D σ H => tv σ H fun y H1 => ta σ H1 fun x H2 => xFldSt K f x y H2 fun H3 => D.nx σ H3
theorem my_fld {o value : Expr} {ta tv : TE} {f : Str} {pos pos' : Pos} (ha : PE X o ta) (hv : PE X value tv) (hs : swapsWith value (some (.Attribute o f pos')) pos.line X.env = pure false := by rfl) : PS X (.Assign [.Attribute o f pos'] value pos) (uFld X.K ta tv f) := by
  have e : uFld X.K ta tv f = sFld X.K ta tv f := by unfold uFld sFld xFldSt; rfl
  rw [e]; exact ps_fld ha hv hs
def uDPut (td ty tv : TE) : TS := fun D σ H => tv σ H fun v H1 => td σ H1 fun x H2 => ty σ H2 fun y H3 => xDPut x y v H3 fun H4 => D.nx σ H4
theorem my_dput {o i value : Expr} {td ty tv : TE} {pos pos' : Pos} (hu : X.A.units + 1 < cLine) (ho : PE X o td) (hi : PE X i ty) (hv : PE X value tv) (hs : swapsWith value (some (.Subscript o i pos')) pos.line X.env = pure false := by rfl) :
    PS X (.Assign [.Subscript o i pos'] value pos) (uDPut td ty tv) := by
  have e : uDPut td ty tv = sDPut td ty tv := by unfold uDPut sDPut xDPut; rfl
  rw [e]; exact ps_dput hu ho hi hv hs
def uMake (C : Addr) (sp : Sp) (E : XK) (t : TA) : TE := fun σ H Q => t σ H fun vs H1 => xMake C sp E vs H1 Q
theorem uMake_eq (C : Addr) (sp : Sp) (E : XK) (t : TA) (σ : L2.St) (H : Hp) (Q : VK) : uMake C sp E t σ H Q = tMake C sp [] E t σ H Q := by
  unfold uMake tMake xMake; simp only [List.append_nil]
def uCall (sp : Sp) (E : XK) (t : TA) : TE := fun σ H Q => t σ H fun vs H1 => xCall sp vs H1 Q E
theorem uCall_eq (sp : Sp) (E : XK) (t : TA) (σ : L2.St) (H : Hp) (Q : VK) : uCall sp E t σ H Q = tCall sp [] E t σ H Q := by
  unfold uCall tCall xCall; simp only [List.append_nil]
def uMeth (C : Addr) (m : Str) (sp : Sp) (E : XK) (ta : TE) (t : TA) : TE := fun σ H Q => ta σ H fun x H1 => ∃ a dx fs, x = .ref a ∧ H1 a = some (.ins C dx fs) ∧ fs.lookup m = none ∧ t σ H1 fun vs H2 => xCall sp (x :: vs) H2 Q E
theorem uMeth_eq (C : Addr) (m : Str) (sp : Sp) (E : XK) (ta : TE) (t : TA) (σ : L2.St) (H : Hp) (Q : VK) : uMeth C m sp E ta t σ H Q = tMeth C m sp [] E ta t σ H Q := by
  unfold uMeth tMeth xCall; simp only [List.append_nil]
def uIfS (c : TT) (t u : TS) : TS := fun D σ H => c σ H fun b H1 => xIf b (t D σ H1) (u D σ H1)
theorem my_if {c : Expr} {a b : List Stmt} {tc : TT} {t u : TS} {pos : Pos} (hc : PT X c tc) (ha : PSs X a t) (hb : PSs X b u) : PS X (.If c a b pos) (uIfS tc t u) := by
  have e : uIfS tc t u = tIfS tc t u := by unfold uIfS tIfS xIf; rfl
  rw [e]; exact ps_if hc ha hb
def uIf (t : TT) (ta tb : TE) : TE := fun σ H Q => t σ H fun c H1 => xIf c (ta σ H1 Q) (tb σ H1 Q)
theorem my_ifExp {a b c : Expr} {tA : TT} {ta tb : TE} {pos : Pos} (hc : PT X c tA) (ha : PE X a ta) (hb : PE X b tb) : PE X (.IfExp c a b pos) (uIf tA ta tb) := by
  have e : uIf tA ta tb = tIf tA ta tb := by unfold uIf tIf xIf; rfl
  rw [e]; exact pe_ifExp hc ha hb
def uAnd (t u : TT) : TT := fun σ H Q => t σ H fun c H1 => xIf c (u σ H1 Q) (Q false H1)
def uOr (t u : TT) : TT := fun σ H Q => t σ H fun c H1 => xIf c (Q true H1) (u σ H1 Q)
theorem my_and {a b : Expr} {rest : List Expr} {tA tB' : TT} {pos : Pos} (ha : PT X a tA) (hb : PW X (.BoolOp .And (b :: rest) pos) tB') : PW X (.BoolOp .And (a :: b :: rest) pos) (uAnd tA tB') := by
  have e : uAnd tA tB' = tAnd tA tB' := by unfold uAnd tAnd xIf; rfl
  rw [e]; exact pw_and ha hb
theorem my_or {a b : Expr} {rest : List Expr} {tA tB' : TT} {pos : Pos} (ha : PT X a tA) (hb : PW X (.BoolOp .Or (b :: rest) pos) tB') : PW X (.BoolOp .Or (a :: b :: rest) pos) (uOr tA tB') := by
  have e : uOr tA tB' = tOr tA tB' := by unfold uOr tOr xIf; rfl
  rw [e]; exact pw_or ha hb
def uAndV (ta tb : TE) : TE := fun σ H Q => ta σ H fun x H1 => ∃ c, x = .bl c ∧ xIf c (tb σ H1 Q) (Q (.bl false) H1)
def uOrV (ta tb : TE) : TE := fun σ H Q => ta σ H fun x H1 => ∃ c, x = .bl c ∧ xIf c (Q (.bl true) H1) (tb σ H1 Q)
theorem my_andV {a b : Expr} {rest : List Expr} {ta tb : TE} {pos : Pos} (ha : PE X a ta) (hb : PE X (.BoolOp .And (b :: rest) pos) tb) : PE X (.BoolOp .And (a :: b :: rest) pos) (uAndV ta tb) := by
  have e : uAndV ta tb = tAndV ta tb := by unfold uAndV tAndV xIf; rfl
  rw [e]; exact pe_and ha hb
theorem my_orV {a b : Expr} {rest : List Expr} {ta tb : TE} {pos : Pos} (ha : PE X a ta) (hb : PE X (.BoolOp .Or (b :: rest) pos) tb) : PE X (.BoolOp .Or (a :: b :: rest) pos) (uOrV ta tb) := by
  have e : uOrV ta tb = tOrV ta tb := by unfold uOrV tOrV xIf; rfl
  rw [e]; exact pe_or ha hb
/-- a < b < c -/
def uChain (r r' : R2) (ta tb tc : TE) : TE := fun σ H Q => ta σ H fun x H1 => tb σ H1 fun y H2 => r x y H2 fun z H3 => ∃ k, z = .bl k ∧ xIf k (tc σ H3 fun u H4 => r' y u H4 Q) (Q (.bl false) H3)
def uFor (wi : TI) (g : TG) (tb : TS) : TS := fun D σ H => wi σ H fun J H1 => xFor J g tb D σ H1
theorem my_for {tg iter : Expr} {body : List Stmt} {wi : TI} {g : TG} {tb : TS} {pos : Pos} (hp : PassesOwn (model X.prog X.w) X.A X.env X.xe) (hc : X.calm = true) (hi : PI X tg iter wi) (hg : PG X tg g) (hb : PSs X body tb)
    (hs : ∀ x, foldedSetIterable iter X.env x = pure x := by intro _; rfl) : PS X (.For tg iter body [] pos) (uFor wi g tb) := by
  have e : uFor wi g tb = tFor wi g tb := by unfold uFor tFor xFor; rfl
  rw [e]; exact ps_for hp hc hi hg hb hs
def uWhile (c : TT) (tb : TS) : TS := fun D σ H => xWhile c tb D σ H
theorem my_while {c : Expr} {body : List Stmt} {tc : TT} {tb : TS} {pos : Pos} (hp : PassesOwn (model X.prog X.w) X.A X.env X.xe) (hc : PT X c tc) (hb : PSs X body tb) : PS X (.While c body [] pos) (uWhile tc tb) := by
  have e : uWhile tc tb = tWhile tc tb := by unfold uWhile xWhile; rfl
  rw [e]; exact ps_while hp hc hb
end
end TR
namespace TR
open PySem L2
section
variable {X : Cx} {CX : CXT} {k : Nat} {f C : Addr} {fd : FuncData} {ps : List Str} {sp : Sp} {E : XK} {x m : Str} {p pos apos : Pos} {e o : Expr} {es : List Expr} {ta : TE} {t : TA}
theorem my_call (F : FnOk X.prog X.w X.K X.mg X.base CX k f fd ps sp) (hr : Room k X.A) (hg : Gl X x) (hm : X.mg x = some (.ref f)) (hk : PySem.W.keepIn X.K (.ref f) = true) (hb : Binds X.K fd ps []) (hx : Passes CX X E)
    (ha : PA X (e :: es) t) (hdb : (x == ("__debug__" : Str)) = false := by decide) (he : starEach (e :: es) X.env = (false, eval e X.env) :: starEach es X.env := by rfl) (hpl : (backTo pos (starEach es X.env)).any (·.1) = false := by rfl) :
    PE X (.Call (.Name x p) (e :: es) [] pos) (uCall sp E t) := PE.le (pe_call F hr hg hm hk hb .nil hx ha hdb he hpl) fun σ H Q q => by rw [← uCall_eq]; exact q
theorem my_call0 (F : FnOk X.prog X.w X.K X.mg X.base CX k f fd ps sp) (hr : Room k X.A) (hg : Gl X x) (hm : X.mg x = some (.ref f)) (hk : PySem.W.keepIn X.K (.ref f) = true) (hb : Binds X.K fd ps []) (hx : Passes CX X E)
    (hdb : (x == ("__debug__" : Str)) = false := by decide) : PE X (.Call (.Name x p) [] [] pos) (uCall sp E tNil) := PE.le (pe_call0 F hr hg hm hk hb .nil hx hdb) fun σ H Q q => by rw [← uCall_eq]; exact q
theorem my_meth {pl : Sem Bool} (he : PE X o ta) (c : Cls X.K C) (hm : Meth X.K C m f) (F : FnOk X.prog X.w X.K X.mg X.base CX k f fd ps sp) (hr : Room k X.A) (hb : Binds X.K fd ps []) (hx : Passes CX X E) (ha : PA X (e :: es) t)
    (hst : starEach (e :: es) X.env = (false, eval e X.env) :: starEach es X.env := by rfl) (hpl : (backTo pos (starEach es X.env)).any (·.1) = false := by rfl)
    (ht : eval (.Call (.Attribute o m apos) (e :: es) [] pos) X.env = (do
      let ov ← eval o X.env
      standAt apos.atName
      let (f, first) ← holding [ov] (getMethod ov m pl)
      callWith pos f first (backTo pos (starEach (e :: es) X.env)) (backToKw pos (keywordEach [] X.env))) := by rfl) :
    PE X (.Call (.Attribute o m apos) (e :: es) [] pos) (uMeth C m sp E ta t) := PE.le (pe_meth he c hm F hr hb .nil hx ha hst hpl ht) fun σ H Q q => by rw [← uMeth_eq]; exact q
theorem my_meth0 {pl : Sem Bool} (he : PE X o ta) (c : Cls X.K C) (hm : Meth X.K C m f) (F : FnOk X.prog X.w X.K X.mg X.base CX k f fd ps sp) (hr : Room k X.A) (hb : Binds X.K fd ps []) (hx : Passes CX X E)
    (ht : eval (.Call (.Attribute o m apos) [] [] pos) X.env = (do
      let ov ← eval o X.env
      standAt apos.atName
      let (f, first) ← holding [ov] (getMethod ov m pl)
      callWith pos f first (backTo pos (starEach [] X.env)) (backToKw pos (keywordEach [] X.env))) := by rfl) :
    PE X (.Call (.Attribute o m apos) [] [] pos) (uMeth C m sp E ta tNil) := PE.le (pe_meth0 he c hm F hr hb .nil hx ht) fun σ H Q q => by rw [← uMeth_eq]; exact q
theorem my_make (M : Mk X.K C f) (F : FnOk X.prog X.w X.K X.mg X.base CX k f fd ps sp) (hr : Room (k + 1) X.A) (hg : Gl X x) (hm : X.mg x = some (.ref C)) (hb : Binds X.K fd ps []) (hx : Passes CX X E)
    (ha : PA X (e :: es) t) (hdb : (x == ("__debug__" : Str)) = false := by decide) (he : starEach (e :: es) X.env = (false, eval e X.env) :: starEach es X.env := by rfl) (hpl : (backTo pos (starEach es X.env)).any (·.1) = false := by rfl) :
    PE X (.Call (.Name x p) (e :: es) [] pos) (uMake C sp E t) := PE.le (pe_make M F hr hg hm hb .nil hx ha hdb he hpl) fun σ H Q q => by rw [← uMake_eq]; exact q
theorem my_make0 (M : Mk X.K C f) (F : FnOk X.prog X.w X.K X.mg X.base CX k f fd ps sp) (hr : Room (k + 1) X.A) (hg : Gl X x) (hm : X.mg x = some (.ref C)) (hb : Binds X.K fd ps []) (hx : Passes CX X E)
    (hdb : (x == ("__debug__" : Str)) = false := by decide) : PE X (.Call (.Name x p) [] [] pos) (uMake C sp E tNil) := PE.le (pe_make0 M F hr hg hm hb .nil hx hdb) fun σ H Q q => by rw [← uMake_eq]; exact q
end
section
variable {X : Cx} {a b c : Expr} {ta tb tc te : TE} {r r' : R2} {op op' : CmpOp} {pos : Pos}
theorem uChain_eq : uChain r r' ta tb tc = tChain r r' ta tb tc := by unfold uChain tChain xIf; rfl
theorem my_chain (ho : OpR X (compareOp op) r) (ho' : OpR X (compareOp op') r') (ha : PE X a ta) (hb : PE X b tb) (hc : PE X c tc)
    (hm : lastMarks [op, op'] [b, c] = false := by with_unfolding_all rfl) : PE X (.Compare a [op, op'] [b, c] pos) (uChain r r' ta tb tc) := by rw [uChain_eq]; exact pe_chain ho ho' ha hb hc hm
theorem my_chainT (ho : OpR X (compareOp op) r) (ho' : OpR X (compareOp op') r') (ha : PE X a ta) (hb : PE X b tb) (hc : PE X c tc)
    (hm : lastMarks [op, op'] [b, c] = false := by with_unfolding_all rfl) : PT X (.Compare a [op, op'] [b, c] pos) (tTest (uChain r r' ta tb tc)) := by rw [uChain_eq]; exact pt_chain ho ho' ha hb hc hm
/-- a part that has a value and leaves the heap as it is -/
def Still (t : TE) : Prop := ∀ σ H Q, t σ H Q → ∃ v, Q v H ∧ ∀ Q' : VK, Q' v H → t σ H Q'
theorem still_c {v : V} : Still (tC v) := fun _ _ _ q => ⟨v, q, fun _ q' => q'⟩
theorem still_v {i : Nat} : Still (tVar i) := fun _ _ _ ⟨v, e, q⟩ => ⟨v, q, fun _ q' => ⟨v, e, q'⟩⟩
theorem still_fld {K : PySem.W.Frag} {f : Str} (h : Still ta) : Still (tFld K ta f) := fun σ H Q q => by
  obtain ⟨v, ⟨a, C, dx, fs, u, e, e1, e2, e3, e4, q⟩, k⟩ := h σ H _ q
  exact ⟨u, q, fun Q' q' => k _ ⟨a, C, dx, fs, u, e, e1, e2, e3, e4, q'⟩⟩
def rLenQ (K : PySem.W.Frag) : List V → Hp → VK → Prop := fun xs H Q => ∃ p ys, xs = [.ref p] ∧ (SqL K H p ys ∨ SqT K H p ys) ∧ Q (.int ys.length) H
theorem my_lenQ : CallR X (.builtin "len") (rLenQ X.K) := call_len_seq
theorem still_len {K : PySem.W.Frag} (h : Still ta) : Still (tCB (rLenQ K) (tCons ta tNil)) := fun σ H Q q => by
  obtain ⟨v, ⟨p, ys, e, e1, q⟩, k⟩ := h σ H _ q
  exact ⟨_, q, fun Q' q' => k _ ⟨p, ys, e, e1, q'⟩⟩
def rLenSQ : List V → Hp → VK → Prop := fun xs H Q => ∃ z, xs = [.str z] ∧ z.length ≤ sizeLine ∧ Q (.int z.length) H
theorem my_lenSQ : CallR X (.builtin "len") rLenSQ := call_len_str
theorem still_lenS (h : Still ta) : Still (tCB rLenSQ (tCons ta tNil)) := fun σ H Q q => by
  obtain ⟨v, ⟨z, e, e1, q⟩, k⟩ := h σ H _ q
  exact ⟨_, q, fun Q' q' => k _ ⟨z, e, e1, q'⟩⟩
/-- a <= b <= c of ints, all three still -/
def uChI (f g : Int → Int → Bool) (ta tb tc : TE) : TE := fun σ H Q => ta σ H fun x _ => tb σ H fun y _ => tc σ H fun z _ => ∃ i j l, x = .int i ∧ y = .int j ∧ z = .int l ∧ Q (.bl (f i j && g j l)) H
theorem uChI_le {f g : Int → Int → Bool} (sa : Still ta) (sb : Still tb) (sc : Still tc) (σ : L2.St) (H : Hp) (Q : VK) (q : uChI f g ta tb tc σ H Q) :
    uChain (rI0 fun i j => .bl (f i j)) (rI0 fun i j => .bl (g i j)) ta tb tc σ H Q := by
  obtain ⟨x, q, ka⟩ := sa σ H _ q
  obtain ⟨y, q, kb⟩ := sb σ H _ q
  obtain ⟨z, ⟨i, j, l, rfl, rfl, rfl, q⟩, kc⟩ := sc σ H _ q
  refine ka _ (kb _ ⟨i, j, rfl, rfl, _, rfl, ?_⟩)
  refine xIf_2 (fun h => kc _ ⟨j, l, rfl, rfl, ?_⟩) (fun h => ?_)
  · rw [h, Bool.true_and] at q; exact q
  · rw [h, Bool.false_and] at q; exact q
theorem my_chI {f g : Int → Int → Bool} (ho : OpR X (compareOp op) (rI0 fun i j => .bl (f i j))) (ho' : OpR X (compareOp op') (rI0 fun i j => .bl (g i j))) (ha : PE X a ta) (hb : PE X b tb) (hc : PE X c tc) (sa : Still ta) (sb : Still tb) (sc : Still tc)
    (hm : lastMarks [op, op'] [b, c] = false := by with_unfolding_all rfl) : PE X (.Compare a [op, op'] [b, c] pos) (uChI f g ta tb tc) := PE.le (my_chain ho ho' ha hb hc hm) (uChI_le sa sb sc)
theorem my_chIT {f g : Int → Int → Bool} (ho : OpR X (compareOp op) (rI0 fun i j => .bl (f i j))) (ho' : OpR X (compareOp op') (rI0 fun i j => .bl (g i j))) (ha : PE X a ta) (hb : PE X b tb) (hc : PE X c tc) (sa : Still ta) (sb : Still tb) (sc : Still tc)
    (hm : lastMarks [op, op'] [b, c] = false := by with_unfolding_all rfl) : PT X (.Compare a [op, op'] [b, c] pos) (tTest (uChI f g ta tb tc)) :=
  PT.le (my_chainT ho ho' ha hb hc hm) fun σ H Q q => uChI_le sa sb sc σ H _ q
def uRevL (K : PySem.W.Frag) (te : TE) : TE := fun σ H Q => te σ H fun x H1 => ∃ a xs, x = .ref a ∧ SqL K H1 a xs ∧ xNew (.lst xs.reverse) H1 Q
theorem my_revL {e : Expr} {k : Nat} {p1 p2 p3 : Pos} (he : PE X e te) : PE X (.Subscript e (.Slice none none (some (.UnaryOp .USub (.Constant (.int 1) k p1) p2)) p3) pos) (uRevL X.K te) := by
  have e : uRevL X.K te = tRevL X.K te := by unfold uRevL tRevL xNew; rfl
  rw [e]; exact pe_revL he
def uLstRg (te : L2.St → Hp → (Int → Int → Hp → Prop) → Prop) : TE := fun σ H Q => te σ H fun a b H1 => RgOk a b ∧ xNew (.lst (rgV a b)) H1 Q
theorem my_listRg {e : Expr} {te : L2.St → Hp → (Int → Int → Hp → Prop) → Prop} {p : Pos} (hc : X.calm = true) (hg : Gl X "list") (hm : X.mg "list" = none) (he : PRg X e te) (na : starEach [e] X.env = (false, eval e X.env) :: starEach [] X.env := by rfl) : PE X (.Call (.Name "list" p) [e] [] pos) (uLstRg te) := by
  have e' : uLstRg te = tLstRg te := by unfold uLstRg tLstRg xNew; rfl
  rw [e']; exact pe_listRg hc hg hm he na
def uLc (wi : TI) (g : TG) (tt : TT) (te : TE) (vs : List Nat) : TE := fun σ H Q => wi σ H fun J H1 => xLc J g tt te vs σ H1 Q
theorem uLc_eq (wi : TI) (g : TG) (tt : TT) (te : TE) (vs : List Nat) : uLc wi g tt te vs = tLc wi g tt te vs := by unfold uLc tLc xLc; rfl
end
/-! ### what leaves a def -/
section
variable {P : Program} {w : World} {K : PySem.W.Frag} {mg : Str → Option Value} {base : Heap} {N : List Str} {qual : Str} {sc : Scope} {f : Addr} {cd : Value} {A : Around} {outer : List Env} {s : Shared} {H : Hp} {E : XK}
theorem passE : Passes (L2.CX P w) (cxOf (L2.CX P w) P w K mg base N qual sc f cd A outer s H E) E := passes_call (takes_of rfl rfl rfl rfl) fun _ _ _ _ h => h
theorem ownE : PassesOwn (model P w) (A.deeper (PyProof.Rows.envOfC qual sc s.heap.objs.size f cd)) (PyProof.Rows.envOfC qual sc s.heap.objs.size f cd) (cxOf (L2.CX P w) P w K mg base N qual sc f cd A outer s H E).xe := passes_of (X := cxOf (L2.CX P w) P w K mg base N qual sc f cd A outer s H E) rfl
theorem takesE : Takes (cxOf (L2.CX P w) P w K mg base N qual sc f cd A outer s H E) (fun cls d _ H => E cls d H) := takes_of rfl rfl rfl rfl
end
/-- a def of the text -/
theorem fun_of {K : PySem.W.Frag} {x qual : Str} {st : Stmt} {f : Addr} {fd : FuncData} (F : FunD K x qual (defArgs st) (defBody st) (defScope st) [] [] f fd) : Fun K x qual st f fd := by
  obtain ⟨⟨oc, od, dV, kV, doc, pm, an, cdv, ct, osl, e, lk, cd, dd, kk⟩, kp⟩ := F
  refine ⟨⟨oc, od, kV, doc, pm, an, cdv, ct, osl, ?_, lk, cd⟩, kp⟩
  rcases dd with ⟨_, rfl⟩ | ⟨h, _⟩
  · exact e
  · exact absurd rfl h
theorem ix_of {n : Nat} {z : Int} {j : Nat} (e : z = (j : Int)) (h : j < n) : ixN n z = some j := by
  unfold ixN
  rw [e, if_pos (by omega), if_pos (by omega)]
  simp
/-! ### steps -/
section
variable {H0 H : Hp} {L : List Ent} {l : Addr} {xs zs : List V} {y : V} {Q : VK} {QH : Hp → Prop} {o : HO}
theorem st_new (w : W H0 H L) (k : ∀ p H', W H0 H' ((p, o) :: L) → Q (.ref p) H') : xNew o H Q := by
  unfold xNew; exact fun p hp => k p _ (w.new o hp)
theorem st_tup (w : W H0 H L) (k : ∀ p H', H' p = some (.tup xs) → W H0 H' L → Q (.ref p) H') : xNew (.tup xs) H Q := by
  unfold xNew; exact fun p hp => k p _ upd_same (w.skip hp)
theorem st_app (w : W H0 H L) (i : Nat) (h : L[i]? = some (l, .lst xs)) (hz : xs.length < sizeLine) (k : ∀ H', W H0 H' (L.set i (l, .lst (xs ++ [y]))) → Q .non H') : xApp (.ref l) [y] H Q := by
  unfold xApp; exact ⟨l, xs, y, rfl, rfl, w.get i h, hz, k _ (w.set i _ h rfl)⟩
theorem st_pop (w : W H0 H L) (i : Nat) (h : L[i]? = some (l, .lst xs)) (hy : xs[xs.length - 1]? = some y) (k : ∀ H', W H0 H' (L.set i (l, .lst xs.dropLast)) → Q y H') : xPop (.ref l) [] H Q := by
  unfold xPop; exact ⟨l, xs, y, rfl, rfl, w.get i h, hy, k _ (w.set i _ h rfl)⟩
theorem st_pop0 (w : W H0 H L) (i : Nat) (h : L[i]? = some (l, .lst (y :: xs))) (k : ∀ H', W H0 H' (L.set i (l, .lst xs)) → Q y H') : xPopAt (.ref l) [.int 0] H Q := by
  unfold xPopAt
  refine ⟨l, y :: xs, 0, 0, y, rfl, rfl, w.get i h, by decide, by decide, ?_, rfl, k _ (w.set i _ h rfl)⟩
  show seqIndex? 0 (xs.length + 1) = some 0
  unfold seqIndex?
  simp
theorem st_ins (w : W H0 H L) (i : Nat) {n : Int} (h : L[i]? = some (l, .lst xs)) (hz : xs.length < sizeLine) (h0 : 0 ≤ n) (h1 : n < 2 ^ 63) (k : ∀ H', W H0 H' (L.set i (l, .lst (xs.take n.toNat ++ [y] ++ xs.drop n.toNat))) → Q .non H') : xIns (.ref l) [.int n, y] H Q := by
  unfold xIns; exact ⟨l, xs, n, y, rfl, rfl, w.get i h, hz, h0, h1, k _ (w.set i _ h rfl)⟩
theorem find_first {ns : List Int} {n : Int} (hm : n ∈ ns) : ∃ j, ns[j]? = some n ∧ (∀ m, m < j → ns[m]? ≠ some n) ∧ ns.eraseIdx j = ns.erase n := by
  induction ns with
  | nil => cases hm
  | cons a r ih =>
    by_cases e : a = n
    · subst e
      exact ⟨0, rfl, fun m hm => absurd hm (Nat.not_lt_zero m), by simp⟩
    · obtain ⟨j, h1, h2, h3⟩ := ih ((List.mem_cons.mp hm).resolve_left fun z => e z.symm)
      refine ⟨j + 1, h1, fun m hm => ?_, ?_⟩
      · cases m with
        | zero => exact fun z => e (Option.some.inj z)
        | succ m => exact h2 m (Nat.lt_of_succ_lt_succ hm)
      · rw [List.eraseIdx_cons_succ, h3, List.erase_cons_tail (by simpa using e)]
theorem st_rem (w : W H0 H L) (i : Nat) {ns : List Int} {n : Int} (h : L[i]? = some (l, .lst (ns.map V.int))) (hm : n ∈ ns) (k : ∀ H', W H0 H' (L.set i (l, .lst ((ns.erase n).map V.int))) → Q .non H') : xRem (.ref l) [.int n] H Q := by
  obtain ⟨j, h1, h2, h3⟩ := find_first hm
  unfold xRem
  refine ⟨l, ns, n, j, rfl, rfl, w.get i h, h1, h2, ?_⟩
  rw [h3]
  exact k _ (w.set i _ h rfl)
theorem st_setL (w : W H0 H L) (i : Nat) {n : Int} {j : Nat} (h : L[i]? = some (l, .lst xs)) (hj : ixN xs.length n = some j) (k : ∀ H', W H0 H' (L.set i (l, .lst (xs.set j y))) → QH H') : xSetL (.ref l) (.int n) y H QH := by
  unfold xSetL; exact ⟨l, xs, n, j, rfl, rfl, w.get i h, hj, k _ (w.set i _ h rfl)⟩
theorem st_fld {K : PySem.W.Frag} {C dx : Addr} {f : Str} {fs : List (Str × V)} (w : W H0 H L) (i : Nat) (h : L[i]? = some (l, .ins C dx fs)) (c : Cls K C) (n : NoAttr K C f) (hz : fs.length < 1000)
    (k : ∀ H', W H0 H' (L.set i (l, .ins C dx (putF f y fs))) → QH H') : xFldSt K f (.ref l) y H QH := by
  unfold xFldSt; exact ⟨l, C, dx, fs, rfl, w.get i h, c, n, hz, k _ (w.set i _ h rfl)⟩
theorem st_dput {key : Key} {kvs : List (Key × V)} {kv : V} (w : W H0 H L) (i : Nat) (h : L[i]? = some (l, .dK kvs)) (hk : kv = kV key) (hz : kvs.length < sizeLine) (k : ∀ H', W H0 H' (L.set i (l, .dK (putK kvs key y))) → QH H') : xDPut (.ref l) kv y H QH := by
  subst hk
  unfold xDPut; exact ⟨l, _, rfl, DPut.k (w.get i h) hz, k _ (w.set i _ h rfl)⟩
theorem st_make {C : Addr} {sp : Sp} {E : XK} {vs : List V} (w : W H0 H L) (k : ∀ x dx H', W H0 H' ((x, .ins C dx []) :: L) → sp (.ref x :: vs) H' (fun v H2 => v = .non ∧ Q (.ref x) H2) E) : xMake C sp E vs H Q := by
  unfold xMake; exact fun x dx hx hdx ne => k x dx _ ((w.skip hdx).new _ (by rw [upd_ne (Ne.symm ne)]; exact hx))
theorem st_call {sp : Sp} {E : XK} {vs : List V} (h : sp vs H Q E) : xCall sp vs H Q E := by unfold xCall; exact h
theorem st_forR {lo : Int} {n : Nat} {g : TG} {tb : TS} {D : Ends} {σ : L2.St} (Pv : Nat → L2.St → Hp → Prop) (h0 : Pv 0 σ H)
    (hs : ∀ i σ H, i < n → Pv i σ H → g (.int (lo + i)) σ H fun σ2 H2 => tb { D with nx := Pv (i + 1), ct := Pv (i + 1), bk := D.nx } σ2 H2) (hd : ∀ σ H, Pv n σ H → D.nx σ H) : xFor (Itr lo n) g tb D σ H := by
  unfold xFor; exact for_range Pv h0 hs hd
theorem st_forRC {lo c : Int} {n : Nat} {g : TG} {tb : TS} {D : Ends} {σ : L2.St} (Pv : Nat → L2.St → Hp → Prop) (h0 : Pv 0 σ H)
    (hs : ∀ i σ H, i < n → Pv i σ H → g (.int (lo + (i : Nat) * c)) σ H fun σ2 H2 => tb { D with nx := Pv (i + 1), ct := Pv (i + 1), bk := D.nx } σ2 H2) (hd : ∀ σ H, Pv n σ H → D.nx σ H) : xFor (Itc lo c n) g tb D σ H := by
  unfold xFor; exact for_rangeC Pv h0 hs hd
theorem st_forL {K : PySem.W.Frag} {a : Addr} {g : TG} {tb : TS} {D : Ends} {σ : L2.St} (Pv : Nat → L2.St → Hp → Prop) (h0 : Pv 0 σ H) (hl : ∀ i σ H, i ≤ xs.length → Pv i σ H → SqL K H a xs)
    (hs : ∀ i x σ H, xs[i]? = some x → Pv i σ H → g x σ H fun σ2 H2 => tb { D with nx := Pv (i + 1), ct := Pv (i + 1), bk := D.nx } σ2 H2) (hd : ∀ σ H, Pv xs.length σ H → D.nx σ H) : xFor (Itl K a) g tb D σ H := by
  unfold xFor; exact for_list Pv h0 hl hs hd
theorem st_forT {K : PySem.W.Frag} {a : Addr} {g : TG} {tb : TS} {D : Ends} {σ : L2.St} (Pv : Nat → L2.St → Hp → Prop) (h0 : Pv 0 σ H) (hl : ∀ i σ H, i ≤ xs.length → Pv i σ H → SqT K H a xs)
    (hs : ∀ i x σ H, xs[i]? = some x → Pv i σ H → g x σ H fun σ2 H2 => tb { D with nx := Pv (i + 1), ct := Pv (i + 1), bk := D.nx } σ2 H2) (hd : ∀ σ H, Pv xs.length σ H → D.nx σ H) : xFor (Itt K a) g tb D σ H := by
  unfold xFor; exact for_tup Pv h0 hl hs hd
/-- while: W, by a number that falls -/
theorem st_while {c : TT} {tb : TS} {D : Ends} {σ : L2.St} (Wv : Nat → L2.St → Hp → Prop) (m0 : Nat) (h0 : Wv m0 σ H)
    (hs : ∀ m σ H, Wv m σ H → c σ H fun b H1 => xIf b (tb { D with nx := fun σ' H' => ∃ m', m' < m ∧ Wv m' σ' H', ct := fun σ' H' => ∃ m', m' < m ∧ Wv m' σ' H', bk := D.nx } σ H1) (D.nx σ H1))
    (mono : ∀ σ H Q Q', (∀ b H1, Q b H1 → Q' b H1) → c σ H Q → c σ H Q') : xWhile c tb D σ H := by
  unfold xWhile
  refine ⟨Wv, ⟨m0, h0⟩, fun m σ H hw => mono σ H _ _ (fun b H1 q => ?_) (hs m σ H hw)⟩
  unfold xIf at q
  cases b with
  | true => exact ⟨_, fun _ _ z => z, q⟩
  | false => exact q
end
end TR
namespace TR
open PySem L2
section
variable {X : Cx} {x : Str} {pos : Pos}
theorem my_globI {i : Int} (h : ∃ t, X.mg x = some (.int i t)) (hg : Gl X x) (hd : (x == ("__debug__" : Str)) = false := by decide) : PE X (.Name x pos) (tC (.int i)) := by
  obtain ⟨t, h⟩ := h
  exact pe_glob hg h ⟨t, rfl⟩ hd
theorem my_globS {z : Str} (h : ∃ t, X.mg x = some (.str z t)) (hg : Gl X x) (hd : (x == ("__debug__" : Str)) = false := by decide) : PE X (.Name x pos) (tC (.str z)) := by
  obtain ⟨t, h⟩ := h
  exact pe_glob hg h ⟨t, rfl⟩ hd
theorem my_globR {a : Addr} (h : X.mg x = some (.ref a)) (hg : Gl X x) (hd : (x == ("__debug__" : Str)) = false := by decide) : PE X (.Name x pos) (tC (.ref a)) := pe_glob hg h rfl hd
end
theorem nb_t {a b : Prop} [Decidable a] [Decidable b] (h : (!(decide a && decide b)) = true) : ¬ (a ∧ b) := fun ⟨x, y⟩ => by
  rw [decide_eq_true x, decide_eq_true y] at h; cases h
theorem nb_f {a b : Prop} [Decidable a] [Decidable b] (h : (!(decide a && decide b)) = false) : a ∧ b := by
  by_cases x : a
  · by_cases y : b
    · exact ⟨x, y⟩
    · rw [decide_eq_true x, decide_eq_false y] at h; cases h
  · rw [decide_eq_false x] at h; cases h
theorem de_t {i j : Int} (h : decide (V.int i = V.int j) = true) : i = j := V.int.inj (of_decide_eq_true h)
theorem de_f {i j : Int} (h : decide (V.int i = V.int j) = false) : i ≠ j := fun z => of_decide_eq_false h (by rw [z])
/-- where the script stands: an entry of the ledger, or the written part -/
def Scr (K : PySem.W.Frag) (a : Addr) (ns : List Int) (R : List Ent) : Prop := ∀ H0 H, W H0 H R → SqL K H a (ns.map V.int)
theorem Scr.cons {K : PySem.W.Frag} {a : Addr} {ns : List Int} {R : List Ent} {x : Ent} (s : Scr K a ns R) : Scr K a ns (x :: R) := fun _ _ w => s _ _ w.drop1
theorem Scr.app {K : PySem.W.Frag} {a : Addr} {ns : List Int} {R L : List Ent} (s : Scr K a ns R) : Scr K a ns (L ++ R) := fun _ _ w => s _ _ w.dropL
@[irreducible] def sp_law (K : PySem.W.Frag) : Sp := fun vs H Q _ => ∃ (a : Addr) (ns : List Int) (R : List Ent), vs = [.ref a] ∧ Scr K a ns R ∧ W H H R ∧ ns.length ≤ 63 ∧ ∀ H', Q (.bl true) H'
theorem of_law {K : PySem.W.Frag} {vs : List V} {H : Hp} {Q : VK} {E : XK} (h :  ∃ (a : Addr) (ns : List Int) (R : List Ent), vs = [.ref a] ∧ Scr K a ns R ∧ W H H R ∧ ns.length ≤ 63 ∧ ∀ H', Q (.bl true) H') : sp_law K vs H Q E := by unfold sp_law; exact h
theorem law_pre {K : PySem.W.Frag} {H : Hp} {a : Addr} {ns : List Int} (hl : ns.length ≤ 63) (hO : Only H) (hS : SqL K H a (ns.map V.int)) : sp_law K [.ref a] H (fun v _ => v = .bl true) fun _ _ _ => False := by
  unfold sp_law
  rcases hS with (h | ⟨o, h⟩) | h
  · exact ⟨a, ns, [(a, .lst (ns.map V.int))], rfl, fun H0 H' w => SqL.of (w.get 0 rfl), ⟨by simp, fun x hx => by rw [List.mem_singleton.mp hx]; exact h, fun _ _ e => e⟩, hl, fun _ => rfl⟩
  · exact ⟨a, ns, [(a, .frz o (.lst (ns.map V.int)))], rfl, fun H0 H' w => .inl (.inr ⟨o, w.get 0 rfl⟩), ⟨by simp, fun x hx => by rw [List.mem_singleton.mp hx]; exact h, fun _ _ e => e⟩, hl, fun _ => rfl⟩
  · exact ⟨a, ns, [], rfl, fun H0 H' w => .inr h, ⟨by simp, fun x hx => (nomatch hx), fun _ _ e => e⟩, hl, fun _ => rfl⟩
theorem binds1 {K : PySem.W.Frag} {x qual : Str} {st : Stmt} {f : Addr} {fd : FuncData} {p : Str} (F : Fun K x qual st f fd)
    (h : ∀ (kV doc pm : Value) (an : Option Addr) (cdv ct : Value) (us : List Value), us.length = [p].length → bindArgs (PySem.W.fnOf x qual (defArgs st) (defBody st) (defScope st) .none kV doc pm an cdv ct) ⟨us, []⟩ = pure ([p].zip us)) (s : Shared) (v : Value) : BindsTo s fd ⟨[v], []⟩ [(p, v)] := by
  obtain ⟨oc, od, kV, doc, pm, an, cdv, ct, osl, rfl, lk, hcd⟩ := F.ex
  exact .of_eq (h kV doc pm an cdv ct [v] rfl)
open PySem.Spec PyProof.Rows in
theorem law_end {l : PySem.W.OpenLaw} {n k : Nat} {q : Program} {loose : List Str} {XP : (Str → Option Value) → Heap → Prop} {YP : World → Heap → Prop} {d : DefRec} {x : Str}
    (hn : l.most = some n) (hn2 : n ≤ sizeLine) (hdf : d.params.defaults = []) (hr : Room k callerA)
    (F : ∀ (w : World) (mg : Str → Option Value) (fa : Addr) (h : Heap), YP w h → h.Ns mainGlobals mg → mg d.name = some (.ref fa) →
      ∃ (K : PySem.W.Frag) (fd : FuncData) (sp : Sp), K.In h ∧ (∀ (s : Shared) (u : Value), BindsTo s fd ⟨[u], []⟩ [(x, u)]) ∧
        (∀ (H : Hp) (a : Addr) (ns : List Int), ns.length ≤ n → Only H → SqL K H a (ns.map V.int) → sp [.ref a] H (fun v _ => v = .bl true) fun _ _ _ => False) ∧
        ∀ base : Heap, K.In base → base.Ns mainGlobals mg → FnOk l.prog w K mg base (L2.CX l.prog w) k fa fd [x] sp) :
    PySem.W.WalkO q loose XP YP l.row.toRowW d [] (fun f vs => PySem.call f vs) := by
  refine Att.attach_call hn hdf fun w s₀ s₁ mg mb fa o pm cd doc a vs ns G Y ho hd hcd hmg hobj hints hlen hg => ?_
  obtain ⟨K, fd, sp, KX, hb, hsp, hF⟩ := F w mg fa _ Y G.T.g hmg
  refine law_call KX G.T.g G.T.b G.T.builtins G.T.nolimit hg hobj hints (Nat.le_trans hlen hn2) hr hF hb (fun H hO hS => hsp H a ns hlen hO hS) fun H e s' h => ?_
  obtain ⟨_, _, _, _, _, _, _, _, _, _, _, _, z⟩ := h
  exact z.elim
end TR
namespace TR
open PySem PySem.Spec PyProof.Rows L2
/-! ### an exception that was caught and is held by a name behind the suite -/
def ExH (cls : Value) (d : Option Addr) (a : Addr) : HO :=
  .ext fun h => ∃ (oe : Obj) (vs : Array Value), h.get? a = some oe ∧ Zc cls d oe ∧ oe.data = .fields vs
section
variable {X : Cx} {pins : List (Addr × Obj)} {σ : L2.St} {H : Hp} {s : Shared}
/-- an untracked exception of ours comes to be tracked -/
theorem inv_track {a : Addr} {oe : Obj} {vs : Array Value} {cls : Value} {d : Option Addr} (I : Inv X pins σ H s)
    (ha : s.heap.get? a = some oe) (z : Zc cls d oe) (hv : oe.data = .fields vs) (na : H a = none)
    (nL : X.env.locals ≠ a) (n0 : ∀ o, X.s_0.heap.get? a = some o → a ∈ X.ex) (np : ∀ p ∈ X.pn ++ pins, p.1 ≠ a) :
    Inv X pins σ (upd H a (ExH cls d a)) s := by
  have keepN : ∀ b, H b = none → b ≠ a → upd H a (ExH cls d a) b = none := fun b hb ne => by
    rw [upd_ne ne]
    exact hb
  have keepS : ∀ b o, H b = some o → upd H a (ExH cls d a) b = some o := fun b o hb => by
    rw [upd_ne (ne_of_none hb na)]
    exact hb
  have obj : ObjOk X.prog X.w (upd H a (ExH cls d a)) s.heap a (ExH cls d a) :=
    ⟨⟨oe, vs, ha, z, hv⟩, ⟨oe, ha⟩, fun _ _ ⟨o, v, q, r⟩ k => ⟨o, v, k o q, r⟩⟩
  constructor
  · exact I.ok
  · exact I.os
  · exact I.bare
  · constructor
    · exact I.base.keep
    · exact I.base.slot
    · intro b o e n hx
      refine keepN b (I.base.free b o e n hx) fun q => ?_
      subst q
      exact hx (n0 o e)
    · exact I.base.there
    · exact fun b xs e => keepS b _ (I.base.tups b xs e)
    · exact fun b o u e => keepS b _ (I.base.frzs b o u e)
    · intro b ps e
      obtain ⟨m, q⟩ := I.base.tbls b ps e
      exact ⟨m, keepS b _ q⟩
  · exact I.loc
  · exact I.cell
  · exact keepN _ I.free nL
  · intro x c e
    refine keepN c (I.freeC x c e) fun q => ?_
    obtain ⟨v, o, ho, hd⟩ := I.cell x c e
    rw [q, ha] at ho
    cases ho
    rw [hv] at hd
    cases hd
  · intro p hp
    obtain ⟨h1, h2, h3⟩ := I.pin p hp
    exact ⟨h1, keepN p.1 h2 (np p hp), h3⟩
  · exact HOk.laidN I.hok (fun _ _ q => q) na obj
  · exact I.len
end
/-- what is wished of an exception of the body: it is of the clause's class; behind the suite it is held in slot j -/
def wHeld (K : PySem.W.Frag) (c : Value) (i j : Nat) (D : Ends) : WX := fun cls d σ H =>
  PySem.W.exmOne K cls c = some true ∧ ∀ a, H a = none → D.nx (((σ.set i (some (.ref a))).set j (some (.ref a))).set i none) (upd H a (ExH cls d a))
section
variable {X : Cx} {x n m : Str} {c : Value} {i j : Nat} {body : List Stmt} {np pos pos' hp ep ap : Pos} {tb : WX → TS}
/-- try: body / except x as n: m = n -/
theorem my_tryHeld (hs : X.stack = X.env :: X.outer) (hf : X.env.frame = some X.env.locals) (hN : X.N.Nodup)
    (hi : X.N[i]? = some n) (hln : X.env.kindOf n = some .local) (hj : X.N[j]? = some m) (hlm : X.env.kindOf m = some .local) (hij : i ≠ j)
    (hc : Names X x c) (hdb : (n == ("__debug__" : Str)) = false) (hcd : (n == ("__classdict__" : Str)) = false)
    (hsw : ∀ (a : Addr) (pn : List (Addr × Obj)), swapsWith (.Name n ep) (some (.Name m hp)) ap.line (X.suite a pn).env = pure false)
    (hb : ∀ (W : WX) (pn : List (Addr × Obj)) (xe : Value → Shared → Prop), Takes (X.tr pn xe) W →
      PassesOwn (model X.prog X.w) X.A X.env xe → PSs (X.tr pn xe) body (tb W)) :
    PS X (.Try body [.ExceptHandler (some (.Name x np)) (some n) [.Assign [.Name m hp] (.Name n ep) ap] pos'] [] [] pos)
      (fun D σ H => tb (wHeld X.K c i j D) D σ H) := by
  constructor
  intro pins s σ H D I h
  have ok := I.ok
  have frm : X.A.frames = some (X.env :: X.outer) := by
    rw [ok.frames, hs]
  apply wpAny_Try_except
  have key : ∀ xe : Value → Shared → Prop, Takes (X.tr (X.pn ++ pins) xe) (wHeld X.K c i j D) → PassesOwn (model X.prog X.w) X.A X.env xe →
      wpAny (model X.prog X.w) X.A (execs body X.env) (fun f s₁ => match f with
        | .next => wpAny (model X.prog X.w) X.A (execs [] X.env) (SP X pins D) X.xe s₁
        | f => SP X pins D f s₁) xe s := by
    intro xe tk po
    apply wpAny_mono ((hb _ _ xe tk po).run [] s σ H D (I.toTry _) h)
    · intro f s1 sp
      cases f with
      | next =>
        obtain ⟨σ1, H1, J1, q1⟩ := sp
        exact wpAny_execs_nil ⟨σ1, H1, J1.ofTry ok, q1⟩
      | brk =>
        obtain ⟨σ1, H1, J1, q1⟩ := sp
        exact ⟨σ1, H1, J1.ofTry ok, q1⟩
      | cont =>
        obtain ⟨σ1, H1, J1, q1⟩ := sp
        exact ⟨σ1, H1, J1.ofTry ok, q1⟩
      | ret u =>
        obtain ⟨v, σ1, H1, J1, r1, q1⟩ := sp
        exact ⟨v, σ1, H1, J1.ofTry ok, r1, q1⟩
    · exact fun _ _ z => z
  refine key _ (fun u s' xx => ?_) PassesOwn.looking
  · obtain ⟨a, B, sI, pins1, σ1, H1, cls, d, rfl, J1, nb, up, sky, na, os, ag, hm, wish⟩ := xx
    have J : Inv X pins σ1 H1 sI := J1.ofTry ok
    rw [hs] at sky nb
    refine Sky.land Zc.steady frm hf sky fun h3 fl up3 => ?_
    have newB : B.get? a = none := fl.2.1
    obtain ⟨o3, v3, g3, z3, d3⟩ := fl.there
    have nfr : a ∉ frs (X.env :: X.outer) := by
      intro q
      obtain ⟨_, o, e, no⟩ := fl.2.2.1.mem q
      rw [g3] at e
      cases e
      exact no _ d3
    have nL : a ≠ X.env.locals := by
      intro q
      refine nfr (List.mem_filterMap.mpr ⟨X.env, List.mem_cons_self, ?_⟩)
      rw [hf, q]
    have nF : a ∉ X.fs := by
      intro q
      obtain ⟨e, he, z⟩ := List.mem_filterMap.mp q
      exact nfr (List.mem_filterMap.mpr ⟨e, List.mem_cons_of_mem _ he, z⟩)
    have notI : ∀ o, sI.heap.get? a ≠ some o := by
      intro o e
      have := nb a o e nfr
      rw [newB] at this
      cases this
    have J3 : Inv X pins σ1 H1 { s' with heap := h3 } := by
      rw [← hs] at nb
      exact J.landed nb fl.1 (up.trans up3) os ag
    have S3 := J3.suite g3 d3 na nL nF
    apply wpAny_handleBy_cons (codeAny_handlers_test ?_) (by intro q; cases q)
    have LT : PySem.W.Looks (model X.prog X.w) h3 (typeOf (.ref a)) cls := by
      intro A Q E s k q
      apply wpAny_typeOf_ref (k _ _ g3)
      rw [z3.1]
      exact q
    have LM := PySem.W.exm_one (M := model X.prog X.w) J3.kIn LT hm
    have look : ∀ {Q : Value → Shared → Prop} {E : Value → Shared → Prop}, Q c { s' with heap := h3 } →
        wpAny (model X.prog X.w) (X.A.mark (some (.ref a))) (eval (.Name x np) X.env) Q E { s' with heap := h3 } := by
      intro Q E q
      obtain ⟨hg, hd1, h1 | ⟨h1, h2, h4⟩⟩ := hc
      · exact ld_glob S3 hg h1 q hd1
      · exact ld_blt S3 hg h1 h2 q h4 hd1
    apply look
    apply LM.here
    apply codeAny_handlers_suite_as
    apply HandSPX.lands_againZ fl
    intro h4 fl4 up4
    have J4 : Inv X pins σ1 H1 { s' with heap := h4 } := by
      rw [← hs] at nb
      exact J.landed nb fl4.1 ((up.trans up3).trans up4) os ag
    obtain ⟨o4, v4, g4, z4, d4⟩ := fl4.there
    have S4 := J4.suite g4 d4 na nL nF
    refine store_ok (X := X.suite a _) (v := .ref a) S4 hN hi (.inl hln) rfl (fun s5 S5 => ?_) (.inr hln)
    -- the suite: m = n
    have su : PSs (X.suite a ((a, o4) :: (X.pn ++ pins))) [.Assign [.Name m hp] (.Name n ep) ap] (tAsg (tVar i) (gName j)) :=
      pss_one (ps_set hN hj (.inl hlm) (pe_var hi (.inl hln) hdb hcd) (hsw a _) (.inr hlm))
    have slot : ((σ1.set i (some (V.ref a))) : L2.St)[i]? = some (some (V.ref a)) := by
      have : i < σ1.length := by
        rw [J.len]
        exact (List.getElem?_eq_some_iff.mp hi).1
      rw [List.getElem?_set_self this]
    have red : tAsg (tVar i) (gName j) { nx := fun σ6 H6 => σ6 = (σ1.set i (some (.ref a))).set j (some (.ref a)) ∧ H6 = H1, rt := fun _ _ => False } (σ1.set i (some (.ref a))) H1 :=
      ⟨_, slot, rfl, rfl⟩
    apply wpAny_mono (su.run [] s5 _ H1 _ S5 red)
    · intro f s6 sp
      cases f with
      | next =>
        obtain ⟨σ6, H6, S6, rfl, rfl⟩ := sp
        refine gone_ok (X := X.suite a _) S6 hN hi hln fun s7 S7 => ?_
        obtain ⟨g7, _, _, _, _⟩ := S7.pin (a, o4) (List.mem_append_left _ List.mem_cons_self)
        have J7 : Inv X pins _ H6 s7 := S7.unsuite ok
        refine ⟨_, _, inv_track J7 g7 z4 d4 na (Ne.symm nL) ?_ ?_, wish a na⟩
        · intro o e
          apply Classical.byContradiction
          intro nx
          obtain ⟨o', q⟩ := J.base.there a o e nx
          exact notI o' q
        · intro p hp q
          obtain ⟨e, _⟩ := J.pin p hp
          rw [q] at e
          exact notI _ e
      | brk =>
        obtain ⟨_, _, _, z⟩ := sp
        exact z.elim
      | cont =>
        obtain ⟨_, _, _, z⟩ := sp
        exact z.elim
      | ret u =>
        obtain ⟨_, _, _, _, _, z⟩ := sp
        exact z.elim
    · exact fun _ _ z => z.elim
end
section
variable {X : Cx}
/-- isinstance(e, c), e a held exception -/
def rIsH (K : PySem.W.Frag) : List V → Hp → VK → Prop := fun xs H Q =>
  ∃ (a D : Addr) (c : V) (cv : Value) (b : Bool), xs = [.ref a, c] ∧ H a = some (ExH (.ref D) none a) ∧ ExcC K D ∧ (∀ u, RelV c u → u = cv) ∧ PySem.W.kitOne K (.ref D) cv = some b ∧ Q (.bl b) H
theorem my_isi : CallR X (.builtin "isinstance") (rIsH X.K) := by
  intro pins s σ H xs us Q I r h
  obtain ⟨a, D, c, cv, b, rfl, ha, C, hcv, e, q⟩ := h
  obtain ⟨u, v, rfl, ru, rv⟩ := r.two
  cases ru
  cases hcv _ rv
  obtain ⟨⟨oe, vs, g, hz, hv⟩, _, _⟩ := I.hok a _ ha
  have J : PySem.W.InstAt s.heap a oe D none := by
    obtain ⟨oc, od, dt, sl⟩ := oe
    obtain ⟨h1, h2⟩ := hz
    simp only at h1 h2 hv
    subst h1 h2 hv
    exact ⟨g, rfl, rfl, trivial⟩
  have kit := PySem.W.handS_kitx_exc (x := a) (ox := oe) C.hg C.hk C.hs C.hd C.ha C.hn C.ht C.hm
  apply PySem.W.kia_one kit I.kIn J e (fun z => nomatch z)
  intro tk
  exact ⟨.bl b, H, I.kept (t' := tk) fun _ _ z => z, rfl, q⟩
/-- xs.count(y), flat things -/
def rCntV (K : PySem.W.Frag) : V → List V → Hp → VK → Prop := fun x xs H Q =>
  ∃ (p : Addr) (ys : List V) (y : V), x = .ref p ∧ xs = [y] ∧ SqL K H p ys ∧ flatV y = true ∧ ys.all flatV = true ∧ Q (.int (ys.countP fun z => eqV z y : Nat)) H
theorem cnt_eqU {y : V} : ∀ {xs : List V} {us : List Value}, Vals xs us → xs.all flatV = true → us.countP (eqU y) = xs.countP fun z => eqV z y
  | _, _, .nil, _ => rfl
  | x :: xs, u :: us, .cons r t, f => by
    obtain ⟨f1, f2⟩ := Bool.and_eq_true_iff.mp (show (flatV x && xs.all flatV) = true from f)
    rw [List.countP_cons, List.countP_cons, cnt_eqU t f2, eqU_of r f1]
theorem my_count : MtR X "list.count" (rCntV X.K) := by
  intro pins s σ H x xs v us Q I rx rxs h
  obtain ⟨p, ys, y, rfl, rfl, hs, fy, fys, q⟩ := h
  cases rx
  obtain ⟨u, rfl, ry⟩ := rxs.one
  obtain ⟨its, rv, ⟨ob, n, ho, hc, hdn, hd⟩, hlen⟩ := I.list hs
  obtain ⟨cls, dd, data, sl⟩ := ob
  simp only at hc hd
  subst hc hd
  refine call_meets PySem.F.slot_list_count ⟨_, ho, rfl⟩ PySem.F.entry_list_count (PySem.F.args_list_count_2 _ _) (SeqAt.list_countAt p its.toArray n dd sl u (eqU y)) ⟨ho, ?_, ?_⟩
  · intro z hz
    exact mem_eqAt ry fy rv fys z (by simpa using hz)
  · have e : its.toArray.toList.countP (eqU y) = ys.countP fun z => eqV z y := by
      simpa using cnt_eqU (y := y) rv fys
    refine ⟨.int _, H, I.tok _, ⟨s.toks, ?_⟩, q⟩
    show Value.int (its.toArray.toList.countP (eqU y) : Nat) s.toks = _
    rw [e]
end
end TR
namespace TR
open PySem PySem.Spec PyProof.Rows L2
/-! ### calls in a try's body: what is raised is wished for at the slots -/
section
variable {X : Cx} {CX : CXT} {k : Nat} {f C : Addr} {fd : FuncData} {ps : List Str} {sp : Sp} {W : WX} {x m : Str} {p pos apos : Pos} {e o : Expr} {es : List Expr} {ta : TE} {t : TA}
def uCallS (sp : Sp) (W : WX) (t : TA) : TE := fun σ H Q => t σ H fun vs H1 => xCall sp vs H1 Q (WE W σ)
def uMethS (C : Addr) (m : Str) (sp : Sp) (W : WX) (ta : TE) (t : TA) : TE := fun σ H Q => ta σ H fun x H1 => ∃ a dx fs, x = .ref a ∧ H1 a = some (.ins C dx fs) ∧ fs.lookup m = none ∧ t σ H1 fun vs H2 => xCall sp (x :: vs) H2 Q (WE W σ)
def uMakeS (C : Addr) (sp : Sp) (W : WX) (t : TA) : TE := fun σ H Q => t σ H fun vs H1 => xMake C sp (WE W σ) vs H1 Q
theorem my_callS (F : FnOk X.prog X.w X.K X.mg X.base (L2.CX X.prog X.w) k f fd ps sp) (hr : Room k X.A) (hg : Gl X x) (hm : X.mg x = some (.ref f))
    (hk : PySem.W.keepIn X.K (.ref f) = true) (hb : Binds X.K fd ps []) (tk : Takes X W) (ha : PA X (e :: es) t)
    (hdb : (x == ("__debug__" : Str)) = false := by decide) (he : starEach (e :: es) X.env = (false, eval e X.env) :: starEach es X.env := by rfl)
    (hpl : (backTo pos (starEach es X.env)).any (·.1) = false := by rfl) : PE X (.Call (.Name x p) (e :: es) [] pos) (uCallS sp W t) := by
  refine PE.le (pe_callS (E := WE W) F hr hg hm hk hb (fun σ => passAt tk σ) ha hdb he hpl) ?_
  intro σ H Q q
  unfold uCallS xCall at q
  exact q
theorem my_methS {pl : Sem Bool} (he : PE X o ta) (c : Cls X.K C) (hm : Meth X.K C m f) (F : FnOk X.prog X.w X.K X.mg X.base (L2.CX X.prog X.w) k f fd ps sp)
    (hr : Room k X.A) (hb : Binds X.K fd ps []) (tk : Takes X W) (ha : PA X (e :: es) t)
    (hst : starEach (e :: es) X.env = (false, eval e X.env) :: starEach es X.env := by rfl) (hpl : (backTo pos (starEach es X.env)).any (·.1) = false := by rfl)
    (ht : eval (.Call (.Attribute o m apos) (e :: es) [] pos) X.env = (do
      let ov ← eval o X.env
      standAt apos.atName
      let (f, first) ← holding [ov] (getMethod ov m pl)
      callWith pos f first (backTo pos (starEach (e :: es) X.env)) (backToKw pos (keywordEach [] X.env))) := by rfl) :
    PE X (.Call (.Attribute o m apos) (e :: es) [] pos) (uMethS C m sp W ta t) := by
  constructor
  intro pins s σ H Q I h
  apply PySem.W.methodCall_KW (pl := pl) _ ht
  apply thn (he.run pins s σ H _ I h)
  rintro u s1 ⟨y, H1, I1, ry, a, dx, fs, rfl, ea, lk, q⟩
  cases ry
  apply getmeth_ok I1 ea c hm lk
  apply PySem.W.callWith_K (first := [.ref a]) (h₀ := X.base) I.ok.mod.kin hm.kp _ hst hpl
  apply thn (ha.run pos pins s1 σ H1 _ I1 q)
  rintro us s2 ⟨vs, H2, I2, r, q2⟩
  refine ⟨I2.kIn, ?_⟩
  unfold xCall at q2
  exact run_fnS (E := WE W) (us := .ref a :: us) (vs := .ref a :: vs) F hr hb (passAt tk σ) I2 (.cons rfl r) q2
theorem my_meth0S {pl : Sem Bool} (he : PE X o ta) (c : Cls X.K C) (hm : Meth X.K C m f) (F : FnOk X.prog X.w X.K X.mg X.base (L2.CX X.prog X.w) k f fd ps sp)
    (hr : Room k X.A) (hb : Binds X.K fd ps []) (tk : Takes X W)
    (ht : eval (.Call (.Attribute o m apos) [] [] pos) X.env = (do
      let ov ← eval o X.env
      standAt apos.atName
      let (f, first) ← holding [ov] (getMethod ov m pl)
      callWith pos f first (backTo pos (starEach [] X.env)) (backToKw pos (keywordEach [] X.env))) := by rfl) :
    PE X (.Call (.Attribute o m apos) [] [] pos) (uMethS C m sp W ta tNil) := by
  constructor
  intro pins s σ H Q I h
  apply PySem.W.methodCall_KW (pl := pl) _ ht
  apply thn (he.run pins s σ H _ I h)
  rintro u s1 ⟨y, H1, I1, ry, a, dx, fs, rfl, ea, lk, q⟩
  cases ry
  apply getmeth_ok I1 ea c hm lk
  have q2 : xCall sp [.ref a] H1 Q (WE W σ) := q
  unfold xCall at q2
  exact PySem.W.callWith_K0 (first := [.ref a]) I1.kIn hm.kp (run_fnS (E := WE W) (us := [.ref a]) (vs := [.ref a]) F hr hb (passAt tk σ) I1 (.cons rfl .nil) q2)
theorem my_makeS (M : Mk X.K C f) (F : FnOk X.prog X.w X.K X.mg X.base (L2.CX X.prog X.w) k f fd ps sp) (hr : Room (k + 1) X.A) (hg : Gl X x) (hm : X.mg x = some (.ref C))
    (hb : Binds X.K fd ps []) (tk : Takes X W) (ha : PA X (e :: es) t)
    (hdb : (x == ("__debug__" : Str)) = false := by decide) (he : starEach (e :: es) X.env = (false, eval e X.env) :: starEach es X.env := by rfl)
    (hpl : (backTo pos (starEach es X.env)).any (·.1) = false := by rfl) : PE X (.Call (.Name x p) (e :: es) [] pos) (uMakeS C sp W t) := by
  constructor
  intro pins s σ H Q I h
  apply wpAny_Call_Name_kw
  apply ld_glob I hg hm _ hdb
  apply PySem.W.callWith_K (h₀ := X.base) I.ok.mod.kin M.kp _ he hpl
  apply thn (ha.run pos pins s σ H _ I h)
  rintro us s1 ⟨vs, H1, I1, r, q⟩
  refine ⟨I1.kIn, ?_⟩
  unfold xMake at q
  have fr := I1.hok.fresh (Nat.le_refl s1.heap.objs.size)
  have fr1 := I1.hok.fresh (Nat.le_succ s1.heap.objs.size)
  have J := Inv.made (C := C) I1
  have q1 := q (s1.heap.objs.size + 1) s1.heap.objs.size fr1 fr (Nat.ne_of_lt (Nat.lt_succ_self _))
  have rs : Vals (V.ref (s1.heap.objs.size + 1) :: vs) (Value.ref (s1.heap.objs.size + 1) :: us) := .cons rfl r
  have ln : (Value.ref (s1.heap.objs.size + 1) :: us).length = ps.length := rs.length.symm.trans (F.len _ _ _ _ q1)
  have bd := hb _ (Value.ref (s1.heap.objs.size + 1) :: us) J.kIn (by rw [List.append_nil]; exact ln)
  rw [List.append_nil] at bd
  have go := F.run _ X.stack _ _ ⟨Value.ref (s1.heap.objs.size + 1) :: us, []⟩ _ _ _ _ (hr.make C us []) (J.env0.make C us []) bd rs q1
  apply wpAny_call
  apply make_map (f := f) I1.kIn M.makes M.init (beq_iff_eq.mp M.fn)
  apply codeAny_mono go
  intro rt s' hq
  cases rt with
  | error e => exact passAt tk σ pins _ _ e s' J hq
  | ok fl =>
    cases fl with
    | ret u =>
      obtain ⟨v, H2, I2, rv, rfl, q2⟩ := J.after hq
      exact ⟨rv, ⟨V.ref (s1.heap.objs.size + 1), H2, I2, rfl, q2⟩⟩
    | next => exact hq.elim
    | brk => exact hq.elim
    | cont => exact hq.elim
end
/-! ### index -/
@[irreducible] def xIndex (K : PySem.W.Frag) : MRd := rIndex K
theorem my_index {X : Cx} : MtR X "list.index" (xIndex X.K) := by unfold xIndex; exact mt_index
theorem st_idx {K : PySem.W.Frag} {H : Hp} {a : Addr} {ys : List V} {y : V} {Q : VK} (j : Nat) (z : V) (hs : SqL K H a ys) (fy : flatV y = true) (fs : ys.all flatV = true) (hz : ys[j]? = some z) (he : eqV z y = true)
    (hno : ∀ m u, m < j → ys[m]? = some u → eqV u y = false) (k : Q (.int j) H) : xIndex K (.ref a) [y] H Q := by
  unfold xIndex; exact ⟨a, ys, y, j, z, rfl, rfl, hs, fy, fs, hz, he, hno, k⟩
theorem flat_ints (ns : List Int) : (ns.map V.int).all flatV = true := by
  rw [List.all_map]; exact List.all_eq_true.mpr fun _ _ => rfl
theorem st_idxI {K : PySem.W.Frag} {H : Hp} {a : Addr} {ns : List Int} {n : Int} {Q : VK} (hs : SqL K H a (ns.map V.int)) (hm : n ∈ ns) (k : Q (.int (ns.idxOf n)) H) : xIndex K (.ref a) [.int n] H Q := by
  have hl := List.idxOf_lt_length_iff.mpr hm
  refine st_idx (ns.idxOf n) (.int n) hs rfl (flat_ints ns) ?_ (by show (n == n) = true; exact beq_self_eq_true n) ?_ k
  · rw [List.getElem?_map, List.getElem?_eq_getElem hl, List.getElem_idxOf hl]; rfl
  · intro m u hm' hu
    rw [List.getElem?_map] at hu
    cases e : ns[m]? with
    | none => rw [e] at hu; cases hu
    | some x =>
      rw [e] at hu
      cases hu
      show (x == n) = false
      obtain ⟨hml, ex⟩ := List.getElem?_eq_some_iff.mp e
      rw [← ex]
      exact List.not_of_lt_findIdx hm'
theorem inV_ints (ns : List Int) (n : Int) : inV (.int n) (ns.map V.int) = decide (n ∈ ns) := by
  unfold inV
  rw [List.any_map]
  by_cases h : n ∈ ns
  · rw [decide_eq_true h]
    exact List.any_eq_true.mpr ⟨n, h, by show (n == n) = true; exact beq_self_eq_true n⟩
  · rw [decide_eq_false h]
    refine Bool.eq_false_iff.mpr fun z => h ?_
    obtain ⟨x, hx, e⟩ := List.any_eq_true.mp z
    have e2 : (x == n) = true := e
    rw [← eq_of_beq e2]
    exact hx
theorem inV_non (ns : List Int) : inV .non (ns.map V.int) = false := by
  unfold inV
  rw [List.any_map]
  exact Bool.eq_false_iff.mpr fun z => by
    obtain ⟨x, _, e⟩ := List.any_eq_true.mp z
    cases e
end TR
namespace TR
open PySem L2
/-! ### data at any depth -/
structure Sh (k : Nat) (d : PyData) : Prop where
  lay : d.canLay0 = true
  dep : d.depth ≤ k
theorem Sh.shaped {k : Nat} {d : PyData} (h : Sh k d) (hk : k ≤ 64) : SeqAt.shaped d = true := by
  unfold SeqAt.shaped
  rw [h.lay, decide_eq_true (Nat.le_trans h.dep hk)]
  rfl
theorem Sh.mono {j k : Nat} {d : PyData} (h : Sh j d) (hk : j ≤ k) : Sh k d := ⟨h.lay, Nat.le_trans h.dep hk⟩
theorem sh_non {k : Nat} : Sh k .none := ⟨by simp only [PyData.canLay0], by simp only [PyData.depth]; exact Nat.zero_le _⟩
theorem sh_bl {k : Nat} (b : Bool) : Sh k (.bool b) := ⟨by simp only [PyData.canLay0], by simp only [PyData.depth]; exact Nat.zero_le _⟩
theorem sh_int {k : Nat} (i : Int) : Sh k (.int i) := ⟨by simp only [PyData.canLay0], by simp only [PyData.depth]; exact Nat.zero_le _⟩
theorem sh_str {k : Nat} {x : Str} (h : PyData.strOk x = true) : Sh k (.str x) := ⟨by simp only [PyData.canLay0]; exact h, by simp only [PyData.depth]; exact Nat.zero_le _⟩
theorem sh_all {k : Nat} : ∀ {ds : List PyData}, (∀ d ∈ ds, Sh k d) → PyData.canLayAll0 ds = true ∧ PyData.depthAll ds ≤ k
  | [], _ => ⟨by simp only [PyData.canLayAll0], by simp only [PyData.depthAll]; exact Nat.zero_le _⟩
  | d :: ds, h => by
    have h1 := h d List.mem_cons_self
    have h2 := sh_all fun e he => h e (List.mem_cons_of_mem _ he)
    refine ⟨?_, ?_⟩
    · simp only [PyData.canLayAll0]
      rw [h1.lay, h2.1]
      rfl
    · simp only [PyData.depthAll]
      exact Nat.max_le.mpr ⟨h1.dep, h2.2⟩
theorem sh_list {k : Nat} {ds : List PyData} (h : ∀ d ∈ ds, Sh k d) : Sh (k + 1) (.list ds) := by
  obtain ⟨h1, h2⟩ := sh_all h
  exact ⟨by simp only [PyData.canLay0]; exact h1, by simp only [PyData.depth]; omega⟩
theorem sh_tup {k : Nat} {ds : List PyData} (h : ∀ d ∈ ds, Sh k d) : Sh (k + 1) (.tuple ds) := by
  obtain ⟨h1, h2⟩ := sh_all h
  exact ⟨by simp only [PyData.canLay0]; exact h1, by simp only [PyData.depth]; omega⟩
theorem sh_nil {k : Nat} : ∀ d ∈ ([] : List PyData), Sh k d := fun _ h => nomatch h
theorem sh_cons {k : Nat} {d : PyData} {ds : List PyData} (h : Sh k d) (h2 : ∀ d ∈ ds, Sh k d) : ∀ e ∈ d :: ds, Sh k e := fun e he => by
  rcases List.mem_cons.mp he with rfl | he
  · exact h
  · exact h2 e he
theorem sh_ints {k : Nat} (ns : List Int) : ∀ d ∈ ns.map PyData.int, Sh k d := fun d hd => by
  obtain ⟨i, _, rfl⟩ := List.mem_map.mp hd
  exact sh_int i
theorem dpAll_ints {K : PySem.W.Frag} {H : Hp} : ∀ ns : List Int, DpAll K H (ns.map V.int) (ns.map PyData.int)
  | [] => .nil
  | n :: ns => .cons (.int n) (dpAll_ints ns)
theorem dp_ints {K : PySem.W.Frag} {H : Hp} {a : Addr} {ns : List Int} (h : SqL K H a (ns.map V.int)) : Dp K H (.ref a) (.list (ns.map PyData.int)) := .lst h (dpAll_ints ns)
@[irreducible] def xEqD (K : PySem.W.Frag) : R2 := rEqD K
@[irreducible] def xNeD (K : PySem.W.Frag) : R2 := rNeD K
section
variable {X : Cx}
theorem my_eqD (hu : X.A.units + 64 < cLine) : OpR X (compareOp .Eq) (xEqD X.K) := by unfold xEqD; exact op_eqD hu
theorem my_neD (hu : X.A.units + 64 < cLine) : OpR X (compareOp .NotEq) (xNeD X.K) := by unfold xNeD; exact op_neD hu
end
section
variable {K : PySem.W.Frag} {H : Hp} {x y : V} {d e : PyData} {Q : VK} {k : Nat}
theorem st_eqD (hx : Dp K H x d) (hy : Dp K H y e) (s : Sh 64 d) (s2 : Sh 64 e) (h : Q (.bl (PyData.eqv d e)) H) : xEqD K x y H Q := by
  unfold xEqD; exact ⟨d, e, hx, hy, s.shaped (Nat.le_refl _), s2.shaped (Nat.le_refl _), h⟩
theorem st_neD (hx : Dp K H x d) (hy : Dp K H y e) (s : Sh 64 d) (s2 : Sh 64 e) (h : Q (.bl (!PyData.eqv d e)) H) : xNeD K x y H Q := by
  unfold xNeD; exact ⟨d, e, hx, hy, s.shaped (Nat.le_refl _), s2.shaped (Nat.le_refl _), h⟩
theorem st_eqS (hx : Dp K H x d) (hy : Dp K H y d) (s : Sh 64 d) (h : Q (.bl true) H) : xEqD K x y H Q := st_eqD hx hy s s (by rw [SeqAt.eqv_refl d s.lay]; exact h)
theorem st_neS (hx : Dp K H x d) (hy : Dp K H y d) (s : Sh 64 d) (h : Q (.bl false) H) : xNeD K x y H Q := st_neD hx hy s s (by rw [SeqAt.eqv_refl d s.lay]; exact h)
end
theorem sorted_same {a b : List Int} (hp : a.Perm b) (ha : a.Pairwise (· ≤ ·)) (hb : b.Pairwise (· ≤ ·)) : a = b :=
  hp.eq_of_pairwise (fun _ _ _ _ h1 h2 => Int.le_antisymm h1 h2) ha hb
/-- the ints a .. b - 1 -/
def rgI (a b : Int) : List Int := (List.range (b - a).toNat).map fun (i : Nat) => a + (i : Int)
theorem rgV_eq (a b : Int) : rgV a b = (rgI a b).map V.int := by unfold rgV rgI; rw [List.map_map]; rfl
theorem rgI_len (a b : Int) : (rgI a b).length = (b - a).toNat := by unfold rgI; rw [List.length_map, List.length_range]
theorem rgI_sorted (a b : Int) : (rgI a b).Pairwise (· ≤ ·) := by
  unfold rgI
  rw [List.pairwise_map]
  exact List.pairwise_lt_range.imp fun h => by omega
/-! ### sorted, repeated lists, comprehensions -/
@[irreducible] def xSorted (K : PySem.W.Frag) : List V → Hp → VK → Prop := rSorted K
@[irreducible] def xRep : R2 := rRep
section
variable {X : Cx}
theorem my_sorted : CallR X (.builtin "sorted") (xSorted X.K) := by unfold xSorted; exact cr_sorted
theorem my_rep : OpR X (binaryOp .Mult) xRep := by unfold xRep; exact op_rep
theorem my_lc {elt tg iter : Expr} {ifs : List Expr} {scope : Scope} {own : List (Str × Nat)} {pos : Pos} {wi : TI} {g : TG} {tt : TT} {te : TE} (hc : X.calm = true) (hN : X.N.Nodup) (hi : PI X tg iter wi) (ok : BlkOk X.N X.env.scope scope own)
    (hg : ∀ (s : Shared) (H : Hp) (C : Addr) (cl : List (Str × Addr)) (fp : List Addr), PG (X.blk s H scope (compEnvC scope cl C X.env) fp) tg g)
    (ht : ∀ (s : Shared) (H : Hp) (C : Addr) (cl : List (Str × Addr)) (fp : List Addr), PTs (X.blk s H scope (compEnvC scope cl C X.env) fp) ifs tt)
    (he : ∀ (s : Shared) (H : Hp) (C : Addr) (cl : List (Str × Addr)) (fp : List Addr), PE (X.blk s H scope (compEnvC scope cl C X.env) fp) elt te) (hs : ∀ x, foldedSetIterable iter X.env x = pure x := by intro _; rfl) :
    PE X (.ListComp elt [⟨tg, iter, ifs, 0⟩] scope pos) (uLc wi g tt te (own.map (·.2))) := by rw [uLc_eq]; exact pe_lc hc hN hi ok hg ht he hs
theorem my_setLc {i : Nat} {y : Str} {py : Pos} {elt tg iter : Expr} {ifs : List Expr} {scope : Scope} {own : List (Str × Nat)} {pos spos : Pos} {wi : TI} {g : TG} {tt : TT} {te : TE} (hc : X.calm = true) (hN : X.N.Nodup) (hy : X.N[i]? = some y) (hyl : X.env.scope.names.lookup y = some .local)
    (hsw : swapsWith (.ListComp elt [⟨tg, iter, ifs, 0⟩] scope pos) (some (.Name y py)) spos.line X.env = pure true) (hi : PI X tg iter wi) (ok : BlkOk X.N X.env.scope scope own)
    (hg : ∀ (s : Shared) (H : Hp) (C : Addr) (cl : List (Str × Addr)) (fp : List Addr), PG (X.blk s H scope (compEnvC scope cl C X.env) fp) tg g)
    (ht : ∀ (s : Shared) (H : Hp) (C : Addr) (cl : List (Str × Addr)) (fp : List Addr), PTs (X.blk s H scope (compEnvC scope cl C X.env) fp) ifs tt)
    (he : ∀ (s : Shared) (H : Hp) (C : Addr) (cl : List (Str × Addr)) (fp : List Addr), PE (X.blk s H scope (compEnvC scope cl C X.env) fp) elt te) (hs : ∀ x, foldedSetIterable iter X.env x = pure x := by intro _; rfl) :
    PS X (.Assign [.Name y py] (.ListComp elt [⟨tg, iter, ifs, 0⟩] scope pos) spos) (tAsg (uLc wi g tt te (own.map (·.2))) (gName i)) := by rw [uLc_eq]; exact ps_setLc hc hN hy hyl hsw hi ok hg ht he hs
end
section
variable {K : PySem.W.Frag} {H0 H : Hp} {L : List Ent} {a : Addr} {xs : List V} {g : TG} {tt : TT} {te : TE} {vs : List Nat} {σ : L2.St} {Q : VK}
theorem st_sorted {ns : List Int} (w : W H0 H L) (hs : SqL K H a (ns.map V.int)) (hl : ns.length < 64) (k : ∀ (ns' : List Int) p H', ns'.Perm ns → ns'.Pairwise (· ≤ ·) → W H0 H' ((p, .lst (ns'.map V.int)) :: L) → Q (.ref p) H') : xSorted K [.ref a] H Q := by
  unfold xSorted; exact ⟨a, ns, rfl, hs, hl, fun ns' p h1 h2 hp => k ns' p _ h1 h2 (w.new _ hp)⟩
theorem st_rep {n : Int} (w : W H0 H L) (i : Nat) (h : L[i]? = some (a, .lst xs)) (h0 : 0 ≤ n) (h1 : n ≤ 1000) (hz : xs.length * n.toNat ≤ 10000) (k : ∀ p H', W H0 H' ((p, .lst (List.replicate n.toNat xs).flatten) :: L) → Q (.ref p) H') : xRep (.ref a) (.int n) H Q := by
  unfold xRep; exact ⟨a, n, xs, rfl, rfl, w.get i h, by omega, by omega, szE (by omega), fun p hp => k p _ (w.new _ hp)⟩
/-- a comprehension's turn has an item -/
@[irreducible] def xAcc (D : Addr) (P : Hp → Prop) (y : V) (H : Hp) : Prop := ∃ acc, H D = some (.lst acc) ∧ acc.length < sizeLine ∧ P (upd H D (.lst (acc ++ [y])))
theorem st_acc {D : Addr} {acc : List V} {y : V} {P : Hp → Prop} (w : W H0 H L) (i : Nat) (h : L[i]? = some (D, .lst acc)) (hz : acc.length < sizeLine) (k : ∀ H', W H0 H' (L.set i (D, .lst (acc ++ [y]))) → P H') : xAcc D P y H := by
  unfold xAcc; exact ⟨acc, w.get i h, hz, k _ (w.set i _ h rfl)⟩
/-- one turn -/
abbrev LcTurn (g : TG) (tt : TT) (te : TE) (vs : List Nat) (σ : L2.St) (D : Addr) (P : Hp → Prop) (x : V) (H : Hp) : Prop :=
  g x (wipe σ vs) H fun σ2 H2 => wipe σ2 vs = wipe σ vs ∧ tt σ2 H2 fun b H3 => xIf b (te σ2 H3 fun y H4 => xAcc D P y H4) (P H3)
theorem st_lcL (Pv : Addr → Nat → Hp → Prop) (w : W H0 H L) (h0 : ∀ D H', W H0 H' ((D, .lst []) :: L) → Pv D 0 H') (hl : ∀ D i H, i ≤ xs.length → Pv D i H → SqL K H a xs)
    (hs : ∀ D i x H, xs[i]? = some x → Pv D i H → LcTurn g tt te vs σ D (Pv D (i + 1)) x H) (hd : ∀ D H, Pv D xs.length H → Q (.ref D) H) : xLc (Itl K a) g tt te vs σ H Q := by
  unfold LcTurn xIf xAcc at hs
  unfold xLc; exact fun D hD => lc_list (Pv D) (h0 D _ (w.new _ hD)) (hl D) (hs D) (hd D)
theorem st_lcR {lo : Int} {n : Nat} (Pv : Addr → Nat → Hp → Prop) (w : W H0 H L) (h0 : ∀ D H', W H0 H' ((D, .lst []) :: L) → Pv D 0 H')
    (hs : ∀ D i H, i < n → Pv D i H → LcTurn g tt te vs σ D (Pv D (i + 1)) (.int (lo + (i : Int))) H) (hd : ∀ D H, Pv D n H → Q (.ref D) H) : xLc (Itr lo n) g tt te vs σ H Q := by
  unfold LcTurn xIf xAcc at hs
  unfold xLc; exact fun D hD => lc_range (Pv D) (h0 D _ (w.new _ hD)) (hs D) (hd D)
theorem st_lcT (Pv : Addr → Nat → Hp → Prop) (w : W H0 H L) (h0 : ∀ D H', W H0 H' ((D, .lst []) :: L) → Pv D 0 H') (hl : ∀ D i H, i ≤ xs.length → Pv D i H → SqT K H a xs)
    (hs : ∀ D i x H, xs[i]? = some x → Pv D i H → LcTurn g tt te vs σ D (Pv D (i + 1)) x H) (hd : ∀ D H, Pv D xs.length H → Q (.ref D) H) : xLc (Itt K a) g tt te vs σ H Q := by
  unfold LcTurn xIf xAcc at hs
  unfold xLc; exact fun D hD => lc_tup (Pv D) (h0 D _ (w.new _ hD)) (hl D) (hs D) (hd D)
end
end TR
namespace TR
open PySem PySem.Spec PyProof.Rows L2
/-! ### texts: sorted keys, joined signs, comprehensions over a text -/
@[irreducible] def xSortD : V → Hp → VK → Prop := fun x H Q => ∃ (a : Addr) (kvs : List (Key × V)) (ks : List Str), x = .ref a ∧ H a = some (.dK kvs) ∧ kvs.map (·.1) = ks.map Sum.inr ∧ ks.length < 64 ∧
  ∀ ys p, ys.Perm ks → sortedS ys = true → H p = none → Q (.ref p) (upd H p (.lst (ys.map V.str)))
def uSortD (td : TE) : TE := fun σ H Q => td σ H fun x H1 => xSortD x H1 Q
@[irreducible] def xJoin (K : PySem.W.Frag) : V → List V → Hp → VK → Prop := fun x xs H Q => ∃ a p, ∃ ys : List Str, x = .str a ∧ xs = [.ref p] ∧ (SqL K H p (ys.map V.str) ∨ SqT K H p (ys.map V.str)) ∧
  (ys.map (·.length)).sum + ys.length * a.length ≤ 16777216 ∧ Q (.str (Txt.join a ys)) H
@[irreducible] def xIxS : R2 := rIxS
section
variable {X : Cx}
theorem my_ixS : IxR X xIxS := by unfold xIxS; exact ix_str
theorem my_join {o e : Expr} {to te : TE} {apos pos : Pos} (ho : PE X o to) (he : PE X e te) (hs : starEach [e] X.env = [(false, eval e X.env)] := by rfl) (hbase : attributeBase o "join" X.env (eval o X.env) = eval o X.env := by rfl) (hline : (apos.endLine == pos.line) = true := by rfl) :
    PE X (.Call (.Attribute o "join" apos) [e] [] pos) (tM1 (xJoin X.K) to te) := by
  unfold xJoin; exact pe_join ho he hs hbase hline
theorem my_dget2 {o e f : Expr} {td ty tx : TE} {apos cpos : Pos} (hu : X.A.units + 1 < cLine) (ho : PE X o td) (he : PE X e ty) (hf : PE X f tx)
    (base : attributeBase o "get" X.env (eval o X.env) = eval o X.env := by rfl)
    (few : ((backTo cpos (starEach [e, f] X.env)).all (fun x => !x.1) && (backToKw cpos (keywordEach [] X.env)).all (fun x => x.1.isSome)
      && decide (([e, f] : List Expr).length + ([] : List Keyword).length + (if ([] : List Keyword).isEmpty then 0 else 1) < 30)) = true := by rfl)
    (line : (apos.endLine == cpos.line) = true := by rfl)
    (trees : backTo cpos (starEach [e, f] X.env) = [(false, eval e X.env), (false, eval f X.env)] := by rfl) : PE X (.Call (.Attribute o "get" apos) [e, f] [] cpos) (tDGet2 td ty tx) :=
  pe_dget2 hu ho he hf ⟨base, few, line, trees⟩
theorem my_sortedKeys {o : Expr} {td : TE} {p pos apos cpos : Pos} (hcalm : X.calm = true) (hg : Gl X "sorted") (hm : X.mg "sorted" = none) (ho : PE X o td)
    (hbase : attributeBase o "keys" X.env (eval o X.env) = eval o X.env := by rfl) (hline : (apos.endLine == cpos.line) = true := by rfl)
    (he : starEach [.Call (.Attribute o "keys" apos) [] [] cpos] X.env = (false, eval (.Call (.Attribute o "keys" apos) [] [] cpos) X.env) :: starEach [] X.env := by rfl) :
    PE X (.Call (.Name "sorted" p) [.Call (.Attribute o "keys" apos) [] [] cpos] [] pos) (uSortD td) := by
  refine ⟨fun pins s σ H Q I h => ?_⟩
  refine wpAny_Call_Name_kw (ld_blt I hg hm (u := .builtin "sorted") (by decide +kernel) ?_ (by decide) (by decide))
  refine PyProof.Rows.callWith_builtin1 ?_ he rfl
  rw [he]
  refine Calls.spliced_cons ?_
  refine wpAny_Call_method (T := "dict") (id := "dict.keys") hbase rfl hline F.plainAttrs_dict F.slot_dict_keys F.type_dict_keys (thn (ho.run pins s σ H _ I h) fun u s1 ⟨x, H1, I1, rx, q⟩ => ?_)
  unfold xSortD at q
  obtain ⟨a, kvs, ks, ex, hd, hks, h64, q⟩ := q
  subst ex
  obtain rfl : u = Value.ref a := rx
  obtain ⟨z, lo, vs, rel, dd⟩ := dk_of I1.hok hd
  refine ⟨dd.typeIs, dd.mapOf.noDict, ?_⟩
  obtain ⟨ep, hat⟩ := dd.dictAt
  have I2 : Inv X pins σ H1 { s1 with heap := s1.heap.push { cls := .type "dict_keys", data := .fields #[.ref a] } } := I1.kept (t' := s1.toks) fun b ob q => Heap.get?_push_of_some _ q
  refine method_meetsIn F.slot_dict_keys F.entry_dict_keys rfl (PySem.evalArgs_none ⟨rfl, dd.typeIs, F.args_dict_keys_1 _, _, PySem.W.kdl_meets_keys (mixKind X.prog X.w) a lo, ⟨vs, dd⟩, ?_⟩)
  refine Calls.spliced_nil ?_
  have hkeys : vs.map (·.1) = ks.map Sum.inr := rel.keys.symm.trans hks
  have hl : vs.length = ks.length := by
    have e := congrArg List.length hkeys
    rw [List.length_map, List.length_map] at e
    exact e
  have h16 : vs.length ≤ sizeLine := by rw [hl, sizeLine_eq]; omega
  have hat2 := hat.push { cls := .type "dict_keys", data := .fields #[.ref a] }
  refine Calls.call_function_entry PyProof.Rows.kind_sorted PyProof.Rows.plain_sorted PyProof.Rows.entry_sorted (PyProof.Rows.args_sorted1 _) ?_
  unfold Builtin.«sorted»
  refine wpAny_bind (m := checkCount "sorted" 1 1 _) (wpAny_pure ?_)
  refine wpAny_bind (PySem.W.kdu_collect (A := X.A.in1) (PySem.W.kdl_keys (knd := mixKind X.prog X.w) (kvs := vs) (ep := ep)) (I2.ok.hd hcalm) ⟨⟨_, Heap.get?_push_size _ rfl, rfl, rfl⟩, hat2⟩ h16 fun h' tk acc hk hacc => ?_)
  have hal : acc.toList.length = ks.length := by rw [Array.length_toList, hacc.1, hl]
  have hS : StrsAre acc.toList ks := strs_at hal fun j v e => by
    obtain ⟨k, x, e1, e2⟩ := hacc.2 j v (by rw [← Array.getElem?_toList]; exact e)
    have e3 : (vs.map (·.1))[j]? = some k := by rw [List.getElem?_map, e1]; all_goals rfl
    rw [hkeys, List.getElem?_map] at e3
    cases e4 : ks[j]? with
    | none => rw [e4] at e3; cases e3
    | some y =>
      rw [e4] at e3
      have e5 : Sum.inr y = k := Option.some.inj e3
      subst e5
      obtain ⟨t, ev⟩ := Value.isStrOf_shape (x := y) (v := v) e2
      exact ⟨y, t, rfl, ev⟩
  have I3 : Inv X pins σ H1 { s1 with heap := h', toks := tk } := I2.kept (t' := tk) hk
  refine wpAny_bind (wpAny_newList ?_ (by rw [hal, sizeLine_eq]; omega))
  have hoL : (h'.push (seqObj "list" acc.toList.toArray 0)).get? h'.objs.size = some (seqObj "list" acc.toList.toArray 0) := Heap.get?_push_size _ rfl
  show wpAny _ _ _ _ _ { s1 with heap := h'.push (seqObj "list" acc.toList.toArray 0), toks := tk }
  refine wpAny_bind (wpAny_holding (wpAny_call_entry PyProof.Rows.slot_list_sort ⟨_, hoL, rfl⟩ PyProof.Rows.entry_list_sort
    (list_sort_treeK strKind_oneLt (s := { s1 with heap := h'.push (seqObj "list" acc.toList.toArray 0), toks := tk }) hoL hS.keysOf (fun v₁ v₂ rest e => keyKind_strs (by rw [← e]; exact hS)) (by rw [hal]; exact h64) fun st' hp hs => ⟨_, rfl, ?_⟩)
    (PyProof.Rows.args_list_sort _)))
  obtain ⟨ys, g1, g2, g3⟩ := sorted_out_str hS hp hs
  obtain ⟨e', he'⟩ := PyProof.Rows.sortedHeap_at (vs := acc.toList) (out := (arrOf st').map (·.2)) hoL
  have hlen : (ys.map V.str).length ≤ sizeLine := by
    rw [List.length_map, g2.length_eq]
    exact Nat.le_trans (Nat.le_of_lt h64) (by decide)
  refine wpAny_pure ⟨_, rfl, .ref h'.objs.size, upd H1 h'.objs.size (.lst (ys.map V.str)), I3.laid (t' := tk) (fun b u e => ?_) (Nat.le_refl _)
    (show ObjOk X.prog X.w _ _ _ (.lst (ys.map V.str)) from ⟨hlen, ((arrOf st').map (·.2)).toList, e', vals_of_strs g1, by rw [Array.toArray_toList]; exact he'⟩), rfl, q ys _ g2 g3 (I3.hok.fresh (Nat.le_refl _))⟩
  have hb : b < h'.objs.size := Heap.lt_size e
  rw [PyProof.Rows.sortedHeap_old (Nat.ne_of_lt hb) (by rw [size_push']; exact Nat.lt_succ_of_lt hb)]
  exact Heap.get?_push_of_some _ e
end
section
variable {K : PySem.W.Frag} {H0 H : Hp} {L : List Ent} {a : Addr} {g : TG} {tt : TT} {te : TE} {vs : List Nat} {σ : L2.St} {Q : VK}
theorem st_sortD {kvs : List (Key × V)} {ks : List Str} (w : W H0 H L) (i : Nat) (h : L[i]? = some (a, .dK kvs)) (hk : kvs.map (·.1) = ks.map Sum.inr) (hl : ks.length < 64)
    (k : ∀ ys p H', ys.Perm ks → sortedS ys = true → W H0 H' ((p, .lst (ys.map V.str)) :: L) → Q (.ref p) H') : xSortD (.ref a) H Q := by
  unfold xSortD; exact ⟨a, kvs, ks, rfl, w.get i h, hk, hl, fun ys p h1 h2 hp => k ys p _ h1 h2 (w.new _ hp)⟩
theorem st_join {x : Str} {ys : List Str} (hs : SqL K H a (ys.map V.str)) (hl : (ys.map (·.length)).sum + ys.length * x.length ≤ 16777216) (k : Q (.str (Txt.join x ys)) H) : xJoin K (.str x) [.ref a] H Q := by
  unfold xJoin; exact ⟨x, a, ys, rfl, rfl, .inl hs, hl, k⟩
theorem st_ixS {z : Str} {i : Int} {j c : Nat} (hz : z.length ≤ sizeLine) (e : i = (j : Int)) (h : z.cps.toList[j]? = some c) (k : Q (.str ⟨#[c]⟩) H) : xIxS (.str z) (.int i) H Q := by
  unfold xIxS
  refine ⟨z, i, c, rfl, rfl, hz, ?_, k⟩
  unfold atI
  rw [ix_of e (List.getElem?_eq_some_iff.mp h).1]
  exact h
theorem st_lcS {x : Str} (Pv : Addr → Nat → Hp → Prop) (w : W H0 H L) (h0 : ∀ D H', W H0 H' ((D, .lst []) :: L) → Pv D 0 H')
    (hs : ∀ D i c H, x.cps.toList[i]? = some c → Pv D i H → LcTurn g tt te vs σ D (Pv D (i + 1)) (.str ⟨#[c]⟩) H) (hd : ∀ D H, Pv D x.cps.toList.length H → Q (.ref D) H) : xLc (Its x) g tt te vs σ H Q := by
  unfold LcTurn xIf xAcc at hs
  unfold xLc
  refine fun D hD => ⟨fun i m H => m = x.cps.toList.length - i ∧ i ≤ x.cps.toList.length ∧ Pv D i H, ⟨x.cps.toList.length, by simp, Nat.zero_le _, h0 D _ (w.new _ hD)⟩, ?_⟩
  rintro i m H ⟨rfl, hi, p⟩
  have es : x.cps.size = x.cps.toList.length := by simp
  by_cases hlt : i < x.cps.toList.length
  · refine .inr ⟨(by show i < x.cps.size; omega), Pv D (i + 1), fun H' p' => ⟨x.cps.toList.length - (i + 1), by omega, rfl, hlt, p'⟩, fun y H' yy => ?_⟩
    obtain ⟨e, c, hc, rfl⟩ := yy
    subst e
    exact hs D i c _ (by rw [Array.getElem?_toList]; exact hc) p
  · have e : i = x.cps.toList.length := by omega
    subst e
    exact .inl ⟨(by show x.cps.size ≤ _; omega), hd D H p⟩
end
/-- two rows in the order that hold the same texts are the same -/
theorem risingS_iff : ∀ (p : Str) (l : List Str), risingS p l = true → (p :: l).Pairwise (fun a b => ltCps b.cps.toList a.cps.toList = false)
  | p, [], _ => List.pairwise_singleton _ _
  | p, x :: r, h => by
    unfold risingS at h
    obtain ⟨h1, h2⟩ := Bool.and_eq_true_iff.mp h
    have h3 := risingS_iff x r h2
    refine List.pairwise_cons.mpr ⟨fun y hy => ?_, h3⟩
    have h1' : ltCps x.cps.toList p.cps.toList = false := by simpa using h1
    rcases List.mem_cons.mp hy with rfl | hy
    · exact h1'
    · have h4 := List.rel_of_pairwise_cons h3 hy
      rw [ltCps_eq] at h1' h4 ⊢
      have a1 := of_decide_eq_false h1'
      have a2 := of_decide_eq_false h4
      exact decide_eq_false (List.not_lt.mpr (List.le_trans (List.not_lt.mp a1) (List.not_lt.mp a2)))
theorem sortedS_iff : ∀ {l : List Str}, sortedS l = true → l.Pairwise (fun a b => ltCps b.cps.toList a.cps.toList = false)
  | [], _ => .nil
  | x :: r, h => risingS_iff x r h
theorem sortedS_same {a b : List Str} (hp : a.Perm b) (ha : sortedS a = true) (hb : sortedS b = true) : a = b :=
  hp.eq_of_pairwise (fun x y _ _ h1 h2 => by
    rw [ltCps_eq] at h1 h2
    have a1 := of_decide_eq_false h1
    have a2 := of_decide_eq_false h2
    have e := List.le_antisymm (List.not_lt.mp a2) (List.not_lt.mp a1)
    cases x with | mk cx => cases y with | mk cy => exact congrArg Str.mk (Array.toList_inj.mp e.symm)) (sortedS_iff ha) (sortedS_iff hb)
theorem dpAll_strs {K : PySem.W.Frag} {H : Hp} : ∀ ns : List Str, DpAll K H (ns.map V.str) (ns.map PyData.str)
  | [] => .nil
  | n :: ns => .cons (.str n) (dpAll_strs ns)
theorem dp_strs {K : PySem.W.Frag} {H : Hp} {a : Addr} {ns : List Str} (h : SqL K H a (ns.map V.str)) : Dp K H (.ref a) (.list (ns.map PyData.str)) := .lst h (dpAll_strs ns)
theorem sh_strs {k : Nat} {ns : List Str} (h : ∀ x ∈ ns, PyData.strOk x = true) : ∀ d ∈ ns.map PyData.str, Sh k d := fun d hd => by
  obtain ⟨i, hi, rfl⟩ := List.mem_map.mp hd
  exact sh_str (h i hi)
theorem inV_strs (ns : List Str) (n : Str) : inV (.str n) (ns.map V.str) = decide (n ∈ ns) := by
  unfold inV
  rw [List.any_map]
  by_cases h : n ∈ ns
  · rw [decide_eq_true h]
    exact List.any_eq_true.mpr ⟨n, h, by show (n == n) = true; exact beq_self_eq_true n⟩
  · rw [decide_eq_false h]
    refine Bool.eq_false_iff.mpr fun z => h ?_
    obtain ⟨x, hx, e⟩ := List.any_eq_true.mp z
    have e2 : (x == n) = true := e
    rw [← eq_of_beq e2]
    exact hx
end TR
namespace TR
open PySem PySem.Spec PyProof.Rows L2
/-! ### the head's facts: what the module's names reach, level by level -/
def grow1 (g : Addr → Option Obj) (as : List Addr) : List Addr := as.flatMap fun a => match g a with
  | some o => He.refsD o
  | none => []
/-- forced, so that it is reckoned once -/
def frL {α : Type} (l : List Addr) (k : List Addr → α) : α := match l with
  | [] => k []
  | a :: r => HandSHeadRun.frNat a fun a => frL r fun r => k (a :: r)
theorem frL_eq {α : Type} : ∀ (l : List Addr) (k : List Addr → α), frL l k = k l
  | [], _ => rfl
  | a :: r, k => by
    show HandSHeadRun.frNat a (fun a => frL r fun r => k (a :: r)) = k (a :: r)
    rw [HandSHeadRun.frNat_eq, frL_eq r]
def asM (g : Addr → Option Obj) : List Addr := frL (grow1 g [mainGlobals]) fun l1 => frL (grow1 g l1).eraseDups fun l2 => frL (grow1 g l2).eraseDups fun l3 => frL (grow1 g l3).eraseDups fun l4 => mainGlobals :: (l1 ++ (l2 ++ (l3 ++ l4)))
abbrev AlM : Type := He.AlD × Bool
def obsK (fa : List He.Fa) (fn : List He.DefD) (ex : PySem.W.Frag → Bool) (K : PySem.W.Frag) : AlM := (He.obsD fa fn K, ex K)
def obsM (fa : List He.Fa) (fn : List He.DefD) (ex : PySem.W.Frag → Bool) (g : Addr → Option Obj) : AlM := frL (asM g) fun as => obsK fa fn ex (He.frG g as)
structure SaysM (fa : List He.Fa) (fn : List He.DefD) (ex : PySem.W.Frag → Bool) (K : PySem.W.Frag) : Prop where
  d : He.SaysD fa fn K
  more : ex K = true
theorem saysM_of {fa : List He.Fa} {fn : List He.DefD} {ex : PySem.W.Frag → Bool} {h : Heap} (e : obsM fa fn ex h.get? = (He.valD fn, true)) : ∃ K : PySem.W.Frag, K.In h ∧ SaysM fa fn ex K := by
  unfold obsM at e
  rw [frL_eq] at e
  exact ⟨_, He.frG_in, congrArg (fun z : AlM => z.1) e, congrArg (fun z : AlM => z.2) e⟩
def hookM (fa : List He.Fa) (fn : List He.DefD) (ex : PySem.W.Frag → Bool) : PySem.W.Hook where
  α := AlM
  obs := fun s => obsM fa fn ex s.heap.get?
  val := fun _ => (He.valD fn, true)
  says := fun _ h => ∃ K : PySem.W.Frag, K.In h ∧ SaysM fa fn ex K
  of := fun _ _ e => saysM_of e
  keeps := fun _ _ _ ⟨K, hK, c⟩ k => ⟨K, PySem.W.Frag.In.keeps hK k, c⟩
theorem obsM_eq {fa : List He.Fa} {fn : List He.DefD} {ex : PySem.W.Frag → Bool} {g : Addr → Option Obj} {s : Shared} (h : ∀ a, g a = s.heap.get? a) : obsM fa fn ex g = (hookM fa fn ex).obs s := by
  have e : g = s.heap.get? := funext h
  rw [e] <;> rfl
/-- two looks at one run -/
theorem map2 {α β γ : Type} {o : Option α} {f : α → β} {g : α → γ} {b : β} {c : γ} (h1 : o.map f = some b) (h2 : o.map g = some c) : o.map (fun s => (f s, g s)) = some (b, c) := by
  cases o with
  | none => cases h1
  | some s =>
    cases h1
    cases h2
    rfl
theorem run_split {r : PySem.W.OpenRow} {q : Program} {H : PySem.W.Hook} {ob : PySem.W.SharedT → H.α} {M : Nat} {loose : List PySem.Str} {w : World}
    (h1 : ∀ os : OsState, (HandSHeadRun.endF (HandSHeadRun.stepQ (HandSHeadRun.denQ HandSHeadRun.tabQ) r.prog w) M r.prog w os).map (fun s => (HandSHeadRun.looksF r.prog (PySem.W.boot_heap w.params) s.abs, HandSHeadRun.seenQ q loose (PySem.importedModules r.prog.main.body) (fun s => PySem.W.xlAt q [] s && PySem.W.recOk r.toRowW.records s) s.abs)) = some (true, PySem.W.openGood q loose))
    (h2 : ∀ os : OsState, (HandSHeadRun.endF (HandSHeadRun.stepQ (HandSHeadRun.denQ HandSHeadRun.tabQ) r.prog w) M r.prog w os).map ob = some (H.val w)) : HandSHeadRun.RunEq r q H ob M loose w := by
  intro os
  have e := map2 (h1 os) (h2 os)
  cases o : HandSHeadRun.endF (HandSHeadRun.stepQ (HandSHeadRun.denQ HandSHeadRun.tabQ) r.prog w) M r.prog w os with
  | none => rw [o] at e; cases e
  | some s =>
    rw [o] at e
    have e1 := Option.some.inj e
    obtain ⟨e2, e3⟩ := Prod.mk.inj e1
    obtain ⟨e4, e5⟩ := Prod.mk.inj e2
    exact congrArg some (Prod.ext e4 (Prod.ext e5 e3))
end TR
namespace TR
open PySem L2
def top (i : Nat) : Stmt := PySem.Challenge.pw_tuneroad_k01_whole_shelves.main.body.getD i (.Pass ⟨0, 0, 0, 0⟩)
abbrev s_look_name : Stmt := top 11
abbrev N_look_name : List Str := ["name", "sign"]
abbrev P_look_name : List Str := ["name"]
theorem sc_look_name : FnScope N_look_name P_look_name (defScope s_look_name) := ⟨rfl, rfl, rfl, by decide +kernel, rfl, by decide +kernel, by decide +kernel⟩
abbrev s_Shelf_init__ : Stmt := inClass (top 12) 0
abbrev N_Shelf_init__ : List Str := ["self"]
abbrev P_Shelf_init__ : List Str := ["self"]
theorem sc_Shelf_init__ : FnScope N_Shelf_init__ P_Shelf_init__ (defScope s_Shelf_init__) := ⟨rfl, rfl, rfl, by decide +kernel, rfl, by decide +kernel, by decide +kernel⟩
abbrev s_Shelf_add : Stmt := inClass (top 12) 1
abbrev N_Shelf_add : List Str := ["self", "name", "long"]
abbrev P_Shelf_add : List Str := ["self", "name", "long"]
theorem sc_Shelf_add : FnScope N_Shelf_add P_Shelf_add (defScope s_Shelf_add) := ⟨rfl, rfl, rfl, by decide +kernel, rfl, by decide +kernel, by decide +kernel⟩
abbrev s_Shelf_need : Stmt := inClass (top 12) 2
abbrev N_Shelf_need : List Str := ["self", "name"]
abbrev P_Shelf_need : List Str := ["self", "name"]
theorem sc_Shelf_need : FnScope N_Shelf_need P_Shelf_need (defScope s_Shelf_need) := ⟨rfl, rfl, rfl, by decide +kernel, rfl, by decide +kernel, by decide +kernel⟩
abbrev s_Shelf_long : Stmt := inClass (top 12) 3
abbrev N_Shelf_long : List Str := ["self", "name"]
abbrev P_Shelf_long : List Str := ["self", "name"]
theorem sc_Shelf_long : FnScope N_Shelf_long P_Shelf_long (defScope s_Shelf_long) := ⟨rfl, rfl, rfl, by decide +kernel, rfl, by decide +kernel, by decide +kernel⟩
abbrev s_Shelf_names : Stmt := inClass (top 12) 4
abbrev N_Shelf_names : List Str := ["self"]
abbrev P_Shelf_names : List Str := ["self"]
theorem sc_Shelf_names : FnScope N_Shelf_names P_Shelf_names (defScope s_Shelf_names) := ⟨rfl, rfl, rfl, by decide +kernel, rfl, by decide +kernel, by decide +kernel⟩
abbrev s_law_cell : Stmt := top 14
abbrev N_law_cell : List Str := ["script", "k"]
abbrev P_law_cell : List Str := ["script", "k"]
theorem sc_law_cell : FnScope N_law_cell P_law_cell (defScope s_law_cell) := ⟨rfl, rfl, rfl, by decide +kernel, rfl, by decide +kernel, by decide +kernel⟩
abbrev s_law_mix : Stmt := top 15
abbrev N_law_mix : List Str := ["script", "k", "number"]
abbrev P_law_mix : List Str := ["script", "k"]
theorem sc_law_mix : FnScope N_law_mix P_law_mix (defScope s_law_mix) := ⟨rfl, rfl, rfl, by decide +kernel, rfl, by decide +kernel, by decide +kernel⟩
abbrev s_law_draw : Stmt := top 16
abbrev N_law_draw : List Str := ["script", "town", "many"]
abbrev P_law_draw : List Str := ["script", "town", "many"]
theorem sc_law_draw : FnScope N_law_draw P_law_draw (defScope s_law_draw) := ⟨rfl, rfl, rfl, by decide +kernel, rfl, by decide +kernel, by decide +kernel⟩
abbrev s_law_pick : Stmt := top 17
abbrev N_law_pick : List Str := ["script", "town", "some"]
abbrev P_law_pick : List Str := ["script", "town", "some"]
theorem sc_law_pick : FnScope N_law_pick P_law_pick (defScope s_law_pick) := ⟨rfl, rfl, rfl, by decide +kernel, rfl, by decide +kernel, by decide +kernel⟩
abbrev s_law_refusal : Stmt := top 18
abbrev N_law_refusal : List Str := ["held", "kinds"]
abbrev P_law_refusal : List Str := ["held"]
theorem sc_law_refusal : FnScope N_law_refusal P_law_refusal (defScope s_law_refusal) := ⟨rfl, rfl, rfl, by decide +kernel, rfl, by decide +kernel, by decide +kernel⟩
abbrev s_law_signs : Stmt := top 19
abbrev N_law_signs : List Str := ["found"]
abbrev P_law_signs : List Str := []
theorem sc_law_signs : FnScope N_law_signs P_law_signs (defScope s_law_signs) := ⟨rfl, rfl, rfl, by decide +kernel, rfl, by decide +kernel, by decide +kernel⟩
abbrev s_law_told : Stmt := top 20
abbrev N_law_told : List Str := ["shelf", "name", "long", "held", "found", "e"]
abbrev P_law_told : List Str := ["shelf", "name", "long"]
theorem sc_law_told : FnScope N_law_told P_law_told (defScope s_law_told) := ⟨rfl, rfl, rfl, by decide +kernel, rfl, by decide +kernel, by decide +kernel⟩
abbrev s_law : Stmt := top 21
abbrev N_law : List Str := ["script", "town", "shelf", "longs", "menu", "letters", "k", "name", "odd", "long", "due", "full", "some", "j", "sign"]
abbrev P_law : List Str := ["script"]
theorem sc_law : FnScope N_law P_law (defScope s_law) := ⟨rfl, rfl, rfl, by decide +kernel, rfl, by decide +kernel, by decide +kernel⟩
end TR
namespace TR
open PySem L2
structure Ads where
  c_RoadError : Addr
  c_BadTune : Addr
  c_BadNumber : Addr
  c_BadEntry : Addr
  c_BadWord : Addr
  c_Shelf : Addr
  f_look_name : Addr
  f_Shelf_init__ : Addr
  f_Shelf_add : Addr
  f_Shelf_need : Addr
  f_Shelf_long : Addr
  f_Shelf_names : Addr
  f_law_cell : Addr
  f_law_mix : Addr
  f_law_draw : Addr
  f_law_pick : Addr
  f_law_refusal : Addr
  f_law_signs : Addr
  f_law_told : Addr
  f_law : Addr
  d_look_name : FuncData
  d_Shelf_init__ : FuncData
  d_Shelf_add : FuncData
  d_Shelf_need : FuncData
  d_Shelf_long : FuncData
  d_Shelf_names : FuncData
  d_law_cell : FuncData
  d_law_mix : FuncData
  d_law_draw : FuncData
  d_law_pick : FuncData
  d_law_refusal : FuncData
  d_law_signs : FuncData
  d_law_told : FuncData
  d_law : FuncData
structure Txt (K : PySem.W.Frag) (mg : Str → Option Value) (A : Ads) : Prop where
  z_ValueError : mg "ValueError" = none
  z_all : mg "all" = none
  z_isinstance : mg "isinstance" = none
  z_len : mg "len" = none
  z_range : mg "range" = none
  z_sorted : mg "sorted" = none
  gi_SMALL : ∃ t, mg "SMALL" = some (.str "abcdefghijklmnopqrstuvwxyz" t)
  gi_MOST_NAME : ∃ t, mg "MOST_NAME" = some (.int 6 t)
  gi_MOST_TUNES : ∃ t, mg "MOST_TUNES" = some (.int 6 t)
  gi_MOST_LONG : ∃ t, mg "MOST_LONG" = some (.int 40 t)
  g_RoadError : mg "RoadError" = some (.ref A.c_RoadError)
  g_BadTune : mg "BadTune" = some (.ref A.c_BadTune)
  g_BadNumber : mg "BadNumber" = some (.ref A.c_BadNumber)
  g_BadEntry : mg "BadEntry" = some (.ref A.c_BadEntry)
  g_BadWord : mg "BadWord" = some (.ref A.c_BadWord)
  g_Shelf : mg "Shelf" = some (.ref A.c_Shelf)
  c_Shelf : Cls K A.c_Shelf
  M_Shelf : Mk K A.c_Shelf A.f_Shelf_init__
  n_Shelf_longs : NoAttr K A.c_Shelf "longs"
  x_RoadError : PySem.W.excIn K A.c_RoadError He.veBase "ValueError.__new__" = true
  k_RoadError : PySem.W.keepIn K (.ref A.c_RoadError) = true
  r_RoadError : PySem.W.subIn K (.ref A.c_RoadError) (.type "BaseException") = some true
  t_RoadError : PySem.W.typeIn K (.ref A.c_RoadError) = some (.type "type")
  e_RoadError : ExcC K A.c_RoadError
  m_RoadError : PySem.W.exmOne K (.ref A.c_RoadError) (.ref A.c_RoadError) = some true
  i_RoadError_RoadError : PySem.W.kitOne K (.ref A.c_RoadError) (.ref A.c_RoadError) = some true
  i_RoadError_BadTune : PySem.W.kitOne K (.ref A.c_RoadError) (.ref A.c_BadTune) = some false
  i_RoadError_BadNumber : PySem.W.kitOne K (.ref A.c_RoadError) (.ref A.c_BadNumber) = some false
  i_RoadError_BadEntry : PySem.W.kitOne K (.ref A.c_RoadError) (.ref A.c_BadEntry) = some false
  i_RoadError_BadWord : PySem.W.kitOne K (.ref A.c_RoadError) (.ref A.c_BadWord) = some false
  i_RoadError_ValueError : PySem.W.kitOne K (.ref A.c_RoadError) (.type "ValueError") = some true
  x_BadTune : PySem.W.excIn K A.c_BadTune He.veBase "ValueError.__new__" = true
  k_BadTune : PySem.W.keepIn K (.ref A.c_BadTune) = true
  r_BadTune : PySem.W.subIn K (.ref A.c_BadTune) (.type "BaseException") = some true
  t_BadTune : PySem.W.typeIn K (.ref A.c_BadTune) = some (.type "type")
  e_BadTune : ExcC K A.c_BadTune
  m_BadTune : PySem.W.exmOne K (.ref A.c_BadTune) (.ref A.c_RoadError) = some true
  i_BadTune_RoadError : PySem.W.kitOne K (.ref A.c_BadTune) (.ref A.c_RoadError) = some true
  i_BadTune_BadTune : PySem.W.kitOne K (.ref A.c_BadTune) (.ref A.c_BadTune) = some true
  i_BadTune_BadNumber : PySem.W.kitOne K (.ref A.c_BadTune) (.ref A.c_BadNumber) = some false
  i_BadTune_BadEntry : PySem.W.kitOne K (.ref A.c_BadTune) (.ref A.c_BadEntry) = some false
  i_BadTune_BadWord : PySem.W.kitOne K (.ref A.c_BadTune) (.ref A.c_BadWord) = some false
  i_BadTune_ValueError : PySem.W.kitOne K (.ref A.c_BadTune) (.type "ValueError") = some true
  x_BadNumber : PySem.W.excIn K A.c_BadNumber He.veBase "ValueError.__new__" = true
  k_BadNumber : PySem.W.keepIn K (.ref A.c_BadNumber) = true
  r_BadNumber : PySem.W.subIn K (.ref A.c_BadNumber) (.type "BaseException") = some true
  t_BadNumber : PySem.W.typeIn K (.ref A.c_BadNumber) = some (.type "type")
  e_BadNumber : ExcC K A.c_BadNumber
  m_BadNumber : PySem.W.exmOne K (.ref A.c_BadNumber) (.ref A.c_RoadError) = some true
  i_BadNumber_RoadError : PySem.W.kitOne K (.ref A.c_BadNumber) (.ref A.c_RoadError) = some true
  i_BadNumber_BadTune : PySem.W.kitOne K (.ref A.c_BadNumber) (.ref A.c_BadTune) = some false
  i_BadNumber_BadNumber : PySem.W.kitOne K (.ref A.c_BadNumber) (.ref A.c_BadNumber) = some true
  i_BadNumber_BadEntry : PySem.W.kitOne K (.ref A.c_BadNumber) (.ref A.c_BadEntry) = some false
  i_BadNumber_BadWord : PySem.W.kitOne K (.ref A.c_BadNumber) (.ref A.c_BadWord) = some false
  i_BadNumber_ValueError : PySem.W.kitOne K (.ref A.c_BadNumber) (.type "ValueError") = some true
  x_BadEntry : PySem.W.excIn K A.c_BadEntry He.veBase "ValueError.__new__" = true
  k_BadEntry : PySem.W.keepIn K (.ref A.c_BadEntry) = true
  r_BadEntry : PySem.W.subIn K (.ref A.c_BadEntry) (.type "BaseException") = some true
  t_BadEntry : PySem.W.typeIn K (.ref A.c_BadEntry) = some (.type "type")
  e_BadEntry : ExcC K A.c_BadEntry
  m_BadEntry : PySem.W.exmOne K (.ref A.c_BadEntry) (.ref A.c_RoadError) = some true
  i_BadEntry_RoadError : PySem.W.kitOne K (.ref A.c_BadEntry) (.ref A.c_RoadError) = some true
  i_BadEntry_BadTune : PySem.W.kitOne K (.ref A.c_BadEntry) (.ref A.c_BadTune) = some false
  i_BadEntry_BadNumber : PySem.W.kitOne K (.ref A.c_BadEntry) (.ref A.c_BadNumber) = some false
  i_BadEntry_BadEntry : PySem.W.kitOne K (.ref A.c_BadEntry) (.ref A.c_BadEntry) = some true
  i_BadEntry_BadWord : PySem.W.kitOne K (.ref A.c_BadEntry) (.ref A.c_BadWord) = some false
  i_BadEntry_ValueError : PySem.W.kitOne K (.ref A.c_BadEntry) (.type "ValueError") = some true
  x_BadWord : PySem.W.excIn K A.c_BadWord He.veBase "ValueError.__new__" = true
  k_BadWord : PySem.W.keepIn K (.ref A.c_BadWord) = true
  r_BadWord : PySem.W.subIn K (.ref A.c_BadWord) (.type "BaseException") = some true
  t_BadWord : PySem.W.typeIn K (.ref A.c_BadWord) = some (.type "type")
  e_BadWord : ExcC K A.c_BadWord
  m_BadWord : PySem.W.exmOne K (.ref A.c_BadWord) (.ref A.c_RoadError) = some true
  i_BadWord_RoadError : PySem.W.kitOne K (.ref A.c_BadWord) (.ref A.c_RoadError) = some true
  i_BadWord_BadTune : PySem.W.kitOne K (.ref A.c_BadWord) (.ref A.c_BadTune) = some false
  i_BadWord_BadNumber : PySem.W.kitOne K (.ref A.c_BadWord) (.ref A.c_BadNumber) = some false
  i_BadWord_BadEntry : PySem.W.kitOne K (.ref A.c_BadWord) (.ref A.c_BadEntry) = some false
  i_BadWord_BadWord : PySem.W.kitOne K (.ref A.c_BadWord) (.ref A.c_BadWord) = some true
  i_BadWord_ValueError : PySem.W.kitOne K (.ref A.c_BadWord) (.type "ValueError") = some true
  F_look_name : Fun K "look_name" "look_name" s_look_name A.f_look_name A.d_look_name
  b_look_name : Binds K A.d_look_name P_look_name []
  g_look_name : mg "look_name" = some (.ref A.f_look_name)
  k_look_name : PySem.W.keepIn K (.ref A.f_look_name) = true
  F_Shelf_init__ : Fun K "__init__" "Shelf.__init__" s_Shelf_init__ A.f_Shelf_init__ A.d_Shelf_init__
  b_Shelf_init__ : Binds K A.d_Shelf_init__ P_Shelf_init__ []
  m_Shelf_init__ : Meth K A.c_Shelf "__init__" A.f_Shelf_init__
  F_Shelf_add : Fun K "add" "Shelf.add" s_Shelf_add A.f_Shelf_add A.d_Shelf_add
  b_Shelf_add : Binds K A.d_Shelf_add P_Shelf_add []
  m_Shelf_add : Meth K A.c_Shelf "add" A.f_Shelf_add
  F_Shelf_need : Fun K "need" "Shelf.need" s_Shelf_need A.f_Shelf_need A.d_Shelf_need
  b_Shelf_need : Binds K A.d_Shelf_need P_Shelf_need []
  m_Shelf_need : Meth K A.c_Shelf "need" A.f_Shelf_need
  F_Shelf_long : Fun K "long" "Shelf.long" s_Shelf_long A.f_Shelf_long A.d_Shelf_long
  b_Shelf_long : Binds K A.d_Shelf_long P_Shelf_long []
  m_Shelf_long : Meth K A.c_Shelf "long" A.f_Shelf_long
  F_Shelf_names : Fun K "names" "Shelf.names" s_Shelf_names A.f_Shelf_names A.d_Shelf_names
  b_Shelf_names : Binds K A.d_Shelf_names P_Shelf_names []
  m_Shelf_names : Meth K A.c_Shelf "names" A.f_Shelf_names
  F_law_cell : Fun K "_law_cell" "_law_cell" s_law_cell A.f_law_cell A.d_law_cell
  b_law_cell : Binds K A.d_law_cell P_law_cell []
  g_law_cell : mg "_law_cell" = some (.ref A.f_law_cell)
  k_law_cell : PySem.W.keepIn K (.ref A.f_law_cell) = true
  F_law_mix : Fun K "_law_mix" "_law_mix" s_law_mix A.f_law_mix A.d_law_mix
  b_law_mix : Binds K A.d_law_mix P_law_mix []
  g_law_mix : mg "_law_mix" = some (.ref A.f_law_mix)
  k_law_mix : PySem.W.keepIn K (.ref A.f_law_mix) = true
  F_law_draw : Fun K "_law_draw" "_law_draw" s_law_draw A.f_law_draw A.d_law_draw
  b_law_draw : Binds K A.d_law_draw P_law_draw []
  g_law_draw : mg "_law_draw" = some (.ref A.f_law_draw)
  k_law_draw : PySem.W.keepIn K (.ref A.f_law_draw) = true
  F_law_pick : Fun K "_law_pick" "_law_pick" s_law_pick A.f_law_pick A.d_law_pick
  b_law_pick : Binds K A.d_law_pick P_law_pick []
  g_law_pick : mg "_law_pick" = some (.ref A.f_law_pick)
  k_law_pick : PySem.W.keepIn K (.ref A.f_law_pick) = true
  F_law_refusal : Fun K "_law_refusal" "_law_refusal" s_law_refusal A.f_law_refusal A.d_law_refusal
  b_law_refusal : Binds K A.d_law_refusal P_law_refusal []
  g_law_refusal : mg "_law_refusal" = some (.ref A.f_law_refusal)
  k_law_refusal : PySem.W.keepIn K (.ref A.f_law_refusal) = true
  F_law_signs : Fun K "_law_signs" "_law_signs" s_law_signs A.f_law_signs A.d_law_signs
  b_law_signs : Binds K A.d_law_signs P_law_signs []
  g_law_signs : mg "_law_signs" = some (.ref A.f_law_signs)
  k_law_signs : PySem.W.keepIn K (.ref A.f_law_signs) = true
  F_law_told : Fun K "_law_told" "_law_told" s_law_told A.f_law_told A.d_law_told
  b_law_told : Binds K A.d_law_told P_law_told []
  g_law_told : mg "_law_told" = some (.ref A.f_law_told)
  k_law_told : PySem.W.keepIn K (.ref A.f_law_told) = true
  F_law : Fun K "law" "law" s_law A.f_law A.d_law
  b_law : Binds K A.d_law P_law []
  g_law : mg "law" = some (.ref A.f_law)
  k_law : PySem.W.keepIn K (.ref A.f_law) = true
end TR
namespace TR
open PySem L2
def fl_Shelf (a0 : V) : List (Str × V) := [("longs", a0)]
theorem fl_Shelf_longs (a0 : V) : (fl_Shelf a0).lookup ("longs" : Str) = some a0 := by kernel_rfl
theorem st_Shelf_longs (a0 b : V) : putF "longs" b (fl_Shelf a0) = fl_Shelf b := by kernel_rfl
theorem no_Shelf_init__ (a0 : V) : (fl_Shelf a0).lookup ("__init__" : Str) = none := by kernel_rfl
theorem no_Shelf_add (a0 : V) : (fl_Shelf a0).lookup ("add" : Str) = none := by kernel_rfl
theorem no_Shelf_need (a0 : V) : (fl_Shelf a0).lookup ("need" : Str) = none := by kernel_rfl
theorem no_Shelf_long (a0 : V) : (fl_Shelf a0).lookup ("long" : Str) = none := by kernel_rfl
theorem no_Shelf_names (a0 : V) : (fl_Shelf a0).lookup ("names" : Str) = none := by kernel_rfl
theorem sf_Shelf_longs {K : PySem.W.Frag} {mg : Str → Option Value} {A : Ads} {H0 H : Hp} {L : List Ent} {l dx : Addr} {a0 y : V} {QH : Hp → Prop} (T : Txt K mg A) (w : W H0 H L) (i : Nat) (h : L[i]? = some (l, .ins A.c_Shelf dx (fl_Shelf a0))) (k : ∀ H', W H0 H' (L.set i (l, .ins A.c_Shelf dx (fl_Shelf y))) → QH H') : xFldSt K "longs" (.ref l) y H QH := st_fld w i h T.c_Shelf T.n_Shelf_longs (by show 1 < 1000; decide) (by rw [st_Shelf_longs]; exact k)
theorem ln_Shelf (a0 : V) : (fl_Shelf a0).length < 1000 := by show 1 < 1000; decide
end TR

local macro_rules | `(tactic| walk_at "cls") => `(tactic| first
  | exact TR.Txt.c_Shelf ‹TR.Txt _ _ _›)
local macro_rules | `(tactic| walk_at "noat") => `(tactic| first
  | exact TR.Txt.n_Shelf_longs ‹TR.Txt _ _ _›)
local macro_rules | `(tactic| walk_at "excc") => `(tactic| first
  | exact TR.Txt.e_RoadError ‹TR.Txt _ _ _›
  | exact TR.Txt.e_BadTune ‹TR.Txt _ _ _›
  | exact TR.Txt.e_BadNumber ‹TR.Txt _ _ _›
  | exact TR.Txt.e_BadEntry ‹TR.Txt _ _ _›
  | exact TR.Txt.e_BadWord ‹TR.Txt _ _ _›)
local macro_rules | `(tactic| walk_at "kit") => `(tactic| first
  | exact TR.Txt.i_RoadError_RoadError ‹TR.Txt _ _ _›
  | exact TR.Txt.i_RoadError_BadTune ‹TR.Txt _ _ _›
  | exact TR.Txt.i_RoadError_BadNumber ‹TR.Txt _ _ _›
  | exact TR.Txt.i_RoadError_BadEntry ‹TR.Txt _ _ _›
  | exact TR.Txt.i_RoadError_BadWord ‹TR.Txt _ _ _›
  | exact TR.Txt.i_RoadError_ValueError ‹TR.Txt _ _ _›
  | exact TR.Txt.i_BadTune_RoadError ‹TR.Txt _ _ _›
  | exact TR.Txt.i_BadTune_BadTune ‹TR.Txt _ _ _›
  | exact TR.Txt.i_BadTune_BadNumber ‹TR.Txt _ _ _›
  | exact TR.Txt.i_BadTune_BadEntry ‹TR.Txt _ _ _›
  | exact TR.Txt.i_BadTune_BadWord ‹TR.Txt _ _ _›
  | exact TR.Txt.i_BadTune_ValueError ‹TR.Txt _ _ _›
  | exact TR.Txt.i_BadNumber_RoadError ‹TR.Txt _ _ _›
  | exact TR.Txt.i_BadNumber_BadTune ‹TR.Txt _ _ _›
  | exact TR.Txt.i_BadNumber_BadNumber ‹TR.Txt _ _ _›
  | exact TR.Txt.i_BadNumber_BadEntry ‹TR.Txt _ _ _›
  | exact TR.Txt.i_BadNumber_BadWord ‹TR.Txt _ _ _›
  | exact TR.Txt.i_BadNumber_ValueError ‹TR.Txt _ _ _›
  | exact TR.Txt.i_BadEntry_RoadError ‹TR.Txt _ _ _›
  | exact TR.Txt.i_BadEntry_BadTune ‹TR.Txt _ _ _›
  | exact TR.Txt.i_BadEntry_BadNumber ‹TR.Txt _ _ _›
  | exact TR.Txt.i_BadEntry_BadEntry ‹TR.Txt _ _ _›
  | exact TR.Txt.i_BadEntry_BadWord ‹TR.Txt _ _ _›
  | exact TR.Txt.i_BadEntry_ValueError ‹TR.Txt _ _ _›
  | exact TR.Txt.i_BadWord_RoadError ‹TR.Txt _ _ _›
  | exact TR.Txt.i_BadWord_BadTune ‹TR.Txt _ _ _›
  | exact TR.Txt.i_BadWord_BadNumber ‹TR.Txt _ _ _›
  | exact TR.Txt.i_BadWord_BadEntry ‹TR.Txt _ _ _›
  | exact TR.Txt.i_BadWord_BadWord ‹TR.Txt _ _ _›
  | exact TR.Txt.i_BadWord_ValueError ‹TR.Txt _ _ _›)
local macro_rules | `(tactic| walk_at "kt") => `(tactic| first
  | fail)
local macro_rules | `(tactic| walk_at "hg") => `(tactic| first
  | exact TR.W.get ‹TR.W _ _ _› 0 rfl | exact TR.W.get ‹TR.W _ _ _› 1 rfl | exact TR.W.get ‹TR.W _ _ _› 2 rfl | exact TR.W.get ‹TR.W _ _ _› 3 rfl
  | exact TR.W.get ‹TR.W _ _ _› 4 rfl | exact TR.W.get ‹TR.W _ _ _› 5 rfl | exact TR.W.get ‹TR.W _ _ _› 6 rfl | exact TR.W.get ‹TR.W _ _ _› 7 rfl
  | exact TR.W.get ‹TR.W _ _ _› 8 rfl | exact TR.W.get ‹TR.W _ _ _› 9 rfl | exact TR.W.get ‹TR.W _ _ _› 10 rfl | exact TR.W.get ‹TR.W _ _ _› 11 rfl
  | exact TR.W.get ‹TR.W _ _ _› 12 rfl | exact TR.W.get ‹TR.W _ _ _› 13 rfl | exact TR.W.get ‹TR.W _ _ _› 14 rfl | exact TR.W.get ‹TR.W _ _ _› 15 rfl
  | exact TR.W.get ‹TR.W _ _ _› 16 rfl | exact TR.W.get ‹TR.W _ _ _› 17 rfl | exact TR.W.get ‹TR.W _ _ _› 18 rfl | exact TR.W.get ‹TR.W _ _ _› 19 rfl)
local macro_rules | `(tactic| walk_at "sz") => `(tactic| (simp only [List.length_map, List.length_append, List.length_cons, List.length_nil, List.length_set, List.length_take, List.length_drop, List.length_replicate, List.length_reverse]; first | exact TR.szL (by omega) | exact TR.szE (by omega)))
local macro_rules | `(tactic| walk_at "dg") => `(tactic| first | exact L2.DGet.k (k := Sum.inr _) (by walk_at "hg") | exact L2.DGet.k (k := Sum.inl _) (by walk_at "hg"))
local macro_rules | `(tactic| walk_at "sd") => `(tactic| first
  | ((with_reducible show (_ : Option L2.HO) = _); first | assumption | walk_at "hg")
  | ((with_reducible show PySem.W.kitOne _ _ _ = _); walk_at "kit")
  | ((with_reducible show _ = _); first | rfl | assumption | exact TR.flat_ints _ | decide)
  | ((with_reducible show L2.Cls _ _); walk_at "cls")
  | ((with_reducible show L2.NoAttr _ _ _); walk_at "noat")
  | ((with_reducible show L2.ExcC _ _); walk_at "excc")
  | ((with_reducible show L2.SqL _ _ _ _); first | assumption | exact L2.SqL.of (by walk_at "hg"))
  | ((with_reducible show L2.SqT _ _ _ _); first | assumption | exact L2.SqT.of (by first | assumption | walk_at "hg") | walk_at "kt")
  | ((with_reducible show L2.SqL _ _ _ _ ∨ L2.SqT _ _ _ _); first | exact Or.inl (L2.SqL.of (by walk_at "hg")) | exact Or.inr (L2.SqT.of (by first | assumption | walk_at "hg")) | exact Or.inr (by walk_at "kt") | exact Or.inl (by assumption))
  | ((with_reducible show L2.RgC _ _ _ _); exact L2.RgC.neg (by omega) (by omega) (by omega) (by omega))
  | ((with_reducible show L2.RgOk _ _); exact L2.RgOk.of_le (by omega) (by omega) (by omega) (by omega))
  | ((with_reducible show L2.tyV _ _ _ _); exact Or.inl ⟨rfl, _, L2.SqL.of (by walk_at "hg")⟩)
  | ((with_reducible show L2.TruV _ _ _ _); first | exact Or.inl ⟨_, L2.SqL.of (by walk_at "hg"), rfl⟩ | rfl)
  | ((with_reducible show L2.DGet _ _ _ _); walk_at "dg")
  | ((with_reducible show _ ≤ _); first | omega | (simp only [List.length_map, List.length_append, List.length_cons, List.length_nil, List.length_set]; omega) | walk_at "sz")
  | ((with_reducible show _ < _); first | omega | (simp only [List.length_map, List.length_append, List.length_cons, List.length_nil, List.length_set]; omega) | walk_at "sz")
  | assumption
  | exact fun _ z => z
  | exact ⟨_, rfl⟩
  | exact ⟨_, L2.SqL.of (by walk_at "hg")⟩
  | ((with_reducible show L2.CDiv _ _); exact ⟨by first | decide | omega, by first | decide | omega⟩)
  | ((with_reducible show L2.CPow _ _); exact ⟨by first | decide | omega, by first | decide | omega, by first | decide | omega⟩)
  | ((with_reducible show L2.CMul _ _); first | exact Or.inl ⟨by first | decide | omega, by first | decide | omega⟩ | exact Or.inr ⟨by first | decide | omega, by first | decide | omega⟩))
local macro_rules | `(tactic| walk_at "rd") => `(tactic| repeat (first | apply Exists.intro | (refine And.intro ?_ ?_; · walk_at "sd")))
local macro_rules | `(tactic| walk_at "scr") => `(tactic| first | assumption | (apply TR.Scr.cons; walk_at "scr") | (apply TR.Scr.app; walk_at "scr"))

namespace TR
open PySem L2
/-! ### the law's draws -/
def cellP (ns : List Int) (k : Int) : Int := if ns = [] then 0 else ns.getD (k % (ns.length : Int)).toNat 0
def mixP (ns : List Int) (k : Int) : Int :=
  let n1 := (cellP ns k + 104729 * (k + 1)) % 4294967291
  let n2 := n1 ^ 5 % 4294967279
  (n2 / 64 * 69621 + n2) % 4294967231
def drawP (ns : List Int) (n : Nat) (m : Int) : Int := mixP ns ((n : Int) + 1) / 8 % m
theorem drawP_nn (ns : List Int) (n : Nat) {m : Int} (h : 0 < m) : 0 ≤ drawP ns n m := Int.emod_nonneg _ (by omega)
theorem drawP_lt (ns : List Int) (n : Nat) {m : Int} (h : 0 < m) : drawP ns n m < m := Int.emod_lt_of_pos _ h
def zeros (n : Nat) : List V := List.replicate n (V.int 0)
theorem zeros_succ (n : Nat) : zeros n ++ [V.int 0] = zeros (n + 1) := by unfold zeros; rw [List.replicate_succ']
theorem zeros_len (n : Nat) : (zeros n).length = n := by unfold zeros; exact List.length_replicate
@[irreducible] def sp_cell (K : PySem.W.Frag) : Sp := fun vs H Q _ => ∃ (a : Addr) (ns : List Int) (k : Int), vs = [.ref a, .int k] ∧ SqL K H a (ns.map V.int) ∧ Q (.int (cellP ns k)) H
theorem of_cell {K : PySem.W.Frag} {vs : List V} {H : Hp} {Q : VK} {E : XK} (h :  ∃ (a : Addr) (ns : List Int) (k : Int), vs = [.ref a, .int k] ∧ SqL K H a (ns.map V.int) ∧ Q (.int (cellP ns k)) H) : sp_cell K vs H Q E := by unfold sp_cell; exact h
@[irreducible] def sp_mix (K : PySem.W.Frag) : Sp := fun vs H Q _ => ∃ (a : Addr) (ns : List Int) (k : Int), vs = [.ref a, .int k] ∧ SqL K H a (ns.map V.int) ∧ 0 ≤ k ∧ k < 1000000 ∧ Q (.int (mixP ns k)) H
theorem of_mix {K : PySem.W.Frag} {vs : List V} {H : Hp} {Q : VK} {E : XK} (h :  ∃ (a : Addr) (ns : List Int) (k : Int), vs = [.ref a, .int k] ∧ SqL K H a (ns.map V.int) ∧ 0 ≤ k ∧ k < 1000000 ∧ Q (.int (mixP ns k)) H) : sp_mix K vs H Q E := by unfold sp_mix; exact h
/-- town holds n noughts; R the rest, the script among it -/
@[irreducible] def sp_draw (K : PySem.W.Frag) : Sp := fun vs H Q _ => ∃ (a t : Addr) (ns : List Int) (n : Nat) (m : Int) (R : List Ent), vs = [.ref a, .ref t, .int m] ∧ Scr K a ns R ∧ W H H ((t, .lst (zeros n)) :: R) ∧ n ≤ 10000 ∧ 0 < m ∧
  ∀ H', W H H' ((t, .lst (zeros (n + 1))) :: R) → Q (.int (drawP ns n m)) H'
theorem of_draw {K : PySem.W.Frag} {vs : List V} {H : Hp} {Q : VK} {E : XK} (h :  ∃ (a t : Addr) (ns : List Int) (n : Nat) (m : Int) (R : List Ent), vs = [.ref a, .ref t, .int m] ∧ Scr K a ns R ∧ W H H ((t, .lst (zeros n)) :: R) ∧ n ≤ 10000 ∧ 0 < m ∧
  ∀ H', W H H' ((t, .lst (zeros (n + 1))) :: R) → Q (.int (drawP ns n m)) H') : sp_draw K vs H Q E := by unfold sp_draw; exact h
@[irreducible] def sp_pick (K : PySem.W.Frag) : Sp := fun vs H Q _ => ∃ (a t b : Addr) (ns : List Int) (n : Nat) (xs : List V) (R : List Ent), vs = [.ref a, .ref t, .ref b] ∧ Scr K a ns R ∧ W H H ((t, .lst (zeros n)) :: R) ∧ (∀ H0 H', W H0 H' R → SqL K H' b xs) ∧ n ≤ 10000 ∧ xs ≠ [] ∧
  ∀ H' v, W H H' ((t, .lst (zeros (n + 1))) :: R) → xs[(drawP ns n xs.length).toNat]? = some v → Q v H'
theorem of_pick {K : PySem.W.Frag} {vs : List V} {H : Hp} {Q : VK} {E : XK} (h :  ∃ (a t b : Addr) (ns : List Int) (n : Nat) (xs : List V) (R : List Ent), vs = [.ref a, .ref t, .ref b] ∧ Scr K a ns R ∧ W H H ((t, .lst (zeros n)) :: R) ∧ (∀ H0 H', W H0 H' R → SqL K H' b xs) ∧ n ≤ 10000 ∧ xs ≠ [] ∧
  ∀ H' v, W H H' ((t, .lst (zeros (n + 1))) :: R) → xs[(drawP ns n xs.length).toNat]? = some v → Q v H') : sp_pick K vs H Q E := by unfold sp_pick; exact h
theorem toNat_mod_lt {k : Int} {n : Nat} (h : 0 < n) : (k % (n : Int)).toNat < n := by
  have h1 : 0 ≤ k % (n : Int) := Int.emod_nonneg _ (by omega)
  have h2 : k % (n : Int) < n := Int.emod_lt_of_pos _ (by omega)
  omega
section
variable {P : Program} {w : World} {K : PySem.W.Frag} {mg : Str → Option Value} {base : Heap} {A : Ads}
theorem ok_law_cell (T : Txt K mg A) : FnOk P w K mg base (L2.CX P w) 1 A.f_law_cell A.d_law_cell P_law_cell (sp_cell K) := by
  refine T.F_law_cell.okX sc_law_cell (fun vs H Q E h => ?_) (fun cdv Ar outer s H vs Q E hr h => ?_)
  · unfold sp_cell at h; obtain ⟨a, ns, k, rfl, _⟩ := h; rfl
  · unfold sp_cell at h; obtain ⟨a, ns, k, rfl, hs, q⟩ := h
    refine ⟨_, (pss_cons (my_if (pt_truth (pv 0) (by intro _; rfl))
        (pss_one (ps_ret (pe_ix ix_list (pv 0) (pe_op op_mod (pv 1) (pe_callB my_lenQ (by rfl) T.z_len PySem.boot_len (pa_cons (pv 0) pa_nil))) (fun _ _ => rfl))))
        pss_nil)
      (pss_one (ps_ret pe_int))), ?_⟩
    refine ⟨_, rfl, _, .inl ⟨_, hs, rfl⟩, ?_⟩
    refine xIf_2 (fun h => ?_) (fun h => ?_)
    · have hn : ns ≠ [] := fun z => by subst z; cases h
      have hl : 0 < ns.length := List.length_pos_iff.mpr hn
      have e : (ns.map V.int)[(k % (ns.length : Int)).toNat]? = some (V.int (cellP ns k)) := by
        rw [List.getElem?_map, List.getElem?_eq_getElem (toNat_mod_lt hl)]
        unfold cellP
        rw [if_neg hn, List.getD_eq_getElem?_getD, List.getElem?_eq_getElem (toNat_mod_lt hl)]
        rfl
      refine ⟨_, rfl, _, rfl, _, rfl, _, _, rfl, .inl hs, _, _, rfl, rfl, ?_, _, _, _, _, rfl, rfl, hs, ?_, q⟩
      · rw [List.length_map]; omega
      · rw [List.length_map]
        exact at_of (Int.toNat_of_nonneg (Int.emod_nonneg _ (by omega))).symm e
    · have hn : ns = [] := by
        cases ns with
        | nil => rfl
        | cons a r => cases h
      unfold cellP at q
      rw [if_pos hn] at q
      exact q
theorem n1_bd (a : Int) : 0 ≤ a % 4294967291 ∧ a % 4294967291 < 4294967291 := ⟨Int.emod_nonneg _ (by decide), Int.emod_lt_of_pos _ (by decide)⟩
theorem n2_bd (a : Int) : 0 ≤ a % 4294967279 ∧ a % 4294967279 < 4294967279 := ⟨Int.emod_nonneg _ (by decide), Int.emod_lt_of_pos _ (by decide)⟩
theorem ok_law_mix (T : Txt K mg A) : FnOk P w K mg base (L2.CX P w) 2 A.f_law_mix A.d_law_mix P_law_mix (sp_mix K) := by
  refine T.F_law_mix.okX sc_law_mix (fun vs H Q E h => ?_) (fun cdv Ar outer s H vs Q E hr h => ?_)
  · unfold sp_mix at h; obtain ⟨a, ns, k, rfl, _⟩ := h; rfl
  · unfold sp_mix at h; obtain ⟨a, ns, k, rfl, hs, h0, h1, q⟩ := h
    refine ⟨_, (pss_cons (ps_set (i := 2) sc_law_mix.nd rfl (by first | exact Or.inl rfl | exact Or.inr rfl) (pe_op op_mod (pe_op op_add (my_call (ok_law_cell T) (hr.mono (by decide)) (by rfl) T.g_law_cell T.k_law_cell T.b_law_cell passE (pa_cons (pv 0) (pa_cons (pv 1) pa_nil))) (pe_op op_mul pe_int (pe_op op_add (pv 1) pe_int))) pe_int))
      (pss_cons (ps_set (i := 2) sc_law_mix.nd rfl (by first | exact Or.inl rfl | exact Or.inr rfl) (pe_op op_mod (pe_op op_pow (pv 2) pe_int) pe_int))
      (pss_one (ps_ret (pe_op op_mod (pe_op op_add (pe_op op_mul (pe_op op_fdiv (pv 2) pe_int) pe_int) (pv 2)) pe_int))))), ?_⟩
    refine ⟨_, rfl, _, rfl, st_call ?_⟩
    unfold sp_cell
    refine ⟨_, _, _, rfl, hs, ?_⟩
    have b1 := n1_bd (cellP ns k + 104729 * (k + 1))
    have b2 := n2_bd (((cellP ns k + 104729 * (k + 1)) % 4294967291) ^ 5)
    refine ⟨_, rfl, _, _, rfl, rfl, _, _, rfl, rfl, .inl ⟨by decide, by decide⟩, _, _, rfl, rfl, _, _, rfl, rfl, (by show (0 : Int) < _; decide), ?_⟩
    refine ⟨_, rfl, _, _, rfl, rfl, ⟨by decide, by decide, by omega⟩, _, _, rfl, rfl, (by show (0 : Int) < _; decide), ?_⟩
    refine ⟨_, rfl, _, _, rfl, rfl, ⟨by decide, by decide⟩, _, _, rfl, rfl, .inr ⟨by decide, by decide⟩, _, rfl, _, _, rfl, rfl, _, _, rfl, rfl, (by show (0 : Int) < _; decide), ?_⟩
    exact q
theorem ok_law_draw (T : Txt K mg A) : FnOk P w K mg base (L2.CX P w) 3 A.f_law_draw A.d_law_draw P_law_draw (sp_draw K) := by
  refine T.F_law_draw.okX sc_law_draw (fun vs H Q E h => ?_) (fun cdv Ar outer s H vs Q E hr h => ?_)
  · unfold sp_draw at h; obtain ⟨a, t, ns, n, m, R, rfl, _⟩ := h; rfl
  · unfold sp_draw at h; obtain ⟨a, t, ns, n, m, R, rfl, sc, w, hn, hm, q⟩ := h
    refine ⟨_, (pss_cons (ps_expr (pe_bm PySem.F.plainAttrs_list PySem.F.slot_list_append PySem.F.type_list_append my_append (pv 1) (pa_cons pe_int pa_nil)))
      (pss_one (ps_ret (pe_op op_mod (pe_op op_fdiv (my_call (ok_law_mix T) (hr.mono (by decide)) (by rfl) T.g_law_mix T.k_law_mix T.b_law_mix passE (pa_cons (pv 0) (pa_cons (pe_callB my_lenQ (by rfl) T.z_len PySem.boot_len (pa_cons (pv 1) pa_nil)) pa_nil))) pe_int) (pv 2))))), ?_⟩
    walk_at "rd"
    refine st_app w 0 rfl (by rw [zeros_len]; exact szL (by omega)) fun H1 w1 => ?_
    rw [zeros_succ] at w1
    replace w1 : W H H1 ((t, .lst (zeros (n + 1))) :: R) := w1
    walk_at "rd"
    refine st_call ?_
    unfold sp_mix
    refine ⟨a, ns, _, rfl, sc _ _ w1.drop1, by omega, by rw [zeros_len]; omega, ?_⟩
    refine ⟨_, _, rfl, rfl, ⟨by decide, by decide⟩, _, rfl, _, _, rfl, rfl, hm, ?_⟩
    have e := q H1 w1
    unfold drawP at e
    rw [zeros_len]
    exact e
theorem ok_law_pick (T : Txt K mg A) : FnOk P w K mg base (L2.CX P w) 4 A.f_law_pick A.d_law_pick P_law_pick (sp_pick K) := by
  refine T.F_law_pick.okX sc_law_pick (fun vs H Q E h => ?_) (fun cdv Ar outer s H vs Q E hr h => ?_)
  · unfold sp_pick at h; obtain ⟨a, t, b, ns, n, xs, R, rfl, _⟩ := h; rfl
  · unfold sp_pick at h; obtain ⟨a, t, b, ns, n, xs, R, rfl, sc, w, hb, hn, hx, q⟩ := h
    refine ⟨_, (pss_one (ps_ret (pe_ix ix_list (pv 2) (my_call (ok_law_draw T) (hr.mono (by decide)) (by rfl) T.g_law_draw T.k_law_draw T.b_law_draw passE (pa_cons (pv 0) (pa_cons (pv 1) (pa_cons (pe_callB my_lenQ (by rfl) T.z_len PySem.boot_len (pa_cons (pv 2) pa_nil)) pa_nil)))) (fun _ _ => rfl)))), ?_⟩
    have hl : 0 < xs.length := List.length_pos_iff.mpr hx
    refine ⟨_, rfl, _, rfl, _, rfl, _, rfl, _, _, rfl, .inl (hb _ _ w.drop1), st_call ?_⟩
    unfold sp_draw
    refine ⟨a, t, ns, n, _, R, rfl, sc, w, hn, by omega, fun H1 w1 => ?_⟩
    have d0 := drawP_nn ns n (m := (xs.length : Int)) (by omega)
    have d1 := drawP_lt ns n (m := (xs.length : Int)) (by omega)
    have e := List.getElem?_eq_getElem (l := xs) (i := (drawP ns n xs.length).toNat) (by omega)
    exact ⟨_, _, _, _, rfl, rfl, hb _ _ w1.drop1, at_of (Int.toNat_of_nonneg d0).symm e, q H1 _ w1 e⟩
/-! a draw, a pick, with town the i-th entry -/
section
variable {H0 : Hp} {L : List Ent} {a t b : Addr} {ns : List Int} {n : Nat} {m : Int} {xs : List V} {Q : VK} {E : XK} {H : Hp}
theorem draw_at (w : W H0 H L) (i : Nat) (h : L[i]? = some (t, .lst (zeros n))) (sc : Scr K a ns (L.eraseIdx i)) (hn : n ≤ 10000) (hm : 0 < m)
    (k : ∀ H', W H0 H' (L.set i (t, .lst (zeros (n + 1)))) → 0 ≤ drawP ns n m → drawP ns n m < m → Q (.int (drawP ns n m)) H') : xCall (sp_draw K) [.ref a, .ref t, .int m] H Q E := by
  refine st_call ?_
  unfold sp_draw
  exact ⟨a, t, ns, n, m, _, rfl, sc, (w.front i h).now, hn, hm, fun H' v => k H' (w.back i h v) (drawP_nn ns n hm) (drawP_lt ns n hm)⟩
theorem pick_at (w : W H0 H L) (i j : Nat) (h : L[i]? = some (t, .lst (zeros n))) (hb : (L.eraseIdx i)[j]? = some (b, .lst xs)) (sc : Scr K a ns (L.eraseIdx i)) (hn : n ≤ 10000) (hx : xs ≠ [])
    (k : ∀ H' v, W H0 H' (L.set i (t, .lst (zeros (n + 1)))) → xs[(drawP ns n xs.length).toNat]? = some v → v ∈ xs → Q v H') : xCall (sp_pick K) [.ref a, .ref t, .ref b] H Q E := by
  refine st_call ?_
  unfold sp_pick
  exact ⟨a, t, b, ns, n, xs, _, rfl, sc, (w.front i h).now, fun _ _ v => SqL.of (v.get j hb), hn, hx, fun H' v w' e => k H' v (w.back i h w') e (List.mem_of_getElem? e)⟩
end
end
end TR

namespace TR
open PySem L2
/-! ### refusals -/
inductive Rf where
  | tune | number | entry | word
  deriving DecidableEq
def Rf.cls (A : Ads) : Rf → Addr
  | .tune => A.c_BadTune
  | .number => A.c_BadNumber
  | .entry => A.c_BadEntry
  | .word => A.c_BadWord
def Rf.nm : Rf → Str
  | .tune => "tune"
  | .number => "number"
  | .entry => "entry"
  | .word => "word"
@[irreducible] def sp_refusal (A : Ads) : Sp := fun vs H Q _ => ∃ (a : Addr) (r : Rf) (R : List Ent), vs = [.ref a] ∧ W H H ((a, ExH (.ref (r.cls A)) none a) :: R) ∧ ∀ H' t, W H H' ((t, .tup [.str "refused", .str r.nm]) :: (a, ExH (.ref (r.cls A)) none a) :: R) → Q (.ref t) H'
theorem of_refusal {A : Ads} {vs : List V} {H : Hp} {Q : VK} {E : XK} (h :  ∃ (a : Addr) (r : Rf) (R : List Ent), vs = [.ref a] ∧ W H H ((a, ExH (.ref (r.cls A)) none a) :: R) ∧ ∀ H' t, W H H' ((t, .tup [.str "refused", .str r.nm]) :: (a, ExH (.ref (r.cls A)) none a) :: R) → Q (.ref t) H') : sp_refusal A vs H Q E := by unfold sp_refusal; exact h
abbrev refT (r : Rf) : List V := [.str "refused", .str r.nm]
theorem dp_refT {K : PySem.W.Frag} {H : Hp} {t : Addr} {r : Rf} (h : H t = some (.tup (refT r))) : Dp K H (.ref t) (.tuple [.str "refused", .str r.nm]) := .tup (SqT.of h) (.cons (.str _) (.cons (.str _) .nil))
theorem sh_refT {k : Nat} {r : Rf} : Sh (k + 1) (.tuple [.str "refused", .str r.nm]) := sh_tup (sh_cons (sh_str (by decide +kernel)) (sh_cons (sh_str (by cases r <;> decide +kernel)) sh_nil))
section
variable {P : Program} {w : World} {K : PySem.W.Frag} {mg : Str → Option Value} {base : Heap} {A : Ads}
theorem ok_law_refusal (T : Txt K mg A) : FnOk P w K mg base (L2.CX P w) 1 A.f_law_refusal A.d_law_refusal P_law_refusal (sp_refusal A) := by
  refine T.F_law_refusal.okX sc_law_refusal (fun vs H Q E h => ?_) (fun cdv Ar outer s H vs Q E hr h => ?_)
  · unfold sp_refusal at h; obtain ⟨a, r, R, rfl, _⟩ := h; rfl
  · unfold sp_refusal at h; obtain ⟨a, r, R, rfl, w, k⟩ := h
    refine ⟨_, (pss_cons (my_if (pt_cmpR op_isN (pv 0) pe_non (nomark _))
        (pss_one (ps_ret (my_tup (pa_cons pe_str pa_nil))))
        pss_nil)
      (pss_cons (ps_set (i := 1) sc_law_refusal.nd rfl (by first | exact Or.inl rfl | exact Or.inr rfl) (my_lst (pa_cons (pe_callB my_isi (by rfl) T.z_isinstance (by decide +kernel) (pa_cons (pv 0) (pa_cons (my_globR T.g_BadTune (by rfl)) pa_nil))) (pa_cons (pe_callB my_isi (by rfl) T.z_isinstance (by decide +kernel) (pa_cons (pv 0) (pa_cons (my_globR T.g_BadNumber (by rfl)) pa_nil))) (pa_cons (pe_callB my_isi (by rfl) T.z_isinstance (by decide +kernel) (pa_cons (pv 0) (pa_cons (my_globR T.g_BadEntry (by rfl)) pa_nil))) pa_nil)))))
      (pss_cons (ps_expr (pe_bm PySem.F.plainAttrs_list PySem.F.slot_list_append PySem.F.type_list_append my_append (pv 1) (pa_cons (pe_callB my_isi (by rfl) T.z_isinstance (by decide +kernel) (pa_cons (pv 0) (pa_cons (my_globR T.g_BadWord (by rfl)) pa_nil))) pa_nil)))
      (pss_cons (my_if (PW.pt (my_or (pt_cmpR op_ne (pe_bm PySem.F.plainAttrs_list PySem.F.slot_list_count PySem.F.type_list_count my_count (pv 1) (pa_cons pe_bl pa_nil)) pe_int (nomark _)) (pw_or1 (pt_not (pt_val (pe_callB my_isi (by rfl) T.z_isinstance (by decide +kernel) (pa_cons (pv 0) (pa_cons (pe_bltn (v := .ty "ValueError") (by rfl) T.z_ValueError (by decide +kernel) rfl) pa_nil))))))))
        (pss_one (ps_ret (my_tup (pa_cons pe_str pa_nil))))
        pss_nil)
      (pss_one (ps_ret (my_tup (pa_cons pe_str (pa_cons (pe_ix ix_list (my_lst (pa_cons pe_str (pa_cons pe_str (pa_cons pe_str (pa_cons pe_str pa_nil))))) (pe_bm PySem.F.plainAttrs_list PySem.F.slot_list_index PySem.F.type_list_index my_index (pv 1) (pa_cons pe_bl pa_nil)) (fun _ _ => rfl)) pa_nil))))))))), ?_⟩
    cases r
    all_goals
      simp only [Rf.cls, Rf.nm] at w k
      walk_at "rd"
      refine xIf_F rfl ?_
      walk_at "rd"
      refine st_new w fun l H1 w1 => ?_
      walk_at "rd"
      refine st_app w1 0 rfl (by decide) fun H2 w2 => ?_
      walk_at "rd"
      refine xIf_F rfl ?_
      walk_at "rd"
      refine xIf_F rfl ?_
      walk_at "rd"
      refine st_new w2 fun m H3 w3 => ?_
      walk_at "rd"
      first
        | refine st_idx 0 (.bl true) (L2.SqL.of (w3.get 1 rfl)) rfl rfl rfl rfl (fun m u hm hu => ?_) ?_
        | refine st_idx 1 (.bl true) (L2.SqL.of (w3.get 1 rfl)) rfl rfl rfl rfl (fun m u hm hu => ?_) ?_
        | refine st_idx 2 (.bl true) (L2.SqL.of (w3.get 1 rfl)) rfl rfl rfl rfl (fun m u hm hu => ?_) ?_
        | refine st_idx 3 (.bl true) (L2.SqL.of (w3.get 1 rfl)) rfl rfl rfl rfl (fun m u hm hu => ?_) ?_
      · rcases m with _ | _ | _ | m
        all_goals first | (exfalso; omega) | (cases hu; rfl)
      · refine ⟨_, _, _, _, rfl, rfl, SqL.of (w3.get 0 rfl), atI_nat rfl, ?_⟩
        walk_at "rd"
        refine st_new w3 fun t H4 w4 => ?_
        exact k H4 t ((w4.rot 1 2).drop1.drop1)
end
end TR

namespace TR
open PySem L2 PyProof.Rows
/-! ### shelves -/
def small : Str := "abcdefghijklmnopqrstuvwxyz"
def okN (x : Str) : Bool := decide (1 ≤ (x.length : Int)) && decide ((x.length : Int) ≤ 6) && (x.cps.toList.map fun c => decide (c ∈ small.cps.toList)).all id
abbrev Sf := List (Str × Int)
def sfK (s : Sf) : List (Key × V) := s.map fun p => (Sum.inr p.1, V.int p.2)
theorem sfK_len (s : Sf) : (sfK s).length = s.length := by unfold sfK; rw [List.length_map]
theorem sfK_keys (s : Sf) : (sfK s).map (·.1) = (s.map (·.1)).map Sum.inr := by unfold sfK; rw [List.map_map, List.map_map]; rfl
structure SA where
  q : Addr
  dx : Addr
  d : Addr
def sL (A : Ads) (a : SA) (s : Sf) : List Ent := [(a.q, .ins A.c_Shelf a.dx (fl_Shelf (.ref a.d))), (a.d, .dK (sfK s))]
def Sf.val (s : Sf) (x : Str) : Option Int := s.lookup x
theorem sfK_val (s : Sf) (x : Str) : valV (sfK s) (Sum.inr x) = (s.lookup x).map V.int := by
  induction s with
  | nil => rfl
  | cons p r ih =>
    show valV ((Sum.inr p.1, V.int p.2) :: sfK r) (Sum.inr x) = _
    rw [List.lookup_cons]
    by_cases h : p.1 = x
    · rw [valV_pos (by rw [h]), h, beq_self_eq_true]; rfl
    · have e2 : (x == p.1) = false := by simpa using fun z : x = p.1 => h z.symm
      rw [valV_neg (fun z => h (Sum.inr.inj z)), e2, ih]
theorem sfK_put {s : Sf} {x : Str} {n : Int} (h : s.lookup x = none) : putK (sfK s) (Sum.inr x) (.int n) = sfK (s ++ [(x, n)]) := by
  rw [putK_new _ (by rw [sfK_val, h]; rfl)]
  unfold sfK
  rw [List.map_append]
  rfl
@[irreducible] def sp_look_name (A : Ads) : Sp := fun vs H Q E => ∃ (x : Str) (R : List Ent), vs = [.str x] ∧ W H H R ∧ x.length < 1000 ∧ (okN x = true → ∀ H', W H H' R → Q .non H') ∧ (okN x = false → ∀ H', W H H' R → E (.ref A.c_BadTune) none H')
theorem of_look_name {A : Ads} {vs : List V} {H : Hp} {Q : VK} {E : XK} (h :  ∃ (x : Str) (R : List Ent), vs = [.str x] ∧ W H H R ∧ x.length < 1000 ∧ (okN x = true → ∀ H', W H H' R → Q .non H') ∧ (okN x = false → ∀ H', W H H' R → E (.ref A.c_BadTune) none H')) : sp_look_name A vs H Q E := by unfold sp_look_name; exact h
@[irreducible] def sp_Shelf_init (A : Ads) : Sp := fun vs H Q _ => ∃ (q dx : Addr) (R : List Ent), vs = [.ref q] ∧ W H H ((q, .ins A.c_Shelf dx []) :: R) ∧ ∀ H' d, W H H' (sL A ⟨q, dx, d⟩ [] ++ R) → Q .non H'
theorem of_Shelf_init {A : Ads} {vs : List V} {H : Hp} {Q : VK} {E : XK} (h :  ∃ (q dx : Addr) (R : List Ent), vs = [.ref q] ∧ W H H ((q, .ins A.c_Shelf dx []) :: R) ∧ ∀ H' d, W H H' (sL A ⟨q, dx, d⟩ [] ++ R) → Q .non H') : sp_Shelf_init A vs H Q E := by unfold sp_Shelf_init; exact h
@[irreducible] def sp_Shelf_add (A : Ads) : Sp := fun vs H Q E => ∃ (a : SA) (s : Sf) (x : Str) (n : Int) (R : List Ent), vs = [.ref a.q, .str x, .int n] ∧ W H H (sL A a s ++ R) ∧ x.length < 1000 ∧ s.length < 1000 ∧
  (okN x = true → s.lookup x = none → s.length ≠ 6 → 1 ≤ n ∧ n ≤ 40 → ∀ H', W H H' (sL A a (s ++ [(x, n)]) ++ R) → Q .non H') ∧
  (¬ (okN x = true ∧ s.lookup x = none ∧ s.length ≠ 6) → ∀ H', W H H' (sL A a s ++ R) → E (.ref A.c_BadTune) none H') ∧
  (okN x = true → s.lookup x = none → s.length ≠ 6 → ¬ (1 ≤ n ∧ n ≤ 40) → ∀ H', W H H' (sL A a s ++ R) → E (.ref A.c_BadNumber) none H')
theorem of_Shelf_add {A : Ads} {vs : List V} {H : Hp} {Q : VK} {E : XK} (h :  ∃ (a : SA) (s : Sf) (x : Str) (n : Int) (R : List Ent), vs = [.ref a.q, .str x, .int n] ∧ W H H (sL A a s ++ R) ∧ x.length < 1000 ∧ s.length < 1000 ∧
  (okN x = true → s.lookup x = none → s.length ≠ 6 → 1 ≤ n ∧ n ≤ 40 → ∀ H', W H H' (sL A a (s ++ [(x, n)]) ++ R) → Q .non H') ∧
  (¬ (okN x = true ∧ s.lookup x = none ∧ s.length ≠ 6) → ∀ H', W H H' (sL A a s ++ R) → E (.ref A.c_BadTune) none H') ∧
  (okN x = true → s.lookup x = none → s.length ≠ 6 → ¬ (1 ≤ n ∧ n ≤ 40) → ∀ H', W H H' (sL A a s ++ R) → E (.ref A.c_BadNumber) none H')) : sp_Shelf_add A vs H Q E := by unfold sp_Shelf_add; exact h
@[irreducible] def sp_Shelf_need (A : Ads) : Sp := fun vs H Q E => ∃ (a : SA) (s : Sf) (x : Str) (R : List Ent), vs = [.ref a.q, .str x] ∧ W H H (sL A a s ++ R) ∧ (s.lookup x ≠ none → Q .non H) ∧ (s.lookup x = none → E (.ref A.c_BadTune) none H)
theorem of_Shelf_need {A : Ads} {vs : List V} {H : Hp} {Q : VK} {E : XK} (h :  ∃ (a : SA) (s : Sf) (x : Str) (R : List Ent), vs = [.ref a.q, .str x] ∧ W H H (sL A a s ++ R) ∧ (s.lookup x ≠ none → Q .non H) ∧ (s.lookup x = none → E (.ref A.c_BadTune) none H)) : sp_Shelf_need A vs H Q E := by unfold sp_Shelf_need; exact h
@[irreducible] def sp_Shelf_long (A : Ads) : Sp := fun vs H Q E => ∃ (a : SA) (s : Sf) (x : Str) (R : List Ent), vs = [.ref a.q, .str x] ∧ W H H (sL A a s ++ R) ∧ (∀ n, s.lookup x = some n → Q (.int n) H) ∧ (s.lookup x = none → E (.ref A.c_BadTune) none H)
theorem of_Shelf_long {A : Ads} {vs : List V} {H : Hp} {Q : VK} {E : XK} (h :  ∃ (a : SA) (s : Sf) (x : Str) (R : List Ent), vs = [.ref a.q, .str x] ∧ W H H (sL A a s ++ R) ∧ (∀ n, s.lookup x = some n → Q (.int n) H) ∧ (s.lookup x = none → E (.ref A.c_BadTune) none H)) : sp_Shelf_long A vs H Q E := by unfold sp_Shelf_long; exact h
@[irreducible] def sp_Shelf_names (A : Ads) : Sp := fun vs H Q _ => ∃ (a : SA) (s : Sf) (R : List Ent), vs = [.ref a.q] ∧ W H H (sL A a s ++ R) ∧ s.length < 64 ∧ ∀ (ys : List Str) p H', ys.Perm (s.map (·.1)) → sortedS ys = true → W H H' ((p, .lst (ys.map V.str)) :: (sL A a s ++ R)) → Q (.ref p) H'
theorem of_Shelf_names {A : Ads} {vs : List V} {H : Hp} {Q : VK} {E : XK} (h :  ∃ (a : SA) (s : Sf) (R : List Ent), vs = [.ref a.q] ∧ W H H (sL A a s ++ R) ∧ s.length < 64 ∧ ∀ (ys : List Str) p H', ys.Perm (s.map (·.1)) → sortedS ys = true → W H H' ((p, .lst (ys.map V.str)) :: (sL A a s ++ R)) → Q (.ref p) H') : sp_Shelf_names A vs H Q E := by unfold sp_Shelf_names; exact h
section
variable {P : Program} {w : World} {K : PySem.W.Frag} {mg : Str → Option Value} {base : Heap} {A : Ads}
theorem ok_look_name (T : Txt K mg A) : FnOk P w K mg base (L2.CX P w) 1 A.f_look_name A.d_look_name P_look_name (sp_look_name A) := by
  refine T.F_look_name.okX sc_look_name (fun vs H Q E h => ?_) (fun cdv Ar outer s H vs Q E hr h => ?_)
  · unfold sp_look_name at h; obtain ⟨x, R, rfl, _⟩ := h; rfl
  · unfold sp_look_name at h; obtain ⟨x, R, rfl, w, hx, k1, k2⟩ := h
    refine ⟨_, (pss_one (my_if (PW.pt (my_or (pt_not (my_chIT op_le op_le pe_int (pe_callB my_lenSQ (by rfl) T.z_len PySem.boot_len (pa_cons (pv 0) pa_nil)) (my_globI T.gi_MOST_NAME (by rfl)) still_c (still_lenS still_v) still_c)) (pw_or1 (pt_not (pt_val (pe_callB (cr_all rfl) (by rfl) T.z_all (by decide +kernel) (pa_cons (my_lc (own := [("sign", 1)]) rfl sc_look_name.nd (pi_str (pv 0)) (blkOk_by (own := [("sign", 1)]) (N := N_look_name) (sc := defScope s_look_name) (by decide +kernel)) (fun _ _ _ _ _ => (pg_name (i := 1) sc_look_name.nd rfl (by first | exact Or.inl rfl | exact Or.inr rfl))) (fun _ _ _ _ _ => pts_nil) (fun _ _ _ _ _ => (pe_cmpR op_in_sign (pv 1) (my_globS T.gi_SMALL (by rfl)) (by rfl)))) pa_nil)))))))
        (pss_one (ps_raise rfl takesE (pmk_own PySem.F.excBase_ValueError T.x_BadTune T.g_BadTune T.k_BadTune (raises_own T.r_BadTune T.t_BadTune) (by rfl))))
        pss_nil)), ?_⟩
    have hxs : x.length ≤ sizeLine := szE (by omega)
    walk_at "rd"
    refine xIf_2 (fun h => ?_) (fun h => ?_)
    · refine xIf_T rfl (k2 ?_ _ w)
      have h1 := nb_t h
      unfold okN
      by_cases a1 : 1 ≤ (x.length : Int)
      · have a2 : ¬ (x.length : Int) ≤ 6 := fun z => h1 ⟨a1, z⟩
        rw [decide_eq_false a2, Bool.and_false, Bool.false_and]
      · rw [decide_eq_false a1, Bool.false_and, Bool.false_and]
    · have h1 := nb_f h
      walk_at "rd"
      refine st_lcS (fun D i H' => W H H' ((D, .lst (((x.cps.toList.take i).map fun c => decide (c ∈ small.cps.toList)).map V.bl)) :: R)) w (fun D H' w1 => w1) ?_ ?_
      · intro D i c H' hc w1
        walk_at "rd"
        refine xIf_T rfl ?_
        walk_at "rd"
        have hi := (List.getElem?_eq_some_iff.mp hc).1
        have hxl : x.cps.toList.length = x.length := by simp [Str.length]
        refine st_acc w1 0 rfl (by walk_at "sz") fun H2 w2 => ?_
        have e : (x.cps.toList.take (i + 1)) = x.cps.toList.take i ++ [c] := by rw [List.take_succ, hc]; rfl
        show W H H2 _
        rw [e, List.map_append, List.map_append]
        exact w2
      · intro D H' w1
        rw [List.take_length] at w1
        walk_at "rd"
        refine xIf_2 (fun h => k2 ?_ _ w1.drop1) (fun h => k1 ?_ _ w1.drop1)
        · unfold okN
          rw [decide_eq_true h1.1, decide_eq_true h1.2]
          simpa using h
        · unfold okN
          rw [decide_eq_true h1.1, decide_eq_true h1.2]
          simpa using h
theorem ok_Shelf_init__ (T : Txt K mg A) : FnOk P w K mg base (L2.CX P w) 1 A.f_Shelf_init__ A.d_Shelf_init__ P_Shelf_init__ (sp_Shelf_init A) := by
  refine T.F_Shelf_init__.okX sc_Shelf_init__ (fun vs H Q E h => ?_) (fun cdv Ar outer s H vs Q E hr h => ?_)
  · unfold sp_Shelf_init at h; obtain ⟨q, dx, R, rfl, _⟩ := h; rfl
  · unfold sp_Shelf_init at h; obtain ⟨q, dx, R, rfl, w, k⟩ := h
    refine ⟨_, (pss_one (my_fld (pv 0) my_dnew)), ?_⟩
    refine st_new w fun d H1 w1 => ?_
    walk_at "rd"
    refine st_fld w1 1 rfl T.c_Shelf T.n_Shelf_longs (by decide) fun H2 w2 => ?_
    exact k H2 d (w2.rot 1 1)
theorem ok_Shelf_add (T : Txt K mg A) : FnOk P w K mg base (L2.CX P w) 2 A.f_Shelf_add A.d_Shelf_add P_Shelf_add (sp_Shelf_add A) := by
  refine T.F_Shelf_add.okX sc_Shelf_add (fun vs H Q E h => ?_) (fun cdv Ar outer s H vs Q E hr h => ?_)
  · unfold sp_Shelf_add at h; obtain ⟨a, s, x, n, R, rfl, _⟩ := h; rfl
  · unfold sp_Shelf_add at h; obtain ⟨a, s, x, n, R, rfl, w, hx, hz, k1, k2, k3⟩ := h
    refine ⟨_, (pss_cons (ps_expr (my_call (ok_look_name T) (hr.mono (by decide)) (by rfl) T.g_look_name T.k_look_name T.b_look_name passE (pa_cons (pv 1) pa_nil)))
      (pss_cons (my_if (PW.pt (my_or (pt_cmp (pc_din (hu_of hr) (pv 1) (pe_fld (pv 0) rfl)) (by rfl)) (pw_or1 (pt_cmpR op_eq (pe_callB call_lenD (by rfl) T.z_len PySem.boot_len (pa_cons (pe_fld (pv 0) rfl) pa_nil)) (my_globI T.gi_MOST_TUNES (by rfl)) (nomark _)))))
        (pss_one (ps_raise rfl takesE (pmk_own PySem.F.excBase_ValueError T.x_BadTune T.g_BadTune T.k_BadTune (raises_own T.r_BadTune T.t_BadTune) (by rfl))))
        pss_nil)
      (pss_cons (my_if (pt_not (my_chIT op_le op_le pe_int (pv 2) (my_globI T.gi_MOST_LONG (by rfl)) still_c still_v still_c))
        (pss_one (ps_raise rfl takesE (pmk_own PySem.F.excBase_ValueError T.x_BadNumber T.g_BadNumber T.k_BadNumber (raises_own T.r_BadNumber T.t_BadNumber) (by rfl))))
        pss_nil)
      (pss_one (my_dput (hu_of hr) (pe_fld (pv 0) rfl) (pv 1) (pv 2)))))), ?_⟩
    walk_at "rd"
    refine st_call (of_look_name ⟨x, _, rfl, w, hx, fun hn H1 w1 => ?_, fun hn H1 w1 => k2 (fun z => by rw [hn] at z; cases z.1) _ w1⟩)
    walk_at "rd"
    rw [sfK_val]
    cases e : s.lookup x with
    | some m => exact xIf_T rfl (xIf_T rfl (k2 (fun z => by rw [e] at z; cases z.2.1) _ w1))
    | none =>
      refine xIf_F rfl ?_
      walk_at "rd"
      rw [sfK_len]
      refine xIf_2 (fun h => ?_) (fun h => ?_)
      · have h6 := de_t h
        exact k2 (fun z => z.2.2 (by omega)) _ w1
      · have h6 := de_f h
        walk_at "rd"
        refine xIf_2 (fun h => k3 hn e (by omega) (nb_t h) _ w1) (fun h => ?_)
        have h1 := nb_f h
        walk_at "rd"
        refine st_dput w1 1 (key := Sum.inr _) rfl rfl (by rw [sfK_len]; exact szL (by omega)) fun H2 w2 => ?_
        refine k1 hn e (by omega) h1 _ ?_
        rw [sfK_put e] at w2
        exact w2
theorem ok_Shelf_need (T : Txt K mg A) : FnOk P w K mg base (L2.CX P w) 1 A.f_Shelf_need A.d_Shelf_need P_Shelf_need (sp_Shelf_need A) := by
  refine T.F_Shelf_need.okX sc_Shelf_need (fun vs H Q E h => ?_) (fun cdv Ar outer s H vs Q E hr h => ?_)
  · unfold sp_Shelf_need at h; obtain ⟨a, s, x, R, rfl, _⟩ := h; rfl
  · unfold sp_Shelf_need at h; obtain ⟨a, s, x, R, rfl, w, k1, k2⟩ := h
    refine ⟨_, (pss_one (my_if (pt_cmp (pc_dnotin (hu_of hr) (pv 1) (pe_fld (pv 0) rfl)) (by rfl))
        (pss_one (ps_raise rfl takesE (pmk_own PySem.F.excBase_ValueError T.x_BadTune T.g_BadTune T.k_BadTune (raises_own T.r_BadTune T.t_BadTune) (by rfl))))
        pss_nil)), ?_⟩
    walk_at "rd"
    rw [sfK_val]
    cases e : s.lookup x with
    | none => exact xIf_T rfl (k2 e)
    | some m => exact xIf_F rfl (k1 (by rw [e]; exact fun z => nomatch z))
theorem ok_Shelf_long (T : Txt K mg A) : FnOk P w K mg base (L2.CX P w) 2 A.f_Shelf_long A.d_Shelf_long P_Shelf_long (sp_Shelf_long A) := by
  refine T.F_Shelf_long.okX sc_Shelf_long (fun vs H Q E h => ?_) (fun cdv Ar outer s H vs Q E hr h => ?_)
  · unfold sp_Shelf_long at h; obtain ⟨a, s, x, R, rfl, _⟩ := h; rfl
  · unfold sp_Shelf_long at h; obtain ⟨a, s, x, R, rfl, w, k1, k2⟩ := h
    refine ⟨_, (pss_cons (ps_expr (my_meth (pv 0) T.c_Shelf T.m_Shelf_need (ok_Shelf_need T) (hr.mono (by decide)) T.b_Shelf_need passE (pa_cons (pv 1) pa_nil)))
      (pss_one (ps_ret (pe_dget (hu_of hr) (pe_fld (pv 0) rfl) (pv 1) (fun _ _ => rfl))))), ?_⟩
    walk_at "rd"
    refine st_call (of_Shelf_need ⟨a, s, x, R, rfl, w, fun hn => ?_, k2⟩)
    cases e : s.lookup x with
    | none => exact absurd e hn
    | some m =>
      walk_at "rd"
      refine ⟨?_, k1 m e⟩
      have hv := sfK_val s x
      rw [e] at hv
      show DGet H a.d (.str x) (some (.int m))
      rw [show some (V.int m) = valV (sfK s) (Sum.inr x) from hv.symm]
      exact DGet.k (k := Sum.inr x) (w.get 1 rfl)
theorem ok_Shelf_names (T : Txt K mg A) : FnOk P w K mg base (L2.CX P w) 1 A.f_Shelf_names A.d_Shelf_names P_Shelf_names (sp_Shelf_names A) := by
  refine T.F_Shelf_names.okX sc_Shelf_names (fun vs H Q E h => ?_) (fun cdv Ar outer s H vs Q E hr h => ?_)
  · unfold sp_Shelf_names at h; obtain ⟨a, s, R, rfl, _⟩ := h; rfl
  · unfold sp_Shelf_names at h; obtain ⟨a, s, R, rfl, w, hz, k⟩ := h
    refine ⟨_, (pss_one (ps_ret (my_sortedKeys rfl (by rfl) T.z_sorted (pe_fld (pv 0) rfl)))), ?_⟩
    walk_at "rd"
    exact st_sortD w 1 rfl (sfK_keys s) (by rw [List.length_map]; exact hz) k
end
end TR

namespace TR
open PySem L2 PyProof.Rows
/-! ### law_k01 -/
def lw (l : Option Int) : V := match l with | none => .non | some n => .int n
inductive SOut where
  | ok (v : V) (s : Sf) | no (r : Rf)
def sTold (s : Sf) (x : Str) : Option Int → SOut
  | none => match s.lookup x with | some n => .ok (.int n) s | none => .no .tune
  | some n => if okN x = true ∧ s.lookup x = none ∧ s.length ≠ 6 then (if 1 ≤ n ∧ n ≤ 40 then .ok .non (s ++ [(x, n)]) else .no .number) else .no .tune
def SOut.then_ (A : Ads) (a : SA) (s : Sf) (R : List Ent) (H : Hp) (Q : VK) : SOut → Prop
  | .ok v s' => ∀ H', W H H' (sL A a s' ++ R) → Q v H'
  | .no r => ∀ H' t, W H H' ((t, .tup (refT r)) :: (sL A a s ++ R)) → Q (.ref t) H'
@[irreducible] def sp_told (A : Ads) : Sp := fun vs H Q _ => ∃ (a : SA) (s : Sf) (x : Str) (l : Option Int) (R : List Ent), vs = [.ref a.q, .str x, lw l] ∧ W H H (sL A a s ++ R) ∧ x.length < 1000 ∧ s.length < 1000 ∧ (sTold s x l).then_ A a s R H Q
theorem of_told {A : Ads} {vs : List V} {H : Hp} {Q : VK} {E : XK} (h :  ∃ (a : SA) (s : Sf) (x : Str) (l : Option Int) (R : List Ent), vs = [.ref a.q, .str x, lw l] ∧ W H H (sL A a s ++ R) ∧ x.length < 1000 ∧ s.length < 1000 ∧ (sTold s x l).then_ A a s R H Q) : sp_told A vs H Q E := by unfold sp_told; exact h
@[irreducible] def sp_signs : Sp := fun vs H Q _ => vs = [] ∧ Q (.str (" !\"#$&'()*+,-./0123456789:;<=>?@ABCDEFGHIJKLMNOPQRSTUVWXYZ[\\]^_`abcdefghijklmnopqrstuvwxyz{|}~" : Str)) H
theorem of_signs  {vs : List V} {H : Hp} {Q : VK} {E : XK} (h :  vs = [] ∧ Q (.str (" !\"#$&'()*+,-./0123456789:;<=>?@ABCDEFGHIJKLMNOPQRSTUVWXYZ[\\]^_`abcdefghijklmnopqrstuvwxyz{|}~" : Str)) H) : sp_signs  vs H Q E := by unfold sp_signs; exact h
section
variable {P : Program} {w : World} {K : PySem.W.Frag} {mg : Str → Option Value} {base : Heap} {A : Ads}
theorem ok_law_signs (T : Txt K mg A) : FnOk P w K mg base (L2.CX P w) 1 A.f_law_signs A.d_law_signs P_law_signs (sp_signs) := by
  refine T.F_law_signs.okX sc_law_signs (fun vs H Q E h => ?_) (fun cdv Ar outer s H vs Q E hr h => ?_)
  · unfold sp_signs at h; obtain ⟨rfl, _⟩ := h; rfl
  · unfold sp_signs at h; obtain ⟨rfl, k⟩ := h
    refine ⟨_, (pss_cons (ps_set (i := 0) sc_law_signs.nd rfl (by first | exact Or.inl rfl | exact Or.inr rfl) pe_str)
      (pss_one (ps_ret (pe_op op_add_str (pv 0) pe_str)))), ?_⟩
    refine ⟨_, rfl, _, _, rfl, rfl, by decide +kernel, ?_⟩
    rw [show (Str.ofString " !\"#$&'()*+,-./0123456789:;<=>?@ABCDEFGHIJKLMNOPQRSTUVWXYZ" ++ Str.ofString "[\\]^_`abcdefghijklmnopqrstuvwxyz{|}~") = (" !\"#$&'()*+,-./0123456789:;<=>?@ABCDEFGHIJKLMNOPQRSTUVWXYZ[\\]^_`abcdefghijklmnopqrstuvwxyz{|}~" : Str) from by decide +kernel]
    exact k
theorem sl_told {a : SA} {s : Sf} {R : List Ent} {H0 H2 : Hp} {a' : Addr} {r : Rf} {Q : VK} {E2 : XK} (w : W H0 H2 ((a', ExH (.ref (r.cls A)) none a') :: (sL A a s ++ R)))
    (k : ∀ H' t, W H0 H' ((t, .tup (refT r)) :: (sL A a s ++ R)) → Q (.ref t) H') : xCall (sp_refusal A) [.ref a'] H2 Q E2 :=
  st_call (of_refusal ⟨a', r, _, rfl, w.now, fun H3 t w3 => k H3 t (((w.tr w3).rot 1 1).drop1)⟩)
theorem ok_law_told (T : Txt K mg A) : FnOk P w K mg base (L2.CX P w) 3 A.f_law_told A.d_law_told P_law_told (sp_told A) := by
  refine T.F_law_told.okX sc_law_told (fun vs H Q E h => ?_) (fun cdv Ar outer s H vs Q E hr h => ?_)
  · unfold sp_told at h; obtain ⟨a, s, x, l, R, rfl, _⟩ := h; rfl
  · unfold sp_told at h
    refine ⟨_, (pss_cons (ps_set (i := 3) sc_law_told.nd rfl (by first | exact Or.inl rfl | exact Or.inr rfl) pe_non)
      (pss_cons (ps_set (i := 4) sc_law_told.nd rfl (by first | exact Or.inl rfl | exact Or.inr rfl) pe_non)
      (pss_cons (my_tryHeld (i := 5) (j := 3) rfl rfl sc_law_told.nd rfl rfl rfl rfl (by decide) ⟨rfl, by decide, Or.inl T.g_RoadError⟩ (by decide) (by decide) (fun _ _ => rfl) (fun W pn xe tk po => (pss_one (ps_set (i := 4) sc_law_told.nd rfl (by first | exact Or.inl rfl | exact Or.inr rfl) (my_ifExp (pt_cmpR op_isN (pv 2) pe_non (nomark _)) (my_methS (pv 0) T.c_Shelf T.m_Shelf_long (ok_Shelf_long T) (hr.mono (by decide)) T.b_Shelf_long tk (pa_cons (pv 1) pa_nil)) (my_methS (pv 0) T.c_Shelf T.m_Shelf_add (ok_Shelf_add T) (hr.mono (by decide)) T.b_Shelf_add tk (pa_cons (pv 1) (pa_cons (pv 2) pa_nil))))))))
      (pss_one (ps_ret (my_ifExp (pt_cmpR op_isN (pv 3) pe_non (nomark _)) (pv 4) (my_call (ok_law_refusal T) (hr.mono (by decide)) (by rfl) T.g_law_refusal T.k_law_refusal T.b_law_refusal passE (pa_cons (pv 3) pa_nil)))))))), ?_⟩
    obtain ⟨a, s, x, l, R, rfl, w, hx, hz, k⟩ := h
    cases l with
    | none =>
      simp only [sTold, lw] at k ⊢
      walk_at "rd"
      refine xIf_T rfl ?_
      walk_at "rd"
      refine st_call (of_Shelf_long ⟨a, s, x, R, rfl, w, fun n e => ?_, fun e => ?_⟩)
      · rw [e] at k
        walk_at "rd"
        refine xIf_T rfl ?_
        exact ⟨_, rfl, k _ w⟩
      · rw [e] at k
        refine ⟨T.m_BadTune, fun a' ha => ?_⟩
        have w1 := w.new (ExH (.ref A.c_BadTune) none a') ha
        walk_at "rd"
        refine xIf_F rfl ?_
        walk_at "rd"
        exact sl_told (r := .tune) w1 k
    | some n =>
      simp only [sTold, lw] at k ⊢
      walk_at "rd"
      refine xIf_F rfl ?_
      walk_at "rd"
      refine st_call (of_Shelf_add ⟨a, s, x, n, R, rfl, w, hx, hz, fun h1 h2 h3 h4 H1 w1 => ?_, fun h1 H1 w1 => ?_, fun h1 h2 h3 h4 H1 w1 => ?_⟩)
      · rw [if_pos ⟨h1, h2, h3⟩, if_pos h4] at k
        walk_at "rd"
        refine xIf_T rfl ?_
        exact ⟨_, rfl, k _ w1⟩
      · rw [if_neg h1] at k
        refine ⟨T.m_BadTune, fun a' ha => ?_⟩
        have w2 := w1.new (ExH (.ref A.c_BadTune) none a') ha
        walk_at "rd"
        refine xIf_F rfl ?_
        walk_at "rd"
        exact sl_told (r := .tune) w2 k
      · rw [if_pos ⟨h1, h2, h3⟩, if_neg h4] at k
        refine ⟨T.m_BadNumber, fun a' ha => ?_⟩
        have w2 := w1.new (ExH (.ref A.c_BadNumber) none a') ha
        walk_at "rd"
        refine xIf_F rfl ?_
        walk_at "rd"
        exact sl_told (r := .number) w2 k
end
end TR

namespace TR
open PySem L2 PyProof.Rows
def bad4 : List Str := ["sevenab", "", "A", "a b"]
def menu0 : List Str := ["a", "b", "sixabc", "sevenab", "", "A", "a b", "c", "d", "e", "f", "g", "h", "i"]
structure NmOk (x : Str) : Prop where
  nm : okN x = true ∨ x ∈ bad4
  len : x.length ≤ 7
  str : PyData.strOk x = true
instance (x : Str) : Decidable (okN x = true ∨ x ∈ bad4) := inferInstance
theorem menu0_ok : ∀ x ∈ menu0, NmOk x := by
  have h : ∀ x ∈ menu0, (okN x = true ∨ x ∈ bad4) ∧ x.length ≤ 7 ∧ PyData.strOk x = true := by decide +kernel
  exact fun x hx => ⟨(h x hx).1, (h x hx).2.1, (h x hx).2.2⟩
theorem bad4_no : ∀ x ∈ bad4, okN x = false := by decide +kernel
theorem small_ok : ∀ c ∈ small.cps.toList, c < 0x110000 := by decide +kernel
theorem okN_str {x : Str} (h : okN x = true) : PyData.strOk x = true := by
  unfold okN at h
  obtain ⟨_, h⟩ := Bool.and_eq_true_iff.mp h
  unfold PyData.strOk
  rw [← Array.all_toList]
  refine List.all_eq_true.mpr fun c hc => ?_
  have h2 := List.all_eq_true.mp h (decide (c ∈ small.cps.toList)) (List.mem_map.mpr ⟨c, hc, rfl⟩)
  exact decide_eq_true (small_ok c (of_decide_eq_true h2))
theorem NmOk.made {cs : List Nat} (h0 : 1 ≤ cs.length) (h1 : cs.length ≤ 6) (h : ∀ c ∈ cs, c ∈ small.cps.toList) : okN ⟨cs.toArray⟩ = true := by
  unfold okN Str.length
  rw [List.size_toArray, decide_eq_true (by omega), decide_eq_true (by omega)]
  show List.all _ id = true
  refine List.all_eq_true.mpr fun b hb => ?_
  obtain ⟨c, hc, rfl⟩ := List.mem_map.mp hb
  exact decide_eq_true (h c hc)
theorem okN_len {x : Str} (h : okN x = true) : x.length ≤ 6 := by
  unfold okN at h
  obtain ⟨h, _⟩ := Bool.and_eq_true_iff.mp h
  obtain ⟨_, h⟩ := Bool.and_eq_true_iff.mp h
  have := of_decide_eq_true h
  omega
theorem joinE : ∀ (cs : List Nat), TL.tl (Str.join (Str.ofString "") (cs.map fun c => (⟨#[c]⟩ : Str))) = cs := by
  intro cs
  rw [TL.tl_join]
  have e : TL.tl (Str.ofString "") = [] := by decide +kernel
  rw [e]
  induction cs with
  | nil => rfl
  | cons c r ih =>
    cases r with
    | nil => rfl
    | cons d r =>
      show [c] ++ ([] ++ TL.joinL [] _) = c :: d :: r
      rw [List.nil_append]
      exact congrArg (c :: ·) ih
theorem join_made (cs : List Nat) : Txt.join (Str.ofString "") (cs.map fun c => (⟨#[c]⟩ : Str)) = ⟨cs.toArray⟩ := by
  rw [TL.join_eq]
  have e := joinE cs
  generalize Str.join (Str.ofString "") (cs.map fun c => (⟨#[c]⟩ : Str)) = z at e
  cases z with
  | mk a =>
    have e' : a.toList = cs := e
    rw [← e']
theorem odd_no {c : Nat} {x : Str} (h : ¬ c ∈ small.cps.toList) : okN (⟨#[c]⟩ ++ x) = false := by
  unfold okN
  have e : ((⟨#[c]⟩ ++ x : Str)).cps.toList = c :: x.cps.toList := by
    show (#[c] ++ x.cps).toList = _
    simp
  rw [e, List.map_cons, decide_eq_false h, List.all_cons]
  simp
theorem lookup_none_iff {s : Sf} {x : Str} : s.lookup x = none ↔ x ∉ s.map (·.1) := by
  rw [List.lookup_eq_none_iff]
  simp only [List.mem_map, not_exists, not_and]
  constructor
  · intro h p hp e
    have := h p hp
    rw [e] at this
    simp at this
  · intro h p hp
    simpa using fun z : x = p.1 => h p hp z.symm
def some6 : List Str := ["a", "b", "c", "d", "e", "f"]
theorem some6_at (i : Nat) (hi : i < 6) (nm : Str) (h : some6[i]? = some nm) : okN nm = true ∧ List.lookup nm ((some6.take i).map fun x => (x, (5 : Int))) = none ∧ ((some6.take i).map fun x => (x, (5 : Int))) ++ [(nm, 5)] = ((some6.take (i + 1)).map fun x => (x, (5 : Int))) := by
  have e : ∀ i, i < 6 → ∃ nm, some6[i]? = some nm ∧ okN nm = true ∧ List.lookup nm ((some6.take i).map fun x => (x, (5 : Int))) = none := by
    intro i hi
    match i with
    | 0 => exact ⟨"a", rfl, by decide +kernel⟩
    | 1 => exact ⟨"b", rfl, by decide +kernel⟩
    | 2 => exact ⟨"c", rfl, by decide +kernel⟩
    | 3 => exact ⟨"d", rfl, by decide +kernel⟩
    | 4 => exact ⟨"e", rfl, by decide +kernel⟩
    | 5 => exact ⟨"f", rfl, by decide +kernel⟩
    | n + 6 => omega
  obtain ⟨nm', e1, e2, e3⟩ := e i hi
  rw [h] at e1
  cases e1
  refine ⟨e2, e3, ?_⟩
  rw [List.take_succ, h, List.map_append]
  rfl
/-- what the law holds -/
abbrev kL (t ld ml : Addr) (n : Nat) (s : Sf) (menu : List Str) : List Ent := [(t, .lst (zeros n)), (ld, .dK (sfK s)), (ml, .lst (menu.map V.str))]
structure SfOk (s : Sf) : Prop where
  sz : s.length ≤ 6
  nm : ∀ x ∈ s.map (·.1), PyData.strOk x = true
section
variable {P : Program} {w : World} {K : PySem.W.Frag} {mg : Str → Option Value} {base : Heap} {A : Ads}
theorem ok_law (T : Txt K mg A) : FnOk P w K mg base (L2.CX P w) 5 A.f_law A.d_law P_law (sp_law K) := by
  refine T.F_law.okX sc_law (fun vs H Q E h => ?_) (fun cdv Ar outer s H vs Q E hr h => ?_)
  · unfold sp_law at h; obtain ⟨a, ns, R, rfl, _⟩ := h; rfl
  · unfold sp_law at h; obtain ⟨sa, ns, R, rfl, sc, w, hl, k⟩ := h
    refine ⟨_, (pss_cons (ps_set (i := 1) sc_law.nd rfl (by first | exact Or.inl rfl | exact Or.inr rfl) (my_lst pa_nil))
      (pss_cons (ps_set (i := 2) sc_law.nd rfl (by first | exact Or.inl rfl | exact Or.inr rfl) (my_make0 T.M_Shelf (ok_Shelf_init__ T) (hr.mono (by decide)) (by rfl) T.g_Shelf T.b_Shelf_init__ passE))
      (pss_cons (ps_set (i := 3) sc_law.nd rfl (by first | exact Or.inl rfl | exact Or.inr rfl) my_dnew)
      (pss_cons (ps_set (i := 4) sc_law.nd rfl (by first | exact Or.inl rfl | exact Or.inr rfl) (my_lst (pa_cons pe_str (pa_cons pe_str (pa_cons pe_str (pa_cons pe_str (pa_cons pe_str (pa_cons pe_str (pa_cons pe_str (pa_cons pe_str (pa_cons pe_str (pa_cons pe_str (pa_cons pe_str (pa_cons pe_str (pa_cons pe_str (pa_cons pe_str pa_nil))))))))))))))))
      (pss_cons (ps_set (i := 5) sc_law.nd rfl (by first | exact Or.inl rfl | exact Or.inr rfl) pe_str)
      (pss_cons (my_for ownE rfl (pi_range1 (by rfl) T.z_range (pa_cons (my_call (ok_law_draw T) (hr.mono (by decide)) (by rfl) T.g_law_draw T.k_law_draw T.b_law_draw passE (pa_cons (pv 0) (pa_cons (pv 1) (pa_cons pe_int pa_nil)))) pa_nil)) (pg_name (i := 6) sc_law.nd rfl (by first | exact Or.inl rfl | exact Or.inr rfl))
        (pss_cons (ps_expr (pe_bm PySem.F.plainAttrs_list PySem.F.slot_list_append PySem.F.type_list_append my_append (pv 4) (pa_cons (my_join pe_str (my_lc (own := [("j", 13)]) rfl sc_law.nd (pi_range1 (by rfl) T.z_range (pa_cons (pe_op op_add pe_int (my_call (ok_law_draw T) (hr.mono (by decide)) (by rfl) T.g_law_draw T.k_law_draw T.b_law_draw passE (pa_cons (pv 0) (pa_cons (pv 1) (pa_cons pe_int pa_nil))))) pa_nil)) (blkOk_by (own := [("j", 13)]) (N := N_law) (sc := defScope s_law) (by decide +kernel)) (fun _ _ _ _ _ => (pg_name (i := 13) sc_law.nd rfl (by first | exact Or.inl rfl | exact Or.inr rfl))) (fun _ _ _ _ _ => pts_nil) (fun _ _ _ _ _ => (pe_ix my_ixS (pv 5) (my_call (ok_law_draw T) (hr.mono (by decide)) (by rfl) T.g_law_draw T.k_law_draw T.b_law_draw passL (pa_cons (pv 0) (pa_cons (pv 1) (pa_cons pe_int pa_nil)))) (fun _ _ => rfl))))) pa_nil)))
      (pss_cons (ps_set (i := 7) sc_law.nd rfl (by first | exact Or.inl rfl | exact Or.inr rfl) (my_call (ok_law_pick T) (hr.mono (by decide)) (by rfl) T.g_law_pick T.k_law_pick T.b_law_pick passE (pa_cons (pv 0) (pa_cons (pv 1) (pa_cons (pv 4) pa_nil)))))
      (pss_cons (ps_set (i := 8) sc_law.nd rfl (by first | exact Or.inl rfl | exact Or.inr rfl) (my_call (ok_law_pick T) (hr.mono (by decide)) (by rfl) T.g_law_pick T.k_law_pick T.b_law_pick passE (pa_cons (pv 0) (pa_cons (pv 1) (pa_cons (my_lc (own := [("sign", 14)]) rfl sc_law.nd (pi_str (my_call0 (ok_law_signs T) (hr.mono (by decide)) (by rfl) T.g_law_signs T.k_law_signs T.b_law_signs passE)) (blkOk_by (own := [("sign", 14)]) (N := N_law) (sc := defScope s_law) (by decide +kernel)) (fun _ _ _ _ _ => (pg_name (i := 14) sc_law.nd rfl (by first | exact Or.inl rfl | exact Or.inr rfl))) (fun _ _ _ _ _ => (pts_one (pt_cmpR op_notIn_sign (pv 14) (pv 5) (by rfl)))) (fun _ _ _ _ _ => (pv 14))) pa_nil)))))
      (pss_cons (my_if (pt_cmpR (my_neD hr.units) (my_call (ok_law_told T) (hr.mono (by decide)) (by rfl) T.g_law_told T.k_law_told T.b_law_told passE (pa_cons (pv 2) (pa_cons (pe_op op_add_str (pv 8) (pe_slice sl_str (pv 7) po_none (po_some pe_int))) (pa_cons pe_int pa_nil)))) (my_tup (pa_cons pe_str (pa_cons pe_str pa_nil))) (nomark _))
        (pss_one (ps_ret pe_bl))
        pss_nil)
      (pss_cons (ps_set (i := 9) sc_law.nd rfl (by first | exact Or.inl rfl | exact Or.inr rfl) (my_call (ok_law_pick T) (hr.mono (by decide)) (by rfl) T.g_law_pick T.k_law_pick T.b_law_pick passE (pa_cons (pv 0) (pa_cons (pv 1) (pa_cons (my_lst (pa_cons pe_int (pa_cons pe_int (pa_cons pe_int (pa_cons pe_int (pa_cons pe_int (pa_cons (pe_un un_neg pe_int) (pa_cons pe_int pa_nil)))))))) pa_nil)))))
      (pss_cons (ps_set (i := 10) sc_law.nd rfl (by first | exact Or.inl rfl | exact Or.inr rfl) pe_non)
      (pss_cons (my_if (PW.pt (my_or (pt_cmpR op_in_seq (pv 7) (my_tup (pa_cons pe_str (pa_cons pe_str (pa_cons pe_str (pa_cons pe_str pa_nil))))) (by rfl)) (my_or (pt_cmp (pc_din (hu_of hr) (pv 7) (pv 3)) (by rfl)) (pw_or1 (pt_cmpR op_eq (pe_callB call_lenD (by rfl) T.z_len PySem.boot_len (pa_cons (pv 3) pa_nil)) pe_int (nomark _))))))
        (pss_one (ps_set (i := 10) sc_law.nd rfl (by first | exact Or.inl rfl | exact Or.inr rfl) (my_tup (pa_cons pe_str (pa_cons pe_str pa_nil)))))
        (pss_one (my_if (pt_not (my_chIT op_le op_le pe_int (pv 9) pe_int still_c still_v still_c))
        (pss_one (ps_set (i := 10) sc_law.nd rfl (by first | exact Or.inl rfl | exact Or.inr rfl) (my_tup (pa_cons pe_str (pa_cons pe_str pa_nil)))))
        (pss_one (my_dput (hu_of hr) (pv 3) (pv 7) (pv 9))))))
      (pss_cons (my_if (PW.pt (my_or (pt_cmpR (my_neD hr.units) (my_call (ok_law_told T) (hr.mono (by decide)) (by rfl) T.g_law_told T.k_law_told T.b_law_told passE (pa_cons (pv 2) (pa_cons (pv 7) (pa_cons (pv 9) pa_nil)))) (pv 10) (nomark _)) (pw_or1 (pt_cmpR (my_neD hr.units) (my_meth0 (pv 2) T.c_Shelf T.m_Shelf_names (ok_Shelf_names T) (hr.mono (by decide)) T.b_Shelf_names passE) (my_sortedKeys rfl (by rfl) T.z_sorted (pv 3)) (nomark _)))))
        (pss_one (ps_ret pe_bl))
        pss_nil)
      (pss_one (ps_expr (pe_bm PySem.F.plainAttrs_list PySem.F.slot_list_append PySem.F.type_list_append my_append (my_meth0 (pv 2) T.c_Shelf T.m_Shelf_names (ok_Shelf_names T) (hr.mono (by decide)) T.b_Shelf_names passE) (pa_cons pe_str pa_nil)))))))))))))
      (pss_cons (my_for ownE rfl (pi_list (pv 4)) (pg_name (i := 7) sc_law.nd rfl (by first | exact Or.inl rfl | exact Or.inr rfl))
        (pss_one (my_if (pt_cmpR (my_neD hr.units) (my_call (ok_law_told T) (hr.mono (by decide)) (by rfl) T.g_law_told T.k_law_told T.b_law_told passE (pa_cons (pv 2) (pa_cons (pv 7) (pa_cons pe_non pa_nil)))) (my_dget2 (hu_of hr) (pv 3) (pv 7) (my_tup (pa_cons pe_str (pa_cons pe_str pa_nil)))) (nomark _))
        (pss_one (ps_ret pe_bl))
        pss_nil)))
      (pss_cons (ps_set (i := 11) sc_law.nd rfl (by first | exact Or.inl rfl | exact Or.inr rfl) (my_make0 T.M_Shelf (ok_Shelf_init__ T) (hr.mono (by decide)) (by rfl) T.g_Shelf T.b_Shelf_init__ passE))
      (pss_cons (ps_set (i := 12) sc_law.nd rfl (by first | exact Or.inl rfl | exact Or.inr rfl) (my_lst (pa_cons pe_str (pa_cons pe_str (pa_cons pe_str (pa_cons pe_str (pa_cons pe_str (pa_cons pe_str pa_nil))))))))
      (pss_cons (my_for ownE rfl (pi_list (pv 12)) (pg_name (i := 7) sc_law.nd rfl (by first | exact Or.inl rfl | exact Or.inr rfl))
        (pss_one (ps_expr (my_meth (pv 11) T.c_Shelf T.m_Shelf_add (ok_Shelf_add T) (hr.mono (by decide)) T.b_Shelf_add passE (pa_cons (pv 7) (pa_cons pe_int pa_nil))))))
      (pss_one (ps_ret (my_andV (pe_cmpR (my_eqD hr.units) (my_call (ok_law_told T) (hr.mono (by decide)) (by rfl) T.g_law_told T.k_law_told T.b_law_told passE (pa_cons (pv 11) (pa_cons pe_str (pa_cons pe_int pa_nil)))) (my_tup (pa_cons pe_str (pa_cons pe_str pa_nil))) (nomark _)) (pe_one (pe_cmpR (my_eqD hr.units) (my_meth0 (pv 11) T.c_Shelf T.m_Shelf_names (ok_Shelf_names T) (hr.mono (by decide)) T.b_Shelf_names passE) (pv 12) (nomark _)))))))))))))))), ?_⟩
    walk_at "rd"
    refine st_new w fun t H1 w1 => ?_
    have w1 : W H H1 ((t, .lst (zeros 0)) :: R) := w1
    walk_at "rd"
    refine st_make w1 fun q0 dx0 H2 w2 => ?_
    refine of_Shelf_init ⟨q0, dx0, _, rfl, w2.now, fun H3 d0 w3 => ?_⟩
    have w4 := w2.tr w3
    clear w3
    walk_at "rd"
    refine st_new w4 fun ld H4 w5 => ?_
    walk_at "rd"
    refine st_new w5 fun ml H5 w6 => ?_
    have w7 : W H H5 (kL t ld ml 0 [] menu0 ++ (sL A ⟨q0, dx0, d0⟩ [] ++ R)) := ((w6.rot 1 1).rot 4 1)
    clear w6 w5 w4 w2 w1
    walk_at "rd"
    refine draw_at w7 0 rfl (by walk_at "scr") (by omega) (by decide) fun H6 w8 dr0 dr1 => ?_
    walk_at "rd"
    refine st_forR (fun i σ H' => ∃ (n : Nat) (s : Sf) (menu : List Str) (u1 u2 u3 u4 u5 : Option V), σ = [some (.ref sa), some (.ref t), some (.ref q0), some (.ref ld), some (.ref ml), some (.str small), u1, u2, u3, u4, u5, none, none, none, none] ∧ SfOk s ∧ n ≤ 1 + 20 * i ∧ menu.length = 14 + i ∧ (∀ x ∈ menu, NmOk x) ∧
        W H H' (kL t ld ml n s menu ++ (sL A ⟨q0, dx0, d0⟩ s ++ R)))
      ⟨1, [], menu0, none, none, none, none, none, rfl, ⟨by decide, fun _ h => nomatch h⟩, by omega, rfl, menu0_ok, w8⟩ ?_ ?_
    · rintro i σ H' hi ⟨n, s, menu, u1, u2, u3, u4, u5, rfl, ok, hn, hm, hmo, w9⟩
      have hi2 : i < 15 := by
        have := Int.toNat_of_nonneg dr0
        omega
      walk_at "rd"
      refine draw_at w9 0 rfl (by walk_at "scr") (by omega) (by decide) fun H7 w10 de0 de1 => ?_
      walk_at "rd"
      generalize hde : (1 + drawP ns n 6 : Int) = de at *
      refine st_lcR (fun D j H' => ∃ (cs : List Nat), cs.length = j ∧ (∀ c ∈ cs, c ∈ small.cps.toList) ∧ W H H' ((D, .lst ((cs.map fun c => (⟨#[c]⟩ : Str)).map V.str)) :: (kL t ld ml (n + 1 + j) s menu ++ (sL A ⟨q0, dx0, d0⟩ s ++ R)))) w10 (fun D H' w1 => ⟨[], rfl, (fun _ h => nomatch h), w1⟩) ?_ ?_
      · rintro D j H' hj ⟨cs, hcs, hcc, w11⟩
        walk_at "rd"
        refine xIf_T rfl ?_
        walk_at "rd"
        refine draw_at w11 1 rfl (by walk_at "scr") (by omega) (by decide) fun H8 w12 df0 df1 => ?_
        have hlt : (drawP ns (n + 1 + j) 26).toNat < small.cps.toList.length := by
          rw [show small.cps.toList.length = 26 from by decide +kernel]
          omega
        refine st_ixS (z := small) (by decide +kernel) (Int.toNat_of_nonneg df0).symm (List.getElem?_eq_getElem hlt) ?_
        refine st_acc w12 0 rfl (by rw [List.length_map, List.length_map, hcs]; exact szL (by omega)) fun H9 w13 => ?_
        refine ⟨cs ++ [small.cps.toList[(drawP ns (n + 1 + j) 26).toNat]], by rw [List.length_append, hcs]; rfl, ?_, ?_⟩
        · intro c hc
          rcases List.mem_append.mp hc with h | h
          · exact hcc c h
          · rw [List.mem_singleton.mp h]
            exact List.getElem_mem _
        · rw [List.map_append, List.map_append]
          exact w13
      · rintro D H' ⟨cs, hcs, hcc, w11⟩
        walk_at "rd"
        have hcl : 1 ≤ cs.length ∧ cs.length ≤ 6 := by omega
        refine st_join (SqL.of (w11.get 0 rfl)) ?_ ?_
        · rw [show (Str.ofString "").length = 0 from by decide +kernel, Nat.mul_zero, List.map_map]
          have : ∀ l : List Nat, (l.map ((fun x : Str => x.length) ∘ fun c => (⟨#[c]⟩ : Str))).sum = l.length := by
            intro l
            induction l with
            | nil => rfl
            | cons c r ih =>
              rw [List.map_cons, List.sum_cons, ih, List.length_cons]
              show 1 + r.length = _
              omega
          rw [this]
          omega
        · rw [join_made]
          have hmd := NmOk.made hcl.1 hcl.2 hcc
          generalize hnw : (⟨cs.toArray⟩ : Str) = nw at *
          refine st_app w11 3 rfl (by rw [List.length_map]; exact szL (by omega)) fun H8 w12 => ?_
          have w13 : W H H8 (kL t ld ml (n + 1 + de.toNat) s (menu ++ [nw]) ++ (sL A ⟨q0, dx0, d0⟩ s ++ R)) := by
            have w14 := W.drop1 w12
            rw [show menu.map V.str ++ [V.str nw] = (menu ++ [nw]).map V.str from by rw [List.map_append]; rfl] at w14
            exact w14
          have hmo2 : ∀ x ∈ menu ++ [nw], NmOk x := fun x hx => by
            rcases List.mem_append.mp hx with h | h
            · exact hmo x h
            · rw [List.mem_singleton.mp h]
              exact ⟨.inl hmd, by have := okN_len hmd; omega, okN_str hmd⟩
          have hmL : (menu ++ [nw]).length = 14 + (i + 1) := by rw [List.length_append, hm]; rfl
          have hn2 : n + 1 + de.toNat ≤ 8 + 20 * i := by omega
          generalize menu ++ [nw] = menu2 at *
          generalize n + 1 + de.toNat = n2 at *
          clear w12 w11 w10 w9 w8 w7
          walk_at "rd"
          refine pick_at w13 0 1 rfl rfl (by walk_at "scr") (by omega) (by intro z; have := congrArg List.length z; rw [List.length_map, hmL] at this; cases this) fun H9 v w14 _ hv => ?_
          obtain ⟨nm, hnm, rfl⟩ := List.mem_map.mp hv
          have hno := hmo2 nm hnm
          walk_at "rd"
          refine st_call (of_signs ⟨rfl, ?_⟩)
          walk_at "rd"
          refine st_lcS (fun D j H' => ∃ cs : List Nat, cs.length ≤ j ∧ (∀ c ∈ cs, ¬ c ∈ small.cps.toList) ∧ (1 ≤ j → cs ≠ []) ∧ W H H' ((D, .lst (cs.map fun c => V.str ⟨#[c]⟩)) :: (kL t ld ml (n2 + 1) s menu2 ++ (sL A ⟨q0, dx0, d0⟩ s ++ R)))) w14 (fun D H' w1 => ⟨[], Nat.le_refl _, (fun _ h => nomatch h), (fun h => by omega), w1⟩) ?_ ?_
          · rintro D j c H' hc ⟨cs, hcs, hcc, hcn, w15⟩
            have hj : j < 200 := by
              have := (List.getElem?_eq_some_iff.mp hc).1
              rw [show (Str.ofString " !\"#$&'()*+,-./0123456789:;<=>?@ABCDEFGHIJKLMNOPQRSTUVWXYZ[\\]^_`abcdefghijklmnopqrstuvwxyz{|}~").cps.toList.length = 94 from by decide +kernel] at this
              omega
            walk_at "rd"
            refine xIf_2 (fun h => ?_) (fun h => ?_)
            · walk_at "rd"
              refine st_acc w15 0 rfl (by rw [List.length_map]; exact szL (by omega)) fun H10 w16 => ?_
              refine ⟨cs ++ [c], by rw [List.length_append]; exact Nat.succ_le_succ hcs, ?_, fun _ z => by simp at z, ?_⟩
              · intro d hd
                rcases List.mem_append.mp hd with q | q
                · exact hcc d q
                · rw [List.mem_singleton.mp q]
                  have h2 : (!decide (c ∈ small.cps.toList)) = true := h
                  simpa using h2
              · rw [List.map_append]
                exact w16
            · refine ⟨cs, by omega, hcc, fun _ => ?_, w15⟩
              cases j with
              | zero =>
                exfalso
                have h2 : (!decide (c ∈ small.cps.toList)) = false := h
                have h3 : c ∈ small.cps.toList := by simpa using h2
                have h4 : c = 32 := Option.some.inj (hc.symm.trans (by decide +kernel))
                rw [h4] at h3
                exact absurd h3 (by decide +kernel)
              | succ j => exact hcn (by omega)
          rintro D H10 ⟨cs, hcs, hcc, hcn, w15⟩
          walk_at "rd"
          refine pick_at w15 1 0 rfl rfl (by walk_at "scr") (by omega) (by intro z; exact hcn (by decide +kernel) (List.map_eq_nil_iff.mp z)) fun H11 v w16 _ hv => ?_
          obtain ⟨c, hc, rfl⟩ := List.mem_map.mp hv
          have w17 : W H H11 (kL t ld ml (n2 + 1 + 1) s menu2 ++ (sL A ⟨q0, dx0, d0⟩ s ++ R)) := W.drop1 w16
          clear w16 w15 w14 w13
          have hl7 := hno.len
          have hcut : (cutS nm none (some 4)).length ≤ 7 := by
            unfold cutS Str.length
            rw [List.size_toArray, List.length_take, List.length_drop]
            show min _ (nm.cps.toList.length - _) ≤ 7
            have : nm.cps.toList.length = nm.length := by simp [Str.length]
            omega
          have hnz : nm.length ≤ sizeLine := szE (by omega)
          have hoz : (⟨#[c]⟩ : Str).length + (cutS nm none (some 4)).length ≤ sizeLine := by
            have : (⟨#[c]⟩ : Str).length = 1 := rfl
            exact szE (by omega)
          walk_at "rd"
          have hox := odd_no (x := cutS nm none (some 4)) (hcc c hc)
          have hol : ((⟨#[c]⟩ : Str) ++ cutS nm none (some 4)).length < 1000 := by
            show (#[c] ++ (cutS nm none (some 4)).cps).size < 1000
            rw [Array.size_append]
            have : (cutS nm none (some 4)).cps.size ≤ 7 := hcut
            show 1 + _ < 1000
            omega
          have hsz := ok.sz
          refine st_call (of_told ⟨⟨q0, dx0, d0⟩, s, _, some 5, _, rfl, (w17.rot 3 2).now, hol, by omega, ?_⟩)
          simp only [sTold]
          rw [if_neg (fun z => by rw [hox] at z; cases z.1)]
          intro H12 t1 w18
          have w19 := w17.tr w18
          walk_at "rd"
          refine st_new w19 fun t2 H13 w20 => ?_
          walk_at "rd"
          refine st_neS (dp_refT (r := .tune) (w20.get 1 rfl)) (dp_refT (r := .tune) (w20.get 0 rfl)) sh_refT ?_
          walk_at "rd"
          refine xIf_F rfl ?_
          have w21 : W H H13 (kL t ld ml (n2 + 1 + 1) s menu2 ++ (sL A ⟨q0, dx0, d0⟩ s ++ R)) := (w20.drop1.drop1).rot 2 3
          clear w20 w19 w18 w17
          walk_at "rd"
          refine st_new w21 fun l1 H14 w22 => ?_
          walk_at "rd"
          refine pick_at w22 1 0 rfl rfl (by walk_at "scr") (by omega) (by intro z; cases z) fun H15 v w23 _ hv2 => ?_
          obtain ⟨m, rfl⟩ : ∃ m, v = V.int m := by
            simp only [List.mem_cons, List.not_mem_nil, or_false] at hv2
            rcases hv2 with h | h | h | h | h | h | h
            all_goals exact ⟨_, h⟩
          have w24 : W H H15 (kL t ld ml (n2 + 1 + 1 + 1) s menu2 ++ (sL A ⟨q0, dx0, d0⟩ s ++ R)) := W.drop1 w23
          clear w23 w22 w21
          walk_at "rd"
          refine st_new w24 fun t4 H16 w25 => ?_
          walk_at "rd"
          by_cases hb4 : nm ∈ bad4
          · refine xIf_T (by show inV (.str nm) (bad4.map V.str) = true; rw [inV_strs, decide_eq_true hb4]) ?_
            have hB : ¬ (okN nm = true ∧ s.lookup nm = none ∧ s.length ≠ 6) := fun z => by
              rw [bad4_no nm hb4] at z; cases z.1
            refine xIf_T rfl ?_
            walk_at "rd"
            refine st_new w25 fun tp H17 w26 => ?_
            walk_at "rd"
            refine st_call (of_told ⟨⟨q0, dx0, d0⟩, s, nm, some m, _, rfl, (w26.rot 5 2).now, by omega, by omega, ?_⟩)
            simp only [sTold]
            rw [if_neg hB]
            intro H18 t5 w27
            have w28 := w26.tr w27
            walk_at "rd"
            refine st_neS (dp_refT (r := .tune) (w28.get 0 rfl)) (dp_refT (r := .tune) (w28.get 3 rfl)) sh_refT ?_
            walk_at "rd"
            refine xIf_F rfl ?_
            obtain ⟨s2, hs2⟩ : ∃ s2, s2 = s := ⟨s, rfl⟩
            have ok2 : SfOk s2 := by rw [hs2]; exact ok
            have wN : W H H18 (kL t ld ml (n2 + 1 + 1 + 1) s2 menu2 ++ (sL A ⟨q0, dx0, d0⟩ s2 ++ R)) := by
              rw [hs2]
              exact (((w28.rot 3 2).drop1.drop1).drop1).rot 2 3
            clear w28 w27 w26 w25 w24
            have hnm2 : ∀ x ∈ s2.map (·.1), PyData.strOk x = true := ok2.nm
            have hsz2 := ok2.sz
            walk_at "rd"
            refine st_call (of_Shelf_names ⟨⟨q0, dx0, d0⟩, s2, _, rfl, (wN.rot 3 2).now, by omega, fun ys p1 HN1 hp1 hs1 wN1 => ?_⟩)
            have wN2 := wN.tr wN1
            walk_at "rd"
            refine st_sortD wN2 4 rfl (sfK_keys s2) (by rw [List.length_map]; omega) fun ys2 p2 HN2 hp2 hs2 wN3 => ?_
            obtain rfl : ys = ys2 := sortedS_same (hp1.trans hp2.symm) hs1 hs2
            refine st_neS (dp_strs (SqL.of (wN3.get 1 rfl))) (dp_strs (SqL.of (wN3.get 0 rfl))) (sh_list (sh_strs fun x hx => hnm2 x (hp1.mem_iff.mp hx))) ?_
            walk_at "rd"
            refine xIf_F rfl ?_
            walk_at "rd"
            refine st_call (of_Shelf_names ⟨⟨q0, dx0, d0⟩, s2, _, rfl, (wN3.rot 2 2).now, by omega, fun ys3 p3 HN3 hp3 hs3 wN4 => ?_⟩)
            have wN5 := wN3.tr wN4
            have hyl : ys3.length ≤ 6 := by rw [hp3.length_eq, List.length_map]; exact hsz2
            walk_at "rd"
            refine st_app wN5 0 rfl (by rw [List.length_map]; exact szL (by omega)) fun HN4 wN6 => ?_
            exact ⟨n2 + 1 + 1 + 1, s2, menu2, _, _, _, _, _, rfl, ok2, by omega, hmL, hmo2, ((W.drop1 wN6).rot 2 5).drop1.drop1⟩
          have hoN : okN nm = true := hno.nm.resolve_right hb4
          refine xIf_F (by show inV (.str nm) (bad4.map V.str) = false; rw [inV_strs, decide_eq_false hb4]) ?_
          walk_at "rd"
          rw [sfK_val]
          cases hlk : s.lookup nm with
          | some z =>
            refine xIf_T rfl ?_
            have hB : ¬ (okN nm = true ∧ s.lookup nm = none ∧ s.length ≠ 6) := fun q => by
              rw [hlk] at q; cases q.2.1
            refine xIf_T rfl ?_
            walk_at "rd"
            refine st_new w25 fun tp H17 w26 => ?_
            walk_at "rd"
            refine st_call (of_told ⟨⟨q0, dx0, d0⟩, s, nm, some m, _, rfl, (w26.rot 5 2).now, by omega, by omega, ?_⟩)
            simp only [sTold]
            rw [if_neg hB]
            intro H18 t5 w27
            have w28 := w26.tr w27
            walk_at "rd"
            refine st_neS (dp_refT (r := .tune) (w28.get 0 rfl)) (dp_refT (r := .tune) (w28.get 3 rfl)) sh_refT ?_
            walk_at "rd"
            refine xIf_F rfl ?_
            obtain ⟨s2, hs2⟩ : ∃ s2, s2 = s := ⟨s, rfl⟩
            have ok2 : SfOk s2 := by rw [hs2]; exact ok
            have wN : W H H18 (kL t ld ml (n2 + 1 + 1 + 1) s2 menu2 ++ (sL A ⟨q0, dx0, d0⟩ s2 ++ R)) := by
              rw [hs2]
              exact (((w28.rot 3 2).drop1.drop1).drop1).rot 2 3
            clear w28 w27 w26 w25 w24
            have hnm2 : ∀ x ∈ s2.map (·.1), PyData.strOk x = true := ok2.nm
            have hsz2 := ok2.sz
            walk_at "rd"
            refine st_call (of_Shelf_names ⟨⟨q0, dx0, d0⟩, s2, _, rfl, (wN.rot 3 2).now, by omega, fun ys p1 HN1 hp1 hs1 wN1 => ?_⟩)
            have wN2 := wN.tr wN1
            walk_at "rd"
            refine st_sortD wN2 4 rfl (sfK_keys s2) (by rw [List.length_map]; omega) fun ys2 p2 HN2 hp2 hs2 wN3 => ?_
            obtain rfl : ys = ys2 := sortedS_same (hp1.trans hp2.symm) hs1 hs2
            refine st_neS (dp_strs (SqL.of (wN3.get 1 rfl))) (dp_strs (SqL.of (wN3.get 0 rfl))) (sh_list (sh_strs fun x hx => hnm2 x (hp1.mem_iff.mp hx))) ?_
            walk_at "rd"
            refine xIf_F rfl ?_
            walk_at "rd"
            refine st_call (of_Shelf_names ⟨⟨q0, dx0, d0⟩, s2, _, rfl, (wN3.rot 2 2).now, by omega, fun ys3 p3 HN3 hp3 hs3 wN4 => ?_⟩)
            have wN5 := wN3.tr wN4
            have hyl : ys3.length ≤ 6 := by rw [hp3.length_eq, List.length_map]; exact hsz2
            walk_at "rd"
            refine st_app wN5 0 rfl (by rw [List.length_map]; exact szL (by omega)) fun HN4 wN6 => ?_
            exact ⟨n2 + 1 + 1 + 1, s2, menu2, _, _, _, _, _, rfl, ok2, by omega, hmL, hmo2, ((W.drop1 wN6).rot 2 5).drop1.drop1⟩
          | none =>
          refine xIf_F rfl ?_
          walk_at "rd"
          rw [sfK_len]
          refine xIf_2 (fun h => ?_) (fun h => ?_)
          · have h6 := de_t h
            have hB : ¬ (okN nm = true ∧ s.lookup nm = none ∧ s.length ≠ 6) := fun q => q.2.2 (by omega)
            walk_at "rd"
            refine st_new w25 fun tp H17 w26 => ?_
            walk_at "rd"
            refine st_call (of_told ⟨⟨q0, dx0, d0⟩, s, nm, some m, _, rfl, (w26.rot 5 2).now, by omega, by omega, ?_⟩)
            simp only [sTold]
            rw [if_neg hB]
            intro H18 t5 w27
            have w28 := w26.tr w27
            walk_at "rd"
            refine st_neS (dp_refT (r := .tune) (w28.get 0 rfl)) (dp_refT (r := .tune) (w28.get 3 rfl)) sh_refT ?_
            walk_at "rd"
            refine xIf_F rfl ?_
            obtain ⟨s2, hs2⟩ : ∃ s2, s2 = s := ⟨s, rfl⟩
            have ok2 : SfOk s2 := by rw [hs2]; exact ok
            have wN : W H H18 (kL t ld ml (n2 + 1 + 1 + 1) s2 menu2 ++ (sL A ⟨q0, dx0, d0⟩ s2 ++ R)) := by
              rw [hs2]
              exact (((w28.rot 3 2).drop1.drop1).drop1).rot 2 3
            clear w28 w27 w26 w25 w24
            have hnm2 : ∀ x ∈ s2.map (·.1), PyData.strOk x = true := ok2.nm
            have hsz2 := ok2.sz
            walk_at "rd"
            refine st_call (of_Shelf_names ⟨⟨q0, dx0, d0⟩, s2, _, rfl, (wN.rot 3 2).now, by omega, fun ys p1 HN1 hp1 hs1 wN1 => ?_⟩)
            have wN2 := wN.tr wN1
            walk_at "rd"
            refine st_sortD wN2 4 rfl (sfK_keys s2) (by rw [List.length_map]; omega) fun ys2 p2 HN2 hp2 hs2 wN3 => ?_
            obtain rfl : ys = ys2 := sortedS_same (hp1.trans hp2.symm) hs1 hs2
            refine st_neS (dp_strs (SqL.of (wN3.get 1 rfl))) (dp_strs (SqL.of (wN3.get 0 rfl))) (sh_list (sh_strs fun x hx => hnm2 x (hp1.mem_iff.mp hx))) ?_
            walk_at "rd"
            refine xIf_F rfl ?_
            walk_at "rd"
            refine st_call (of_Shelf_names ⟨⟨q0, dx0, d0⟩, s2, _, rfl, (wN3.rot 2 2).now, by omega, fun ys3 p3 HN3 hp3 hs3 wN4 => ?_⟩)
            have wN5 := wN3.tr wN4
            have hyl : ys3.length ≤ 6 := by rw [hp3.length_eq, List.length_map]; exact hsz2
            walk_at "rd"
            refine st_app wN5 0 rfl (by rw [List.length_map]; exact szL (by omega)) fun HN4 wN6 => ?_
            exact ⟨n2 + 1 + 1 + 1, s2, menu2, _, _, _, _, _, rfl, ok2, by omega, hmL, hmo2, ((W.drop1 wN6).rot 2 5).drop1.drop1⟩
          have h6 := de_f h
          have hB : okN nm = true ∧ s.lookup nm = none ∧ s.length ≠ 6 := ⟨hoN, hlk, by omega⟩
          walk_at "rd"
          refine xIf_2 (fun h => ?_) (fun h => ?_)
          · have hM := nb_t h
            walk_at "rd"
            refine st_new w25 fun tp H17 w26 => ?_
            walk_at "rd"
            refine st_call (of_told ⟨⟨q0, dx0, d0⟩, s, nm, some m, _, rfl, (w26.rot 5 2).now, by omega, by omega, ?_⟩)
            simp only [sTold]
            rw [if_pos hB, if_neg hM]
            intro H18 t5 w27
            have w28 := w26.tr w27
            walk_at "rd"
            refine st_neS (dp_refT (r := .number) (w28.get 0 rfl)) (dp_refT (r := .number) (w28.get 3 rfl)) sh_refT ?_
            walk_at "rd"
            refine xIf_F rfl ?_
            obtain ⟨s2, hs2⟩ : ∃ s2, s2 = s := ⟨s, rfl⟩
            have ok2 : SfOk s2 := by rw [hs2]; exact ok
            have wN : W H H18 (kL t ld ml (n2 + 1 + 1 + 1) s2 menu2 ++ (sL A ⟨q0, dx0, d0⟩ s2 ++ R)) := by
              rw [hs2]
              exact (((w28.rot 3 2).drop1.drop1).drop1).rot 2 3
            clear w28 w27 w26 w25 w24
            have hnm2 : ∀ x ∈ s2.map (·.1), PyData.strOk x = true := ok2.nm
            have hsz2 := ok2.sz
            walk_at "rd"
            refine st_call (of_Shelf_names ⟨⟨q0, dx0, d0⟩, s2, _, rfl, (wN.rot 3 2).now, by omega, fun ys p1 HN1 hp1 hs1 wN1 => ?_⟩)
            have wN2 := wN.tr wN1
            walk_at "rd"
            refine st_sortD wN2 4 rfl (sfK_keys s2) (by rw [List.length_map]; omega) fun ys2 p2 HN2 hp2 hs2 wN3 => ?_
            obtain rfl : ys = ys2 := sortedS_same (hp1.trans hp2.symm) hs1 hs2
            refine st_neS (dp_strs (SqL.of (wN3.get 1 rfl))) (dp_strs (SqL.of (wN3.get 0 rfl))) (sh_list (sh_strs fun x hx => hnm2 x (hp1.mem_iff.mp hx))) ?_
            walk_at "rd"
            refine xIf_F rfl ?_
            walk_at "rd"
            refine st_call (of_Shelf_names ⟨⟨q0, dx0, d0⟩, s2, _, rfl, (wN3.rot 2 2).now, by omega, fun ys3 p3 HN3 hp3 hs3 wN4 => ?_⟩)
            have wN5 := wN3.tr wN4
            have hyl : ys3.length ≤ 6 := by rw [hp3.length_eq, List.length_map]; exact hsz2
            walk_at "rd"
            refine st_app wN5 0 rfl (by rw [List.length_map]; exact szL (by omega)) fun HN4 wN6 => ?_
            exact ⟨n2 + 1 + 1 + 1, s2, menu2, _, _, _, _, _, rfl, ok2, by omega, hmL, hmo2, ((W.drop1 wN6).rot 2 5).drop1.drop1⟩
          · have hM := nb_f h
            walk_at "rd"
            refine st_dput w25 2 (key := Sum.inr _) rfl rfl (by rw [sfK_len]; exact szL (by omega)) fun H17 w26 => ?_
            rw [sfK_put hB.2.1] at w26
            have w27 : W H H17 ((t4, .tup (bad4.map V.str)) :: [(t, .lst (zeros (n2 + 1 + 1 + 1))), (ld, .dK (sfK (s ++ [(nm, m)]))), (ml, .lst (menu2.map V.str))] ++ (sL A ⟨q0, dx0, d0⟩ s ++ R)) := w26
            walk_at "rd"
            refine st_call (of_told ⟨⟨q0, dx0, d0⟩, s, nm, some m, _, rfl, (w27.rot 4 2).now, by omega, by omega, ?_⟩)
            simp only [sTold]
            rw [if_pos hB, if_pos hM]
            intro H18 w28
            have w29 := w27.tr w28
            walk_at "rd"
            refine st_neS .non .non sh_non ?_
            walk_at "rd"
            refine xIf_F rfl ?_
            obtain ⟨s2, hs2⟩ : ∃ s2, s2 = s ++ [(nm, m)] := ⟨_, rfl⟩
            have ok2 : SfOk s2 := by
              rw [hs2]
              refine ⟨?_, fun x hx => ?_⟩
              · rw [List.length_append]
                have := hB.2.2
                show s.length + 1 ≤ 6
                omega
              · rw [List.map_append] at hx
                rcases List.mem_append.mp hx with q | q
                · exact ok.nm x q
                · rw [List.mem_singleton.mp q]
                  exact hno.str
            have wN : W H H18 (kL t ld ml (n2 + 1 + 1 + 1) s2 menu2 ++ (sL A ⟨q0, dx0, d0⟩ s2 ++ R)) := by
              rw [hs2]
              exact ((w29.rot 2 1).drop1).rot 2 3
            clear w29 w28 w27 w26 w25 w24
            have hnm2 : ∀ x ∈ s2.map (·.1), PyData.strOk x = true := ok2.nm
            have hsz2 := ok2.sz
            walk_at "rd"
            refine st_call (of_Shelf_names ⟨⟨q0, dx0, d0⟩, s2, _, rfl, (wN.rot 3 2).now, by omega, fun ys p1 HN1 hp1 hs1 wN1 => ?_⟩)
            have wN2 := wN.tr wN1
            walk_at "rd"
            refine st_sortD wN2 4 rfl (sfK_keys s2) (by rw [List.length_map]; omega) fun ys2 p2 HN2 hp2 hs2 wN3 => ?_
            obtain rfl : ys = ys2 := sortedS_same (hp1.trans hp2.symm) hs1 hs2
            refine st_neS (dp_strs (SqL.of (wN3.get 1 rfl))) (dp_strs (SqL.of (wN3.get 0 rfl))) (sh_list (sh_strs fun x hx => hnm2 x (hp1.mem_iff.mp hx))) ?_
            walk_at "rd"
            refine xIf_F rfl ?_
            walk_at "rd"
            refine st_call (of_Shelf_names ⟨⟨q0, dx0, d0⟩, s2, _, rfl, (wN3.rot 2 2).now, by omega, fun ys3 p3 HN3 hp3 hs3 wN4 => ?_⟩)
            have wN5 := wN3.tr wN4
            have hyl : ys3.length ≤ 6 := by rw [hp3.length_eq, List.length_map]; exact hsz2
            walk_at "rd"
            refine st_app wN5 0 rfl (by rw [List.length_map]; exact szL (by omega)) fun HN4 wN6 => ?_
            exact ⟨n2 + 1 + 1 + 1, s2, menu2, _, _, _, _, _, rfl, ok2, by omega, hmL, hmo2, ((W.drop1 wN6).rot 2 5).drop1.drop1⟩
    · rintro σ H' ⟨n, s, menu, u1, u2, u3, u4, u5, rfl, ok, hn, hm, hmo, w9⟩
      clear w7 w8
      have hsz := ok.sz
      walk_at "rd"
      refine st_forL (fun i σ H' => ∃ u2 : Option V, σ = [some (.ref sa), some (.ref t), some (.ref q0), some (.ref ld), some (.ref ml), some (.str small), u1, u2, u3, u4, u5, none, none, none, none] ∧ W H H' (kL t ld ml n s menu ++ (sL A ⟨q0, dx0, d0⟩ s ++ R)))
        ⟨u2, rfl, w9⟩ (fun i σ H' _ ⟨u, _, w1⟩ => SqL.of (w1.get 2 rfl)) ?_ ?_
      · rintro i x σ H2 hx ⟨u, rfl, w1⟩
        obtain ⟨nm, hnm, rfl⟩ := List.mem_map.mp (List.mem_of_getElem? hx)
        have hno := hmo nm hnm
        have hl7 := hno.len
        walk_at "rd"
        refine st_call (of_told ⟨⟨q0, dx0, d0⟩, s, nm, none, _, rfl, (w1.rot 3 2).now, by omega, by omega, ?_⟩)
        simp only [sTold]
        have hv := sfK_val s nm
        cases hlk : s.lookup nm with
        | some m =>
          rw [hlk] at hv
          intro H3 w2
          have w3 := w1.tr w2
          walk_at "rd"
          refine ⟨.inl ⟨_, .inl (w3.get 3 rfl)⟩, ?_⟩
          walk_at "rd"
          refine st_new w3 fun t5 H4 w4 => ?_
          refine ⟨some (.int m), ?_, ?_⟩
          · rw [show some (V.int m) = valV (sfK s) (Sum.inr nm) from hv.symm]
            exact DGet.k (k := Sum.inr nm) (w4.get 4 rfl)
          · refine st_neS (.int _) (.int _) (sh_int _) ?_
            walk_at "rd"
            refine xIf_F rfl ?_
            exact ⟨_, rfl, (w4.drop1).rot 2 3⟩
        | none =>
          rw [hlk] at hv
          intro H3 t4 w2
          have w3 := w1.tr w2
          walk_at "rd"
          refine ⟨.inl ⟨_, .inl (w3.get 4 rfl)⟩, ?_⟩
          walk_at "rd"
          refine st_new w3 fun t5 H4 w4 => ?_
          refine ⟨none, ?_, ?_⟩
          · rw [show (none : Option V) = valV (sfK s) (Sum.inr nm) from hv.symm]
            exact DGet.k (k := Sum.inr nm) (w4.get 5 rfl)
          · refine st_neS (dp_refT (r := .tune) (w4.get 1 rfl)) (dp_refT (r := .tune) (w4.get 0 rfl)) sh_refT ?_
            walk_at "rd"
            refine xIf_F rfl ?_
            exact ⟨_, rfl, (w4.drop1.drop1).rot 2 3⟩
      · rintro σ H2 ⟨u, rfl, w1⟩
        obtain ⟨R2, w3⟩ : ∃ R2, W H H2 R2 := ⟨_, w1⟩
        clear w1 w9
        walk_at "rd"
        refine st_make w3 fun q dx H3 w4 => ?_
        refine of_Shelf_init ⟨q, dx, _, rfl, w4.now, fun H4 d w5 => ?_⟩
        have w6 := w4.tr w5
        clear w5 w4
        walk_at "rd"
        refine st_new w6 fun sl H5 w7 => ?_
        replace w7 : W H H5 ((sl, .lst (some6.map V.str)) :: (sL A ⟨q, dx, d⟩ [] ++ R2)) := w7
        walk_at "rd"
        refine st_forL (xs := some6.map V.str) (fun i σ H' => ∃ u2 : Option V, σ = [some (.ref sa), some (.ref t), some (.ref q0), some (.ref ld), some (.ref ml), some (.str small), u1, u2, u3, u4, u5, some (.ref q), some (.ref sl), none, none] ∧ W H H' ((sl, .lst (some6.map V.str)) :: (sL A ⟨q, dx, d⟩ ((some6.take i).map fun x => (x, 5)) ++ R2)))
          ⟨u, rfl, w7⟩ (fun i σ H' _ ⟨u, _, w1⟩ => SqL.of (w1.get 0 rfl)) ?_ ?_
        · rintro i x σ H6 hx ⟨v1, rfl, w8⟩
          have hi : i < 6 := by
            have := (List.getElem?_eq_some_iff.mp hx).1
            exact this
          obtain ⟨nm, hnm, hx2⟩ : ∃ nm, some6[i]? = some nm ∧ V.str nm = x := by
            rw [List.getElem?_map] at hx
            cases h : some6[i]? with
            | none => rw [h] at hx; cases hx
            | some nm => rw [h] at hx; exact ⟨nm, rfl, Option.some.inj hx⟩
          subst hx2
          obtain ⟨g1, g2, g3⟩ := some6_at i hi nm hnm
          walk_at "rd"
          have hnl : nm.length < 1000 := by have := okN_len g1; omega
          have hl6 : ((some6.take i).map fun x => (x, (5 : Int))).length = i := by
            rw [List.length_map, List.length_take]
            show min i 6 = i
            omega
          refine st_call (of_Shelf_add ⟨⟨q, dx, d⟩, _, nm, 5, _, rfl, (w8.rot 1 2).now, hnl, by rw [hl6]; omega, fun _ _ _ _ H7 w9 => ?_, fun z => absurd ⟨g1, g2, by rw [hl6]; omega⟩ z, fun _ _ _ z => absurd ⟨by decide, by decide⟩ z⟩)
          rw [g3] at w9
          exact ⟨_, rfl, (w8.tr w9).rot 2 1⟩
        · rintro σ H6 ⟨v1, rfl, w8⟩
          replace w8 : W H H6 ((sl, .lst (some6.map V.str)) :: (sL A ⟨q, dx, d⟩ (some6.map fun x => (x, 5)) ++ R2)) := w8
          walk_at "rd"
          refine st_call (of_told ⟨⟨q, dx, d⟩, _, "g", some 0, _, rfl, (w8.rot 1 2).now, by decide +kernel, by decide +kernel, ?_⟩)
          simp only [sTold]
          rw [if_neg (fun z => z.2.2 (by rw [List.length_map]; rfl))]
          intro H7 t5 w9
          have w10 := w8.tr w9
          walk_at "rd"
          refine st_new w10 fun t6 H8 w11 => ?_
          refine st_eqS (dp_refT (r := .tune) (w11.get 1 rfl)) (dp_refT (r := .tune) (w11.get 0 rfl)) sh_refT ?_
          walk_at "rd"
          refine xIf_T rfl ?_
          walk_at "rd"
          refine st_call (of_Shelf_names ⟨⟨q, dx, d⟩, _, _, rfl, (w11.rot 2 2).now, by decide +kernel, fun ys p1 H9 hp1 hs1 w12 => ?_⟩)
          have w13 := w11.tr w12
          have ey : ys = some6 := sortedS_same (hp1.trans (by rw [List.map_map]; exact List.Perm.of_eq (List.map_id _))) hs1 (by decide +kernel)
          subst ey
          walk_at "rd"
          refine st_eqS (dp_strs (SqL.of (w13.get 0 rfl))) (dp_strs (SqL.of (w13.get 5 rfl))) (sh_list (sh_strs (by decide +kernel))) (k H9)
end
end TR
namespace TR
open PySem PySem.Spec PyProof.Rows L2
def dd_look_name : He.DefD := ⟨("look_name", none), "look_name", "look_name", defArgs s_look_name, defBody s_look_name, defScope s_look_name, [], []⟩
def dd_Shelf_init__ : He.DefD := ⟨("Shelf", some "__init__"), "__init__", "Shelf.__init__", defArgs s_Shelf_init__, defBody s_Shelf_init__, defScope s_Shelf_init__, [], []⟩
def dd_Shelf_add : He.DefD := ⟨("Shelf", some "add"), "add", "Shelf.add", defArgs s_Shelf_add, defBody s_Shelf_add, defScope s_Shelf_add, [], []⟩
def dd_Shelf_need : He.DefD := ⟨("Shelf", some "need"), "need", "Shelf.need", defArgs s_Shelf_need, defBody s_Shelf_need, defScope s_Shelf_need, [], []⟩
def dd_Shelf_long : He.DefD := ⟨("Shelf", some "long"), "long", "Shelf.long", defArgs s_Shelf_long, defBody s_Shelf_long, defScope s_Shelf_long, [], []⟩
def dd_Shelf_names : He.DefD := ⟨("Shelf", some "names"), "names", "Shelf.names", defArgs s_Shelf_names, defBody s_Shelf_names, defScope s_Shelf_names, [], []⟩
def dd_law_cell : He.DefD := ⟨("_law_cell", none), "_law_cell", "_law_cell", defArgs s_law_cell, defBody s_law_cell, defScope s_law_cell, [], []⟩
def dd_law_mix : He.DefD := ⟨("_law_mix", none), "_law_mix", "_law_mix", defArgs s_law_mix, defBody s_law_mix, defScope s_law_mix, [], []⟩
def dd_law_draw : He.DefD := ⟨("_law_draw", none), "_law_draw", "_law_draw", defArgs s_law_draw, defBody s_law_draw, defScope s_law_draw, [], []⟩
def dd_law_pick : He.DefD := ⟨("_law_pick", none), "_law_pick", "_law_pick", defArgs s_law_pick, defBody s_law_pick, defScope s_law_pick, [], []⟩
def dd_law_refusal : He.DefD := ⟨("_law_refusal", none), "_law_refusal", "_law_refusal", defArgs s_law_refusal, defBody s_law_refusal, defScope s_law_refusal, [], []⟩
def dd_law_signs : He.DefD := ⟨("_law_signs", none), "_law_signs", "_law_signs", defArgs s_law_signs, defBody s_law_signs, defScope s_law_signs, [], []⟩
def dd_law_told : He.DefD := ⟨("_law_told", none), "_law_told", "_law_told", defArgs s_law_told, defBody s_law_told, defScope s_law_told, [], []⟩
def dd_law : He.DefD := ⟨("law", none), "law", "law", defArgs s_law, defBody s_law, defScope s_law, [], []⟩
def hfn : List He.DefD := [dd_look_name, dd_Shelf_init__, dd_Shelf_add, dd_Shelf_need, dd_Shelf_long, dd_Shelf_names, dd_law_cell, dd_law_mix, dd_law_draw, dd_law_pick, dd_law_refusal, dd_law_signs, dd_law_told, dd_law]
def hfa0 : List He.Fa := [.free "ValueError", .free "all", .free "isinstance", .free "len", .free "range", .free "sorted", .str "SMALL" "abcdefghijklmnopqrstuvwxyz", .int "MOST_NAME" 6, .int "MOST_TUNES" 6, .int "MOST_LONG" 40, .glo "RoadError", .glo "BadTune", .glo "BadNumber", .glo "BadEntry", .glo "BadWord", .glo "Shelf", .cls "Shelf", .mkr "Shelf", .noat "Shelf" "longs", .glo "look_name", .meth "Shelf" "__init__", .meth "Shelf" "add", .meth "Shelf" "need", .meth "Shelf" "long", .meth "Shelf" "names", .glo "_law_cell", .glo "_law_mix", .glo "_law_draw", .glo "_law_pick", .glo "_law_refusal"]
def hfa1 : List He.Fa := [.glo "_law_signs", .glo "_law_told", .glo "law"]
def hfa : List He.Fa := hfa0 ++ (hfa1)
def hx_x_RoadError (K : PySem.W.Frag) : Bool := PySem.W.excIn K (He.ga K "RoadError") He.veBase "ValueError.__new__"
def hx_k_RoadError (K : PySem.W.Frag) : Bool := PySem.W.keepIn K (.ref (He.ga K "RoadError"))
def hx_r_RoadError (K : PySem.W.Frag) : Bool := decide (PySem.W.subIn K (.ref (He.ga K "RoadError")) (.type "BaseException") = some true)
def hx_t_RoadError (K : PySem.W.Frag) : Bool := decide (PySem.W.typeIn K (.ref (He.ga K "RoadError")) = some (.type "type"))
def hx_e_RoadError_hg (K : PySem.W.Frag) : Bool := decide (PySem.W.findIn K (.ref (He.ga K "RoadError")) "__getattribute__" = some (some (.builtin "BaseException.__getattribute__")))
def hx_e_RoadError_hk (K : PySem.W.Frag) : Bool := decide (PySem.W.findIn K (.ref (He.ga K "RoadError")) "__getattr__" = some none)
def hx_e_RoadError_hd (K : PySem.W.Frag) : Bool := PySem.W.hasDictIn K (He.ga K "RoadError")
def hx_e_RoadError_ha (K : PySem.W.Frag) : Bool := decide (PySem.W.findIn K (.ref (He.ga K "RoadError")) "__class__" = some (some (.builtin "object.__class__")))
def hx_e_RoadError_hm (K : PySem.W.Frag) : Bool := decide (PySem.W.mroIn K (He.ga K "RoadError") (.type "object") = some true)
def hx_m_RoadError (K : PySem.W.Frag) : Bool := decide (PySem.W.exmOne K (.ref (He.ga K "RoadError")) (.ref (He.ga K "RoadError")) = some true)
def hx_i_RoadError_RoadError (K : PySem.W.Frag) : Bool := decide (PySem.W.kitOne K (.ref (He.ga K "RoadError")) (.ref (He.ga K "RoadError")) = some true)
def hx_i_RoadError_BadTune (K : PySem.W.Frag) : Bool := decide (PySem.W.kitOne K (.ref (He.ga K "RoadError")) (.ref (He.ga K "BadTune")) = some false)
def hx_i_RoadError_BadNumber (K : PySem.W.Frag) : Bool := decide (PySem.W.kitOne K (.ref (He.ga K "RoadError")) (.ref (He.ga K "BadNumber")) = some false)
def hx_i_RoadError_BadEntry (K : PySem.W.Frag) : Bool := decide (PySem.W.kitOne K (.ref (He.ga K "RoadError")) (.ref (He.ga K "BadEntry")) = some false)
def hx_i_RoadError_BadWord (K : PySem.W.Frag) : Bool := decide (PySem.W.kitOne K (.ref (He.ga K "RoadError")) (.ref (He.ga K "BadWord")) = some false)
def hx_i_RoadError_ValueError (K : PySem.W.Frag) : Bool := decide (PySem.W.kitOne K (.ref (He.ga K "RoadError")) (.type "ValueError") = some true)
def hx_x_BadTune (K : PySem.W.Frag) : Bool := PySem.W.excIn K (He.ga K "BadTune") He.veBase "ValueError.__new__"
def hx_k_BadTune (K : PySem.W.Frag) : Bool := PySem.W.keepIn K (.ref (He.ga K "BadTune"))
def hx_r_BadTune (K : PySem.W.Frag) : Bool := decide (PySem.W.subIn K (.ref (He.ga K "BadTune")) (.type "BaseException") = some true)
def hx_t_BadTune (K : PySem.W.Frag) : Bool := decide (PySem.W.typeIn K (.ref (He.ga K "BadTune")) = some (.type "type"))
def hx_e_BadTune_hg (K : PySem.W.Frag) : Bool := decide (PySem.W.findIn K (.ref (He.ga K "BadTune")) "__getattribute__" = some (some (.builtin "BaseException.__getattribute__")))
def hx_e_BadTune_hk (K : PySem.W.Frag) : Bool := decide (PySem.W.findIn K (.ref (He.ga K "BadTune")) "__getattr__" = some none)
def hx_e_BadTune_hd (K : PySem.W.Frag) : Bool := PySem.W.hasDictIn K (He.ga K "BadTune")
def hx_e_BadTune_ha (K : PySem.W.Frag) : Bool := decide (PySem.W.findIn K (.ref (He.ga K "BadTune")) "__class__" = some (some (.builtin "object.__class__")))
def hx_e_BadTune_hm (K : PySem.W.Frag) : Bool := decide (PySem.W.mroIn K (He.ga K "BadTune") (.type "object") = some true)
def hx_m_BadTune (K : PySem.W.Frag) : Bool := decide (PySem.W.exmOne K (.ref (He.ga K "BadTune")) (.ref (He.ga K "RoadError")) = some true)
def hx_i_BadTune_RoadError (K : PySem.W.Frag) : Bool := decide (PySem.W.kitOne K (.ref (He.ga K "BadTune")) (.ref (He.ga K "RoadError")) = some true)
def hx_i_BadTune_BadTune (K : PySem.W.Frag) : Bool := decide (PySem.W.kitOne K (.ref (He.ga K "BadTune")) (.ref (He.ga K "BadTune")) = some true)
def hx_i_BadTune_BadNumber (K : PySem.W.Frag) : Bool := decide (PySem.W.kitOne K (.ref (He.ga K "BadTune")) (.ref (He.ga K "BadNumber")) = some false)
def hx_i_BadTune_BadEntry (K : PySem.W.Frag) : Bool := decide (PySem.W.kitOne K (.ref (He.ga K "BadTune")) (.ref (He.ga K "BadEntry")) = some false)
def hx_i_BadTune_BadWord (K : PySem.W.Frag) : Bool := decide (PySem.W.kitOne K (.ref (He.ga K "BadTune")) (.ref (He.ga K "BadWord")) = some false)
def hx_i_BadTune_ValueError (K : PySem.W.Frag) : Bool := decide (PySem.W.kitOne K (.ref (He.ga K "BadTune")) (.type "ValueError") = some true)
def hx_x_BadNumber (K : PySem.W.Frag) : Bool := PySem.W.excIn K (He.ga K "BadNumber") He.veBase "ValueError.__new__"
def hx_k_BadNumber (K : PySem.W.Frag) : Bool := PySem.W.keepIn K (.ref (He.ga K "BadNumber"))
def hx_r_BadNumber (K : PySem.W.Frag) : Bool := decide (PySem.W.subIn K (.ref (He.ga K "BadNumber")) (.type "BaseException") = some true)
def hx_t_BadNumber (K : PySem.W.Frag) : Bool := decide (PySem.W.typeIn K (.ref (He.ga K "BadNumber")) = some (.type "type"))
def hx_e_BadNumber_hg (K : PySem.W.Frag) : Bool := decide (PySem.W.findIn K (.ref (He.ga K "BadNumber")) "__getattribute__" = some (some (.builtin "BaseException.__getattribute__")))
def hx_e_BadNumber_hk (K : PySem.W.Frag) : Bool := decide (PySem.W.findIn K (.ref (He.ga K "BadNumber")) "__getattr__" = some none)
def hx_e_BadNumber_hd (K : PySem.W.Frag) : Bool := PySem.W.hasDictIn K (He.ga K "BadNumber")
def hx_e_BadNumber_ha (K : PySem.W.Frag) : Bool := decide (PySem.W.findIn K (.ref (He.ga K "BadNumber")) "__class__" = some (some (.builtin "object.__class__")))
def hx_e_BadNumber_hm (K : PySem.W.Frag) : Bool := decide (PySem.W.mroIn K (He.ga K "BadNumber") (.type "object") = some true)
def hx_m_BadNumber (K : PySem.W.Frag) : Bool := decide (PySem.W.exmOne K (.ref (He.ga K "BadNumber")) (.ref (He.ga K "RoadError")) = some true)
def hx_i_BadNumber_RoadError (K : PySem.W.Frag) : Bool := decide (PySem.W.kitOne K (.ref (He.ga K "BadNumber")) (.ref (He.ga K "RoadError")) = some true)
def hx_i_BadNumber_BadTune (K : PySem.W.Frag) : Bool := decide (PySem.W.kitOne K (.ref (He.ga K "BadNumber")) (.ref (He.ga K "BadTune")) = some false)
def hx_i_BadNumber_BadNumber (K : PySem.W.Frag) : Bool := decide (PySem.W.kitOne K (.ref (He.ga K "BadNumber")) (.ref (He.ga K "BadNumber")) = some true)
def hx_i_BadNumber_BadEntry (K : PySem.W.Frag) : Bool := decide (PySem.W.kitOne K (.ref (He.ga K "BadNumber")) (.ref (He.ga K "BadEntry")) = some false)
def hx_i_BadNumber_BadWord (K : PySem.W.Frag) : Bool := decide (PySem.W.kitOne K (.ref (He.ga K "BadNumber")) (.ref (He.ga K "BadWord")) = some false)
def hx_i_BadNumber_ValueError (K : PySem.W.Frag) : Bool := decide (PySem.W.kitOne K (.ref (He.ga K "BadNumber")) (.type "ValueError") = some true)
def hx_x_BadEntry (K : PySem.W.Frag) : Bool := PySem.W.excIn K (He.ga K "BadEntry") He.veBase "ValueError.__new__"
def hx_k_BadEntry (K : PySem.W.Frag) : Bool := PySem.W.keepIn K (.ref (He.ga K "BadEntry"))
def hx_r_BadEntry (K : PySem.W.Frag) : Bool := decide (PySem.W.subIn K (.ref (He.ga K "BadEntry")) (.type "BaseException") = some true)
def hx_t_BadEntry (K : PySem.W.Frag) : Bool := decide (PySem.W.typeIn K (.ref (He.ga K "BadEntry")) = some (.type "type"))
def hx_e_BadEntry_hg (K : PySem.W.Frag) : Bool := decide (PySem.W.findIn K (.ref (He.ga K "BadEntry")) "__getattribute__" = some (some (.builtin "BaseException.__getattribute__")))
def hx_e_BadEntry_hk (K : PySem.W.Frag) : Bool := decide (PySem.W.findIn K (.ref (He.ga K "BadEntry")) "__getattr__" = some none)
def hx_e_BadEntry_hd (K : PySem.W.Frag) : Bool := PySem.W.hasDictIn K (He.ga K "BadEntry")
def hx_e_BadEntry_ha (K : PySem.W.Frag) : Bool := decide (PySem.W.findIn K (.ref (He.ga K "BadEntry")) "__class__" = some (some (.builtin "object.__class__")))
def hx_e_BadEntry_hm (K : PySem.W.Frag) : Bool := decide (PySem.W.mroIn K (He.ga K "BadEntry") (.type "object") = some true)
def hx_m_BadEntry (K : PySem.W.Frag) : Bool := decide (PySem.W.exmOne K (.ref (He.ga K "BadEntry")) (.ref (He.ga K "RoadError")) = some true)
def hx_i_BadEntry_RoadError (K : PySem.W.Frag) : Bool := decide (PySem.W.kitOne K (.ref (He.ga K "BadEntry")) (.ref (He.ga K "RoadError")) = some true)
def hx_i_BadEntry_BadTune (K : PySem.W.Frag) : Bool := decide (PySem.W.kitOne K (.ref (He.ga K "BadEntry")) (.ref (He.ga K "BadTune")) = some false)
def hx_i_BadEntry_BadNumber (K : PySem.W.Frag) : Bool := decide (PySem.W.kitOne K (.ref (He.ga K "BadEntry")) (.ref (He.ga K "BadNumber")) = some false)
def hx_i_BadEntry_BadEntry (K : PySem.W.Frag) : Bool := decide (PySem.W.kitOne K (.ref (He.ga K "BadEntry")) (.ref (He.ga K "BadEntry")) = some true)
def hx_i_BadEntry_BadWord (K : PySem.W.Frag) : Bool := decide (PySem.W.kitOne K (.ref (He.ga K "BadEntry")) (.ref (He.ga K "BadWord")) = some false)
def hx_i_BadEntry_ValueError (K : PySem.W.Frag) : Bool := decide (PySem.W.kitOne K (.ref (He.ga K "BadEntry")) (.type "ValueError") = some true)
def hx_x_BadWord (K : PySem.W.Frag) : Bool := PySem.W.excIn K (He.ga K "BadWord") He.veBase "ValueError.__new__"
def hx_k_BadWord (K : PySem.W.Frag) : Bool := PySem.W.keepIn K (.ref (He.ga K "BadWord"))
def hx_r_BadWord (K : PySem.W.Frag) : Bool := decide (PySem.W.subIn K (.ref (He.ga K "BadWord")) (.type "BaseException") = some true)
def hx_t_BadWord (K : PySem.W.Frag) : Bool := decide (PySem.W.typeIn K (.ref (He.ga K "BadWord")) = some (.type "type"))
def hx_e_BadWord_hg (K : PySem.W.Frag) : Bool := decide (PySem.W.findIn K (.ref (He.ga K "BadWord")) "__getattribute__" = some (some (.builtin "BaseException.__getattribute__")))
def hx_e_BadWord_hk (K : PySem.W.Frag) : Bool := decide (PySem.W.findIn K (.ref (He.ga K "BadWord")) "__getattr__" = some none)
def hx_e_BadWord_hd (K : PySem.W.Frag) : Bool := PySem.W.hasDictIn K (He.ga K "BadWord")
def hx_e_BadWord_ha (K : PySem.W.Frag) : Bool := decide (PySem.W.findIn K (.ref (He.ga K "BadWord")) "__class__" = some (some (.builtin "object.__class__")))
def hx_e_BadWord_hm (K : PySem.W.Frag) : Bool := decide (PySem.W.mroIn K (He.ga K "BadWord") (.type "object") = some true)
def hx_m_BadWord (K : PySem.W.Frag) : Bool := decide (PySem.W.exmOne K (.ref (He.ga K "BadWord")) (.ref (He.ga K "RoadError")) = some true)
def hx_i_BadWord_RoadError (K : PySem.W.Frag) : Bool := decide (PySem.W.kitOne K (.ref (He.ga K "BadWord")) (.ref (He.ga K "RoadError")) = some true)
def hx_i_BadWord_BadTune (K : PySem.W.Frag) : Bool := decide (PySem.W.kitOne K (.ref (He.ga K "BadWord")) (.ref (He.ga K "BadTune")) = some false)
def hx_i_BadWord_BadNumber (K : PySem.W.Frag) : Bool := decide (PySem.W.kitOne K (.ref (He.ga K "BadWord")) (.ref (He.ga K "BadNumber")) = some false)
def hx_i_BadWord_BadEntry (K : PySem.W.Frag) : Bool := decide (PySem.W.kitOne K (.ref (He.ga K "BadWord")) (.ref (He.ga K "BadEntry")) = some false)
def hx_i_BadWord_BadWord (K : PySem.W.Frag) : Bool := decide (PySem.W.kitOne K (.ref (He.ga K "BadWord")) (.ref (He.ga K "BadWord")) = some true)
def hx_i_BadWord_ValueError (K : PySem.W.Frag) : Bool := decide (PySem.W.kitOne K (.ref (He.ga K "BadWord")) (.type "ValueError") = some true)
def hx_e_hn (K : PySem.W.Frag) : Bool := decide (PySem.W.specialIn K (.builtin "object.__class__") "__get__" = some (some (.builtin "getset_descriptor.__get__")))
def hx_e_ht (K : PySem.W.Frag) : Bool := decide (PySem.W.takesIn K (.builtin "object.__class__") = some true)
def hxs0 : List (PySem.W.Frag → Bool) := [hx_x_RoadError, hx_k_RoadError, hx_r_RoadError, hx_t_RoadError, hx_e_RoadError_hg, hx_e_RoadError_hk, hx_e_RoadError_hd, hx_e_RoadError_ha, hx_e_RoadError_hm, hx_m_RoadError, hx_i_RoadError_RoadError, hx_i_RoadError_BadTune, hx_i_RoadError_BadNumber, hx_i_RoadError_BadEntry, hx_i_RoadError_BadWord, hx_i_RoadError_ValueError, hx_x_BadTune, hx_k_BadTune, hx_r_BadTune, hx_t_BadTune, hx_e_BadTune_hg, hx_e_BadTune_hk, hx_e_BadTune_hd, hx_e_BadTune_ha, hx_e_BadTune_hm]
def hxs1 : List (PySem.W.Frag → Bool) := [hx_m_BadTune, hx_i_BadTune_RoadError, hx_i_BadTune_BadTune, hx_i_BadTune_BadNumber, hx_i_BadTune_BadEntry, hx_i_BadTune_BadWord, hx_i_BadTune_ValueError, hx_x_BadNumber, hx_k_BadNumber, hx_r_BadNumber, hx_t_BadNumber, hx_e_BadNumber_hg, hx_e_BadNumber_hk, hx_e_BadNumber_hd, hx_e_BadNumber_ha, hx_e_BadNumber_hm, hx_m_BadNumber, hx_i_BadNumber_RoadError, hx_i_BadNumber_BadTune, hx_i_BadNumber_BadNumber, hx_i_BadNumber_BadEntry, hx_i_BadNumber_BadWord, hx_i_BadNumber_ValueError, hx_x_BadEntry, hx_k_BadEntry]
def hxs2 : List (PySem.W.Frag → Bool) := [hx_r_BadEntry, hx_t_BadEntry, hx_e_BadEntry_hg, hx_e_BadEntry_hk, hx_e_BadEntry_hd, hx_e_BadEntry_ha, hx_e_BadEntry_hm, hx_m_BadEntry, hx_i_BadEntry_RoadError, hx_i_BadEntry_BadTune, hx_i_BadEntry_BadNumber, hx_i_BadEntry_BadEntry, hx_i_BadEntry_BadWord, hx_i_BadEntry_ValueError, hx_x_BadWord, hx_k_BadWord, hx_r_BadWord, hx_t_BadWord, hx_e_BadWord_hg, hx_e_BadWord_hk, hx_e_BadWord_hd, hx_e_BadWord_ha, hx_e_BadWord_hm, hx_m_BadWord, hx_i_BadWord_RoadError]
def hxs3 : List (PySem.W.Frag → Bool) := [hx_i_BadWord_BadTune, hx_i_BadWord_BadNumber, hx_i_BadWord_BadEntry, hx_i_BadWord_BadWord, hx_i_BadWord_ValueError, hx_e_hn, hx_e_ht]
def hxs : List (PySem.W.Frag → Bool) := hxs0 ++ (hxs1 ++ (hxs2 ++ (hxs3)))
def hex (K : PySem.W.Frag) : Bool := hxs.all fun f => f K
theorem hex_at {K : PySem.W.Frag} (h : hex K = true) (i : Nat) {f : PySem.W.Frag → Bool} (e : hxs[i]? = some f := by rfl) : f K = true := List.all_eq_true.mp h f (List.mem_of_getElem? e)
abbrev hR : PySem.W.OpenRow := PySem.W.OpenLaw.row PySem.Challenge.rw_tuneroad_k01_whole_shelves
abbrev hhk : PySem.W.Hook := hookM hfa hfn hex
def hob (s : PySem.W.SharedT) : AlM := obsM hfa hfn hex (HandSHeadRun.getT s)
theorem hob_eq (s : PySem.W.SharedT) : hob s = hhk.obs s.abs := obsM_eq (HandSHeadRun.getT_eq s)
def hnm0 : List PySem.Str := ["RoadError", "BadTune", "BadNumber", "BadEntry", "BadWord", "SMALL", "MOST_NAME", "MOST_TUNES", "MOST_LONG", "look_name", "Shelf", "_law_cell", "_law_mix", "_law_draw", "_law_pick", "_law_refusal", "_law_signs", "_law_told"]
def hnm : List PySem.Str := hnm0
theorem hrun2 (w : World) : ∀ os, (HandSHeadRun.endF (HandSHeadRun.stepQ (HandSHeadRun.denQ HandSHeadRun.tabQ) hR.prog w) 20000 hR.prog w os).map hob = some (hhk.val w) := by
  intro os
  kernel_rfl
theorem hrun (w : World) : HandSHeadRun.RunEq hR (PySem.W.view hR.prog [21]) hhk hob 20000 hnm w := by
  refine run_split (fun os => ?_) (hrun2 w)
  kernel_rfl
theorem txt_of {K : PySem.W.Frag} {h : Heap} {mg : Str → Option Value} (X : K.In h) (G : h.Ns mainGlobals mg) (c : SaysM hfa hfn hex K) : ∃ A : Ads, Txt K mg A := by
  have cd := c.d
  have cx := c.more
  obtain ⟨d_look_name, F_look_name⟩ := cd.def_ 0 (d := dd_look_name) rfl
  obtain ⟨d_Shelf_init__, F_Shelf_init__⟩ := cd.def_ 1 (d := dd_Shelf_init__) rfl
  obtain ⟨d_Shelf_add, F_Shelf_add⟩ := cd.def_ 2 (d := dd_Shelf_add) rfl
  obtain ⟨d_Shelf_need, F_Shelf_need⟩ := cd.def_ 3 (d := dd_Shelf_need) rfl
  obtain ⟨d_Shelf_long, F_Shelf_long⟩ := cd.def_ 4 (d := dd_Shelf_long) rfl
  obtain ⟨d_Shelf_names, F_Shelf_names⟩ := cd.def_ 5 (d := dd_Shelf_names) rfl
  obtain ⟨d_law_cell, F_law_cell⟩ := cd.def_ 6 (d := dd_law_cell) rfl
  obtain ⟨d_law_mix, F_law_mix⟩ := cd.def_ 7 (d := dd_law_mix) rfl
  obtain ⟨d_law_draw, F_law_draw⟩ := cd.def_ 8 (d := dd_law_draw) rfl
  obtain ⟨d_law_pick, F_law_pick⟩ := cd.def_ 9 (d := dd_law_pick) rfl
  obtain ⟨d_law_refusal, F_law_refusal⟩ := cd.def_ 10 (d := dd_law_refusal) rfl
  obtain ⟨d_law_signs, F_law_signs⟩ := cd.def_ 11 (d := dd_law_signs) rfl
  obtain ⟨d_law_told, F_law_told⟩ := cd.def_ 12 (d := dd_law_told) rfl
  obtain ⟨d_law, F_law⟩ := cd.def_ 13 (d := dd_law) rfl
  refine ⟨{ c_RoadError := He.ga K "RoadError", c_BadTune := He.ga K "BadTune", c_BadNumber := He.ga K "BadNumber", c_BadEntry := He.ga K "BadEntry", c_BadWord := He.ga K "BadWord", c_Shelf := He.ga K "Shelf", f_look_name := He.fAd K ("look_name", none), f_Shelf_init__ := He.fAd K ("Shelf", some "__init__"), f_Shelf_add := He.fAd K ("Shelf", some "add"), f_Shelf_need := He.fAd K ("Shelf", some "need"), f_Shelf_long := He.fAd K ("Shelf", some "long"), f_Shelf_names := He.fAd K ("Shelf", some "names"), f_law_cell := He.fAd K ("_law_cell", none), f_law_mix := He.fAd K ("_law_mix", none), f_law_draw := He.fAd K ("_law_draw", none), f_law_pick := He.fAd K ("_law_pick", none), f_law_refusal := He.fAd K ("_law_refusal", none), f_law_signs := He.fAd K ("_law_signs", none), f_law_told := He.fAd K ("_law_told", none), f_law := He.fAd K ("law", none), d_look_name := d_look_name, d_Shelf_init__ := d_Shelf_init__, d_Shelf_add := d_Shelf_add, d_Shelf_need := d_Shelf_need, d_Shelf_long := d_Shelf_long, d_Shelf_names := d_Shelf_names, d_law_cell := d_law_cell, d_law_mix := d_law_mix, d_law_draw := d_law_draw, d_law_pick := d_law_pick, d_law_refusal := d_law_refusal, d_law_signs := d_law_signs, d_law_told := d_law_told, d_law := d_law }, ?_⟩
  exact {
    z_ValueError := He.free_ok X G (cd.fact 0 (f := .free "ValueError") rfl),
    z_all := He.free_ok X G (cd.fact 1 (f := .free "all") rfl),
    z_isinstance := He.free_ok X G (cd.fact 2 (f := .free "isinstance") rfl),
    z_len := He.free_ok X G (cd.fact 3 (f := .free "len") rfl),
    z_range := He.free_ok X G (cd.fact 4 (f := .free "range") rfl),
    z_sorted := He.free_ok X G (cd.fact 5 (f := .free "sorted") rfl),
    gi_SMALL := He.str_ok X G (cd.fact 6 (f := .str "SMALL" "abcdefghijklmnopqrstuvwxyz") rfl),
    gi_MOST_NAME := He.int_ok X G (cd.fact 7 (f := .int "MOST_NAME" 6) rfl),
    gi_MOST_TUNES := He.int_ok X G (cd.fact 8 (f := .int "MOST_TUNES" 6) rfl),
    gi_MOST_LONG := He.int_ok X G (cd.fact 9 (f := .int "MOST_LONG" 40) rfl),
    g_RoadError := He.glo_ok X G (cd.fact 10 (f := .glo "RoadError") rfl),
    g_BadTune := He.glo_ok X G (cd.fact 11 (f := .glo "BadTune") rfl),
    g_BadNumber := He.glo_ok X G (cd.fact 12 (f := .glo "BadNumber") rfl),
    g_BadEntry := He.glo_ok X G (cd.fact 13 (f := .glo "BadEntry") rfl),
    g_BadWord := He.glo_ok X G (cd.fact 14 (f := .glo "BadWord") rfl),
    g_Shelf := He.glo_ok X G (cd.fact 15 (f := .glo "Shelf") rfl),
    c_Shelf := He.cls_ok (cd.fact 16 (f := .cls "Shelf") rfl),
    M_Shelf := He.mkr_ok (cd.fact 17 (f := .mkr "Shelf") rfl),
    n_Shelf_longs := He.noat_ok (cd.fact 18 (f := .noat "Shelf" "longs") rfl),
    x_RoadError := (hex_at cx 0 (f := hx_x_RoadError)),
    k_RoadError := (hex_at cx 1 (f := hx_k_RoadError)),
    r_RoadError := (of_decide_eq_true (hex_at cx 2 (f := hx_r_RoadError))),
    t_RoadError := (of_decide_eq_true (hex_at cx 3 (f := hx_t_RoadError))),
    e_RoadError := ⟨(of_decide_eq_true (hex_at cx 4 (f := hx_e_RoadError_hg))), (of_decide_eq_true (hex_at cx 5 (f := hx_e_RoadError_hk))), (of_decide_eq_true (hex_at cx 2 (f := hx_r_RoadError))), (hex_at cx 6 (f := hx_e_RoadError_hd)), (of_decide_eq_true (hex_at cx 7 (f := hx_e_RoadError_ha))), (of_decide_eq_true (hex_at cx 80 (f := hx_e_hn))), (of_decide_eq_true (hex_at cx 81 (f := hx_e_ht))), (of_decide_eq_true (hex_at cx 8 (f := hx_e_RoadError_hm)))⟩,
    m_RoadError := (of_decide_eq_true (hex_at cx 9 (f := hx_m_RoadError))),
    i_RoadError_RoadError := (of_decide_eq_true (hex_at cx 10 (f := hx_i_RoadError_RoadError))),
    i_RoadError_BadTune := (of_decide_eq_true (hex_at cx 11 (f := hx_i_RoadError_BadTune))),
    i_RoadError_BadNumber := (of_decide_eq_true (hex_at cx 12 (f := hx_i_RoadError_BadNumber))),
    i_RoadError_BadEntry := (of_decide_eq_true (hex_at cx 13 (f := hx_i_RoadError_BadEntry))),
    i_RoadError_BadWord := (of_decide_eq_true (hex_at cx 14 (f := hx_i_RoadError_BadWord))),
    i_RoadError_ValueError := (of_decide_eq_true (hex_at cx 15 (f := hx_i_RoadError_ValueError))),
    x_BadTune := (hex_at cx 16 (f := hx_x_BadTune)),
    k_BadTune := (hex_at cx 17 (f := hx_k_BadTune)),
    r_BadTune := (of_decide_eq_true (hex_at cx 18 (f := hx_r_BadTune))),
    t_BadTune := (of_decide_eq_true (hex_at cx 19 (f := hx_t_BadTune))),
    e_BadTune := ⟨(of_decide_eq_true (hex_at cx 20 (f := hx_e_BadTune_hg))), (of_decide_eq_true (hex_at cx 21 (f := hx_e_BadTune_hk))), (of_decide_eq_true (hex_at cx 18 (f := hx_r_BadTune))), (hex_at cx 22 (f := hx_e_BadTune_hd)), (of_decide_eq_true (hex_at cx 23 (f := hx_e_BadTune_ha))), (of_decide_eq_true (hex_at cx 80 (f := hx_e_hn))), (of_decide_eq_true (hex_at cx 81 (f := hx_e_ht))), (of_decide_eq_true (hex_at cx 24 (f := hx_e_BadTune_hm)))⟩,
    m_BadTune := (of_decide_eq_true (hex_at cx 25 (f := hx_m_BadTune))),
    i_BadTune_RoadError := (of_decide_eq_true (hex_at cx 26 (f := hx_i_BadTune_RoadError))),
    i_BadTune_BadTune := (of_decide_eq_true (hex_at cx 27 (f := hx_i_BadTune_BadTune))),
    i_BadTune_BadNumber := (of_decide_eq_true (hex_at cx 28 (f := hx_i_BadTune_BadNumber))),
    i_BadTune_BadEntry := (of_decide_eq_true (hex_at cx 29 (f := hx_i_BadTune_BadEntry))),
    i_BadTune_BadWord := (of_decide_eq_true (hex_at cx 30 (f := hx_i_BadTune_BadWord))),
    i_BadTune_ValueError := (of_decide_eq_true (hex_at cx 31 (f := hx_i_BadTune_ValueError))),
    x_BadNumber := (hex_at cx 32 (f := hx_x_BadNumber)),
    k_BadNumber := (hex_at cx 33 (f := hx_k_BadNumber)),
    r_BadNumber := (of_decide_eq_true (hex_at cx 34 (f := hx_r_BadNumber))),
    t_BadNumber := (of_decide_eq_true (hex_at cx 35 (f := hx_t_BadNumber))),
    e_BadNumber := ⟨(of_decide_eq_true (hex_at cx 36 (f := hx_e_BadNumber_hg))), (of_decide_eq_true (hex_at cx 37 (f := hx_e_BadNumber_hk))), (of_decide_eq_true (hex_at cx 34 (f := hx_r_BadNumber))), (hex_at cx 38 (f := hx_e_BadNumber_hd)), (of_decide_eq_true (hex_at cx 39 (f := hx_e_BadNumber_ha))), (of_decide_eq_true (hex_at cx 80 (f := hx_e_hn))), (of_decide_eq_true (hex_at cx 81 (f := hx_e_ht))), (of_decide_eq_true (hex_at cx 40 (f := hx_e_BadNumber_hm)))⟩,
    m_BadNumber := (of_decide_eq_true (hex_at cx 41 (f := hx_m_BadNumber))),
    i_BadNumber_RoadError := (of_decide_eq_true (hex_at cx 42 (f := hx_i_BadNumber_RoadError))),
    i_BadNumber_BadTune := (of_decide_eq_true (hex_at cx 43 (f := hx_i_BadNumber_BadTune))),
    i_BadNumber_BadNumber := (of_decide_eq_true (hex_at cx 44 (f := hx_i_BadNumber_BadNumber))),
    i_BadNumber_BadEntry := (of_decide_eq_true (hex_at cx 45 (f := hx_i_BadNumber_BadEntry))),
    i_BadNumber_BadWord := (of_decide_eq_true (hex_at cx 46 (f := hx_i_BadNumber_BadWord))),
    i_BadNumber_ValueError := (of_decide_eq_true (hex_at cx 47 (f := hx_i_BadNumber_ValueError))),
    x_BadEntry := (hex_at cx 48 (f := hx_x_BadEntry)),
    k_BadEntry := (hex_at cx 49 (f := hx_k_BadEntry)),
    r_BadEntry := (of_decide_eq_true (hex_at cx 50 (f := hx_r_BadEntry))),
    t_BadEntry := (of_decide_eq_true (hex_at cx 51 (f := hx_t_BadEntry))),
    e_BadEntry := ⟨(of_decide_eq_true (hex_at cx 52 (f := hx_e_BadEntry_hg))), (of_decide_eq_true (hex_at cx 53 (f := hx_e_BadEntry_hk))), (of_decide_eq_true (hex_at cx 50 (f := hx_r_BadEntry))), (hex_at cx 54 (f := hx_e_BadEntry_hd)), (of_decide_eq_true (hex_at cx 55 (f := hx_e_BadEntry_ha))), (of_decide_eq_true (hex_at cx 80 (f := hx_e_hn))), (of_decide_eq_true (hex_at cx 81 (f := hx_e_ht))), (of_decide_eq_true (hex_at cx 56 (f := hx_e_BadEntry_hm)))⟩,
    m_BadEntry := (of_decide_eq_true (hex_at cx 57 (f := hx_m_BadEntry))),
    i_BadEntry_RoadError := (of_decide_eq_true (hex_at cx 58 (f := hx_i_BadEntry_RoadError))),
    i_BadEntry_BadTune := (of_decide_eq_true (hex_at cx 59 (f := hx_i_BadEntry_BadTune))),
    i_BadEntry_BadNumber := (of_decide_eq_true (hex_at cx 60 (f := hx_i_BadEntry_BadNumber))),
    i_BadEntry_BadEntry := (of_decide_eq_true (hex_at cx 61 (f := hx_i_BadEntry_BadEntry))),
    i_BadEntry_BadWord := (of_decide_eq_true (hex_at cx 62 (f := hx_i_BadEntry_BadWord))),
    i_BadEntry_ValueError := (of_decide_eq_true (hex_at cx 63 (f := hx_i_BadEntry_ValueError))),
    x_BadWord := (hex_at cx 64 (f := hx_x_BadWord)),
    k_BadWord := (hex_at cx 65 (f := hx_k_BadWord)),
    r_BadWord := (of_decide_eq_true (hex_at cx 66 (f := hx_r_BadWord))),
    t_BadWord := (of_decide_eq_true (hex_at cx 67 (f := hx_t_BadWord))),
    e_BadWord := ⟨(of_decide_eq_true (hex_at cx 68 (f := hx_e_BadWord_hg))), (of_decide_eq_true (hex_at cx 69 (f := hx_e_BadWord_hk))), (of_decide_eq_true (hex_at cx 66 (f := hx_r_BadWord))), (hex_at cx 70 (f := hx_e_BadWord_hd)), (of_decide_eq_true (hex_at cx 71 (f := hx_e_BadWord_ha))), (of_decide_eq_true (hex_at cx 80 (f := hx_e_hn))), (of_decide_eq_true (hex_at cx 81 (f := hx_e_ht))), (of_decide_eq_true (hex_at cx 72 (f := hx_e_BadWord_hm)))⟩,
    m_BadWord := (of_decide_eq_true (hex_at cx 73 (f := hx_m_BadWord))),
    i_BadWord_RoadError := (of_decide_eq_true (hex_at cx 74 (f := hx_i_BadWord_RoadError))),
    i_BadWord_BadTune := (of_decide_eq_true (hex_at cx 75 (f := hx_i_BadWord_BadTune))),
    i_BadWord_BadNumber := (of_decide_eq_true (hex_at cx 76 (f := hx_i_BadWord_BadNumber))),
    i_BadWord_BadEntry := (of_decide_eq_true (hex_at cx 77 (f := hx_i_BadWord_BadEntry))),
    i_BadWord_BadWord := (of_decide_eq_true (hex_at cx 78 (f := hx_i_BadWord_BadWord))),
    i_BadWord_ValueError := (of_decide_eq_true (hex_at cx 79 (f := hx_i_BadWord_ValueError))),
    F_look_name := fun_of F_look_name,
    b_look_name := FunD.bindsN F_look_name (fun _ _ _ _ _ _ us hl => match us, hl with | [_], _ => rfl),
    g_look_name := He.glo_ok X G (cd.fact 19 (f := .glo "look_name") rfl),
    k_look_name := F_look_name.kp,
    F_Shelf_init__ := fun_of F_Shelf_init__,
    b_Shelf_init__ := FunD.bindsN F_Shelf_init__ (fun _ _ _ _ _ _ us hl => match us, hl with | [_], _ => rfl),
    m_Shelf_init__ := He.meth_ok (cd.fact 20 (f := .meth "Shelf" "__init__") rfl),
    F_Shelf_add := fun_of F_Shelf_add,
    b_Shelf_add := FunD.bindsN F_Shelf_add (fun _ _ _ _ _ _ us hl => match us, hl with | [_, _, _], _ => rfl),
    m_Shelf_add := He.meth_ok (cd.fact 21 (f := .meth "Shelf" "add") rfl),
    F_Shelf_need := fun_of F_Shelf_need,
    b_Shelf_need := FunD.bindsN F_Shelf_need (fun _ _ _ _ _ _ us hl => match us, hl with | [_, _], _ => rfl),
    m_Shelf_need := He.meth_ok (cd.fact 22 (f := .meth "Shelf" "need") rfl),
    F_Shelf_long := fun_of F_Shelf_long,
    b_Shelf_long := FunD.bindsN F_Shelf_long (fun _ _ _ _ _ _ us hl => match us, hl with | [_, _], _ => rfl),
    m_Shelf_long := He.meth_ok (cd.fact 23 (f := .meth "Shelf" "long") rfl),
    F_Shelf_names := fun_of F_Shelf_names,
    b_Shelf_names := FunD.bindsN F_Shelf_names (fun _ _ _ _ _ _ us hl => match us, hl with | [_], _ => rfl),
    m_Shelf_names := He.meth_ok (cd.fact 24 (f := .meth "Shelf" "names") rfl),
    F_law_cell := fun_of F_law_cell,
    b_law_cell := FunD.bindsN F_law_cell (fun _ _ _ _ _ _ us hl => match us, hl with | [_, _], _ => rfl),
    g_law_cell := He.glo_ok X G (cd.fact 25 (f := .glo "_law_cell") rfl),
    k_law_cell := F_law_cell.kp,
    F_law_mix := fun_of F_law_mix,
    b_law_mix := FunD.bindsN F_law_mix (fun _ _ _ _ _ _ us hl => match us, hl with | [_, _], _ => rfl),
    g_law_mix := He.glo_ok X G (cd.fact 26 (f := .glo "_law_mix") rfl),
    k_law_mix := F_law_mix.kp,
    F_law_draw := fun_of F_law_draw,
    b_law_draw := FunD.bindsN F_law_draw (fun _ _ _ _ _ _ us hl => match us, hl with | [_, _, _], _ => rfl),
    g_law_draw := He.glo_ok X G (cd.fact 27 (f := .glo "_law_draw") rfl),
    k_law_draw := F_law_draw.kp,
    F_law_pick := fun_of F_law_pick,
    b_law_pick := FunD.bindsN F_law_pick (fun _ _ _ _ _ _ us hl => match us, hl with | [_, _, _], _ => rfl),
    g_law_pick := He.glo_ok X G (cd.fact 28 (f := .glo "_law_pick") rfl),
    k_law_pick := F_law_pick.kp,
    F_law_refusal := fun_of F_law_refusal,
    b_law_refusal := FunD.bindsN F_law_refusal (fun _ _ _ _ _ _ us hl => match us, hl with | [_], _ => rfl),
    g_law_refusal := He.glo_ok X G (cd.fact 29 (f := .glo "_law_refusal") rfl),
    k_law_refusal := F_law_refusal.kp,
    F_law_signs := fun_of F_law_signs,
    b_law_signs := FunD.bindsN F_law_signs (fun _ _ _ _ _ _ us hl => match us, hl with | [], _ => rfl),
    g_law_signs := He.glo_ok X G (cd.fact 30 (f := .glo "_law_signs") rfl),
    k_law_signs := F_law_signs.kp,
    F_law_told := fun_of F_law_told,
    b_law_told := FunD.bindsN F_law_told (fun _ _ _ _ _ _ us hl => match us, hl with | [_, _, _], _ => rfl),
    g_law_told := He.glo_ok X G (cd.fact 31 (f := .glo "_law_told") rfl),
    k_law_told := F_law_told.kp,
    F_law := fun_of F_law,
    b_law := FunD.bindsN F_law (fun _ _ _ _ _ _ us hl => match us, hl with | [_], _ => rfl),
    g_law := He.glo_ok X G (cd.fact 32 (f := .glo "law") rfl),
    k_law := F_law.kp }
end TR
open PySem PySem.W PySem.Calls PyProof.Rows in
set_option maxRecDepth 100000 in
set_option maxHeartbeats 0 in
theorem PySem.Challenge.cw_tuneroad_k01_whole_shelves_holds : PySem.Challenge.rw_tuneroad_k01_whole_shelves.Holds := by
  w_on; o_law
  refine HandSHeadRun.head_any (r := OpenLaw.row PySem.Challenge.rw_tuneroad_k01_whole_shelves) (q := view (OpenLaw.row PySem.Challenge.rw_tuneroad_k01_whole_shelves).prog [21]) (H := TR.hhk) (ob := TR.hob) (M := 20000) (loose := TR.hnm) (d := HandSHeadRun.topDef (OpenLaw.row PySem.Challenge.rw_tuneroad_k01_whole_shelves).prog 21) (kwd := []) TR.hob_eq
    (by kernel_rfl) (fun s => by kernel_rfl) TR.hrun (by kernel_rfl) (by kernel_rfl) (by kernel_rfl) (by rfl) (by first | assumption | decide +kernel) (by decide +kernel) ⟨rfl, rfl, rfl, rfl, rfl, by decide +kernel⟩ ?hw ?hc
  case hw => w_witness2
  case hc =>
    refine TR.law_end (l := PySem.Challenge.rw_tuneroad_k01_whole_shelves) (n := 63) (k := 5) (x := "script") rfl (by decide) (by kernel_rfl) ⟨rfl, by decide, by decide⟩ ?F
    intro w mg fa h Y G hmg0
    obtain ⟨K, KX, c⟩ := Y
    have hmg : mg ("law" : PySem.Str) = some (.ref fa) := by
      have e : (HandSHeadRun.topDef (OpenLaw.row PySem.Challenge.rw_tuneroad_k01_whole_shelves).prog 21).name = ("law" : PySem.Str) := by kernel_rfl
      rw [← e]
      exact hmg0
    obtain ⟨A, T⟩ := TR.txt_of KX G c
    have e := hmg.symm.trans T.g_law
    cases e
    exact ⟨K, A.d_law, TR.sp_law K, KX, fun s v => TR.binds1 T.F_law (fun _ _ _ _ _ _ us hl => match us, hl with | [_], _ => rfl) s v, fun H a ns hl hO hS => TR.law_pre hl hO hS, fun base _ _ => TR.ok_law T⟩

